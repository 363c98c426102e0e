/- Parts of the proof: the calculus of walks, contracts of functions, plain laws; each theorem states its conditions. -/
import Derived.Test.YtalbicndcfmbnaaGreatDoorRab
import Derived.Lib.UnsafeStr
import Derived.Shelf.Strings.Builder1
import Derived.KernelRfl
import Derived.Lib.SlTrimSet
import Derived.Lib.Bytealg
import Derived.Lib.Atoi
set_option linter.all false
open Nat (reduceEqDiff)
section
namespace Go.Ir
open Go.RowKit
noncomputable section
variable[F4]
def NX(m:Nat)(v:V):Bool:=V.rec (motive_1:=λ_=>Bool) (motive_2:=λ_=>Bool) (λ_=>true) (λ_ _=>true) (λ_=>true) true (λ_ h=>h) (λ_ h=>h) (λ_ h=>h) (λid _=>Nat.blt id.1 m) (λid=>Nat.blt id.1 m) (λid _ _ _=>Nat.blt id.1 m) (λ_ _ h=>h) (λ_ _ _ e g=>e&&g) true true true true true true true true (λ_ _ e g=>e&&g) v
def JO(m:Nat):List V->Bool
 | []=>true
 | v::vs=>NX m v&&JO m vs
theorem MB{a m:Nat}(h:Nat.blt a m=true):a<m:=AzM ▸ h
def Apf(m:Nat)(vs:List V):Bool:=V.rec_1 (motive_1:=λ_=>Bool) (motive_2:=λ_=>Bool) (λ_=>true) (λ_ _=>true) (λ_=>true) true (λ_ h=>h) (λ_ h=>h) (λ_ h=>h) (λid _=>Nat.blt id.1 m) (λid=>Nat.blt id.1 m) (λid _ _ _=>Nat.blt id.1 m) (λ_ _ h=>h) (λ_ _ _ e g=>e&&g) true true true true true true true true (λ_ _ e g=>e&&g) vs
theorem Hl(m:Nat):∀vs:List V,Apf m vs=JO m vs
 | []=>rfl
 | v::vs=>by show(NX m v&&Apf m vs)=_;rw[Hl m vs];rfl
theorem Ak2{m:Nat}{es:List V}:NX m (.sl es)=JO m es:=Hl m es
theorem AbV{m:Nat}{es:List V}:NX m (.agg es)=JO m es:=Hl m es
theorem AaQ{m:Nat}{es:List V}:NX m (.tup es)=JO m es:=Hl m es
theorem Ai1{m:Nat}{f:FuncId}{a c:List V}:NX m (.fn f a c)=(JO m a&&JO m c):=by rw[<-Hl,<-Hl];rfl
theorem DH{m:Nat}:(∀v:V,NX m v=true->Bb (Lt m) v)/\∀vs:List V,JO m vs=true->∀v∈vs,Bb (Lt m) v:=by
 have key:∀n:Nat,(∀v:V,SizeOf.sizeOf v<n->NX m v=true->Bb (Lt m) v)/\∀vs:List V,SizeOf.sizeOf vs<n->JO m vs=true->∀v∈vs,Bb (Lt m) v:=by
  intro n
  induction n with
  | zero=>grind
  | succ n j=>
   refine⟨λv g h=>?_,λvs g h=>?_⟩
   .cases v with
    | sl es=>simp at g;exact .sl _ (j.2 es (by omega) (by rw[<-Ak2];exact h))
    | agg es=>simp at g;exact .agg _ (j.2 es (by omega) (by rw[<-AbV];exact h))
    | tup es=>simp at g;exact .tup _ (j.2 es (by omega) (by rw[<-AaQ];exact h))
    | fn f a c=>simp at g;rw[Ai1,A0b] at h;exact .fn _ _ _ (j.2 a (by omega) h.1) (j.2 c (by omega) h.2)
    | b x=>exact .b x
    | i k n=>exact .i k n
    | s l=>exact .s l
    | nil=>exact .nil
    | np=>exact .np
    | nf=>exact .nf
    | ni=>exact .ni
    | nm=>exact .nm
    | ub=>exact .ub
    | iv=>exact .iv
    | any=>exact .any
    | ref=>exact .ref _ _ (MB h)
    | arr=>exact .arr _ (MB h)
    | aref=>exact .aref _ _ _ _ (MB h)
    | ep e o=>simp at g;exact .ep _ _ (j.1 e (by omega) h)
   .cases vs with
    | nil=>intro v p;cases p
    | cons x xs=>simp at g;simp only[JO,A0b] at h;grind
 exact⟨λv=>(key (SizeOf.sizeOf v+1)).1 v (A0e _),λvs=>(key (SizeOf.sizeOf vs+1)).2 vs (A0e _)⟩
def elt(m:Nat):A5->Bool
 | .box v=>NX m v
 | .tbox _ v=>NX m v
 | .arr _ _ es=>JO m es
 | .map es=>es.all λp=>NX m p.1&&NX m p.2
 | .it _ _=>true
 | .mit mid _ _ _=>Nat.blt mid.1 m
 | .loop _ env _ a b _ _=>((a.cl&&b.cl)&&(a.nr&&b.nr))&&env.all λp=>NX m p.2
theorem UV{S:Id->Prop}:∀{env:A9},(∀p∈env,Bb S p.2)->∀s,Bb S (get env s)
 | [],_,s=>.any
 | (k,v)::env,h,s=>by
  simp only[get];split
  .simp_all
  .exact UV (λp hp=>h p (by simp[hp])) s
theorem wR{m:Nat}{e:A5}(h:elt m e=true):Jp (Lt m) e:=by
 cases e with
 | box v=>exact .box _ (DH.1 v h)
 | tbox t v=>exact .tbox _ _ (DH.1 v h)
 | arr a b es=>exact .arr _ _ _ (DH.2 es h)
 | map es=>refine .map _ λx g=>?_;have:=AmF.1 h x g;simp only[A0b] at this;exact⟨DH.1 _ this.1,DH.1 _ this.2⟩
 | it l p=>exact .it _ _
 | mit mid s j st=>exact .mit _ _ _ _ (MB h)
 | loop nt env ps a b st i=>
  have h:=(Bool.and_eq_true_iff.1 h)
  exact .loop _ _ _ _ _ _ _ (UV λp hp=>DH.1 _ (AmF.1 h.2 p hp)) h.1
def slt(m:Nat)(σ:Aj):Bool:=σ.all λp=>Nat.blt p.1.1 m&&elt m p.2
theorem JC:∀{σ:Aj} {id:Id} {e:A5},lk σ id=some e->(id,e)∈σ
 | [],_,_,h=>by cases h
 | (k,x)::σ,id,e,h=>by
  simp only[lk] at h;split at h
  .grind
  .exact A0c _ (JC h)
theorem eF{m:Nat}{σ:Aj}(h:slt m σ=true):BV (Lt m) σ:=by intro id e g;have:=AmF.1 h _ (JC g);simp only[A0b] at this;exact⟨MB this.1,wR this.2⟩
def aA(v:V)(a:List Id):List Id:=V.rec (motive_1:=λ_=>List Id->List Id) (motive_2:=λ_=>List Id->List Id) (λ_ a=>a) (λ_ _ a=>a) (λ_ a=>a) (λa=>a) (λ_ h=>h) (λ_ h=>h) (λ_ h=>h) (λid _ a=>id::a) (λid a=>id::a) (λid _ _ _ a=>id::a) (λ_ _ h=>h) (λ_ _ _ e g a=>e (g a)) (λa=>a) (λa=>a) (λa=>a) (λa=>a) (λa=>a) (λa=>a) (λa=>a) (λa=>a) (λ_ _ e g a=>e (g a)) v a
def X7(vs:List V)(a:List Id):List Id:=List.rec (motive:=λ_=>List Id) a (λv _ e=>aA v e) vs
def AvN:A5->List Id->List Id
 | .box v,a=>aA v a
 | .tbox _ v,a=>aA v a
 | .arr _ _ es,a=>X7 es a
 | .map es,a=>es.foldr (λp a=>aA p.1 (aA p.2 a)) a
 | .it _ _,a=>a
 | .mit mid _ _ _,a=>mid::a
 | .loop _ env _ _ _ _ _,a=>env.foldr (λp a=>aA p.2 a) a
def AoO(id:Id)(l:List Id):Bool:=List.rec (motive:=λ_=>Bool) false (λk _ e=>Bool.rec (motive:=λ_=>Bool) e true (Sv k id)) l
def Un(σ:Aj)(k:Nat):List Id->List Id->List Id:=Nat.rec (motive:=λ_=>List Id->List Id->List Id) (λ_ seen=>seen) (λ_ h g seen=>match g with
 | []=>seen
 | id::g=>Bool.rec (motive:=λ_=>List Id) (match Hw σ id with
  | some e=>h (AvN e g) (id::seen)
  | none=>h g seen) (h g seen) (AoO id seen)) k
def MV(q:Id->Bool)(σ:Aj):Aj:=List.rec (motive:=λ_=>Aj) [] (λp _ e=>Bool.rec (motive:=λ_=>Aj) e (p::e) (q p.1)) σ
theorem PO(q:Id->Bool):∀σ:Aj,MV q σ=σ.filter λp=>q p.1
 | []=>rfl
 | p::σ=>by
  have e:MV q (p::σ)=Bool.rec (motive:=λ_=>Aj) (MV q σ) (p::MV q σ) (q p.1):=rfl;rw[e,PO q σ];cases g:q p.1 with
  | false=>grind
  | true=>grind
theorem KM(q:Id->Bool)(σ:Aj)(k:Id):lk (MV q σ) k=if q k then lk σ k else none:=by rw[PO,NQ]
def Lf(o:Option A5):Bool:=Option.rec (motive:=λ_=>Bool) false (λ_=>true) o
theorem Mp(o:Option A5):Lf o=o.isSome:=by cases o<;>rfl
def LK(σ τ:Aj):Aj:=MV (λid=>Lf (Hw σ id)) τ
theorem IE{σ τ:Aj}(id:Id):lk (LK σ τ) id=if(lk σ id).isSome then lk τ id else none:=by unfold LK;rw[KM,Mp,B6]
section
variable{P:Program}{W0:World}
def LN(s:List Id)(σ:Aj):Aj:=MV (λid=>AoO id s) σ
def Iq(args:List V)(σ:Aj):Aj:=LN (Un σ 1000 (X7 args []) []) σ
theorem Mo(args:List V)(σ:Aj):∀id e,lk (Iq args σ) id=some e->lk σ id=some e:=by intro id e h;unfold Iq LN at h;rw[KM] at h;grind
def MP(f:V->Option V):List V->Option (List V)
 | []=>some []
 | v::vs=>match f v with
  | some w=>match MP f vs with
   | some e=>some (w::e)
   | none=>none
  | none=>none
theorem DK{f:V->Option V}:∀{l e:List V},MP f l=some e->l.length=e.length/\∀(k:Nat) (c i:V),l[k]?=some c->e[k]?=some i->f c=some i
 | [],e,h=>by cases h;grind
 | v::vs,e,h=>by
  rw[MP] at h;split at h
  .rename_i w p;split at h
   .rename_i q g;cases h;obtain⟨j,o⟩:=DK g;grind
   .cases h
  .cases h
def KF(f:V->Option V)(c:V):Option V:=match f c with
 | some e=>chk (c.ok&&e.ok&&Nat.beq (cells e).length (cells c).length) (some e)
 | none=>none
def frz(σ:Aj)(q:Id->Bool):Nat->V->Option V
 | 0=>λ_=>none
 | k+1=>λv=>match v with
  | .arr id=>bif q id then(match Hw σ id with
   | some (.arr _ _ es)=>(MP (KF (frz σ q k)) es).map .sl
   | _=>none) else some (.arr id)
  | .sl es=>(MP (KF (frz σ q k)) es).map .sl
  | .agg cs=>(MP (frz σ q k) cs).map .agg
  | .tup cs=>(MP (frz σ q k) cs).map .tup
  | v=>some v
def Nf(σ:Aj)(q:Id->Bool):Id->Option (List V):=λid=>if q id=true then(match lk σ id with
 | some (.arr _ _ es)=>some es
 | _=>none) else none
theorem BO{f:V->Option V}{c e:V}(h:KF f c=some e):f c=some e/\(cells e).length=(cells c).length/\c.ok=true/\e.ok=true:=by
 unfold KF at h;split at h
 .rename_i g o;obtain⟨i,j⟩:=AD.1 h;simp_all
 .cases h
theorem Gr{σ:Aj}{q:Id->Bool}:∀{k:Nat} {v t:V},frz σ q k v=some t->J4 (Nf σ q) v t
 | 0,v,t,h=>by cases h
 | k+1,v,t,h=>by
  have s:∀{es es':List V},MP (KF (frz σ q k)) es=some es'->es.length=es'.length/\(∀(j:Nat) (c g:V),es[j]?=some c->es'[j]?=some g->J4 (Nf σ q) c g)/\∀(j:Nat) (c g:V),es[j]?=some c->es'[j]?=some g->(cells g).length=(cells c).length/\c.ok=true/\g.ok=true:=by intro es es' z;obtain⟨o,i⟩:=DK z;exact⟨o,λj c g a b=>Gr (BO (i j c g a b)).1,λj c g a b=>(BO (i j c g a b)).2⟩
  cases v with
  | arr id=>
   simp only[frz] at h;cases w:q id with
   | false=>rw[w] at h;cases h;exact .refl _
   | true=>
    rw[w] at h;simp only[cond_true] at h;split at h
    .rename_i e sz es y;rw[B6] at y;obtain⟨es',o,rfl⟩:=AeC.1 h;obtain⟨i,r,u⟩:=s o;exact .arr id es es' (by unfold Nf;rw[if_pos w,y]) i r u
    .cases h
  | sl es=>obtain⟨es',o,rfl⟩:=AeC.1 h;obtain⟨i,r,u⟩:=s o;exact .sl es es' i r u
  | agg cs=>obtain⟨p,o,rfl⟩:=AeC.1 h;obtain⟨i,r⟩:=DK o;exact .agg cs p i λj c g a b=>Gr (r j c g a b)
  | tup cs=>obtain⟨p,o,rfl⟩:=AeC.1 h;obtain⟨i,r⟩:=DK o;exact .tup cs p i λj c g a b=>Gr (r j c g a b)
  | _=>cases h;exact .refl _
theorem GO{f:V->Option V}{l i:List V}(h:MP f l=some i){g:V}(o:g∈i):∃c∈l,f c=some g:=by
 obtain⟨q,j⟩:=DK h;obtain⟨k,p⟩:=AtO.1 o;have e:k<l.length:=by grind
 exact⟨l[k],Azz e,j k _ _ (AeP e) p⟩
theorem G1{S:Id->Prop}{σ:Aj}{q:Id->Bool}(p:BV S σ):∀{k:Nat} {v s:V},frz σ q k v=some s->Bb S v->Bb S s
 | 0,v,s,h,_=>by cases h
 | k+1,v,s,h,r=>by
  cases v with
  | arr id=>
   simp only[frz] at h;cases y:q id with
   | false=>grind
   | true=>
    rw[y] at h;simp only[cond_true] at h;split at h
    .rename_i e sz es w;rw[B6] at w;obtain⟨es',i,rfl⟩:=AeC.1 h;refine .sl _ λt g=>?_;obtain⟨c,j,o⟩:=GO i g;exact G1 p (BO o).1 ((p _ _ w).2.arr_inv c j)
    .cases h
  | sl es=>obtain⟨es',i,rfl⟩:=AeC.1 h;refine .sl _ λt g=>?_;obtain⟨c,j,o⟩:=GO i g;exact G1 p (BO o).1 (r.sl_inv c j)
  | agg cs=>obtain⟨u,i,rfl⟩:=AeC.1 h;refine .agg _ λt g=>?_;obtain⟨c,j,o⟩:=GO i g;exact G1 p o (r.agg_inv c j)
  | tup cs=>obtain⟨u,i,rfl⟩:=AeC.1 h;refine .tup _ λt g=>?_;obtain⟨c,j,o⟩:=GO i g;exact G1 p o (r.tup_inv c j)
  | _=>cases h;exact r
def PQ(σ:Aj)(q:Id->Bool)(k:Nat):A5->Option A5
 | .box v=>(KF (frz σ q k) v).map .box
 | .tbox t v=>(KF (frz σ q k) v).map (.tbox t)
 | .arr e sz es=>(MP (KF (frz σ q k)) es).map (.arr e sz)
 | e=>some e
theorem aX{σ:Aj}{q:Id->Bool}{k:Nat}{e y:A5}(h:PQ σ q k e=some y):K3 (Nf σ q) e y:=by
 cases e with
 | box v=>obtain⟨u,i,rfl⟩:=AeC.1 h;obtain⟨o,g,r,s⟩:=BO i;exact .box v u (Gr o) g r s
 | tbox t v=>obtain⟨u,i,rfl⟩:=AeC.1 h;obtain⟨o,g,r,s⟩:=BO i;exact .tbox t v u (Gr o) g r s
 | arr a b es=>obtain⟨es',i,rfl⟩:=AeC.1 h;obtain⟨o,g⟩:=DK i;exact .arr a b es es' o λj c w p q=>⟨Gr (BO (g j c w p q)).1,(BO (g j c w p q)).2⟩
 | _=>cases h;exact .refl _
theorem a6{S:Id->Prop}{σ:Aj}{q:Id->Bool}{k:Nat}{e p:A5}(o:BV S σ)(h:PQ σ q k e=some p)(i:Jp S e):Jp S p:=by
 cases e with
 | box v=>obtain⟨u,g,rfl⟩:=AeC.1 h;exact .box _ (G1 o (BO g).1 i.box_inv)
 | tbox t v=>obtain⟨u,g,rfl⟩:=AeC.1 h;exact .tbox _ _ (G1 o (BO g).1 i.tbox_inv)
 | arr a b es=>obtain⟨es',g,rfl⟩:=AeC.1 h;refine .arr _ _ _ λw j=>?_;obtain⟨c,r,s⟩:=GO g j;exact G1 o (BO s).1 (i.arr_inv c r)
 | _=>cases h;exact i
def y9(σ:Aj)(q:Id->Bool)(k:Nat):Aj->Option Aj
 | []=>some []
 | (id,e)::r=>match y9 σ q k r with
  | some g=>bif q id then some g else match PQ σ q k e with
   | some h=>some ((id,h)::g)
   | none=>none
  | none=>none
theorem IX{σ:Aj}{q:Id->Bool}{k:Nat}:∀{τ g:Aj},y9 σ q k τ=some g->∀id i,lk g id=some i->q id=false/\∃e,lk τ id=some e/\PQ σ q k e=some i
 | [],g,h,id,i,o=>by cases h;cases o
 | (j,x)::r,g,h,id,i,o=>by
  rw[y9] at h;split at h
  .rename_i A s;cases p:q j with
   | true=>rw[p] at h;cases h;obtain⟨t,e,u,w⟩:=IX s id i o;grind[lk]
   | false=>
    rw[p] at h;simp only[cond_false] at h;split at h
    .rename_i x' z;cases h;simp only[lk] at o⊢;split at o
     .grind
     .rename_i y;obtain⟨t,e,u,w⟩:=IX s id i o;grind
    .cases h
  .cases h
def PT(σ:Aj)(q:Id->Bool)(k:Nat):A9->Option A9
 | []=>some []
 | (s,v)::r=>match frz σ q k v with
  | some g=>match PT σ q k r with
   | some e=>some ((s,g)::e)
   | none=>none
  | none=>none
theorem HR{σ:Aj}{q:Id->Bool}{k:Nat}:∀{env env':A9},PT σ q k env=some env'->∀s,(get env s=.any/\get env' s=.any)\/frz σ q k (get env s)=some (get env' s)
 | [],env',h,s=>by cases h;grind[get]
 | (j,v)::r,env',h,s=>by
  rw[PT] at h;split at h
  .rename_i p i;split at h
   .rename_i o g;cases h;simp only[get];by_cases e:j=s
    .grind
    .rw[if_neg e,if_neg e];exact HR g s
   .cases h
  .cases h
def cJ(id:Id)(st:St):Option St:=
 let q:=λj=>decide (j=id)
 match Hw st.σ id with
 | some (.arr _ _ _)=>match PT st.σ q 60 st.env with
  | some env=>match y9 st.σ q 60 st.σ with
   | some σ=>some ⟨env,σ,st.n⟩
   | none=>none
  | none=>none
 | _=>none
def XLe(W0:World)(nt:Nat)(st e:St):Prop:=∀B a w,TK W0 nt B st a w->TK W0 nt B e a w
theorem iS{W0:World}{nt:Nat}{id:Id}{st i:St}(h:cJ id st=some i):XLe W0 nt st i/\i.n=st.n/\∀S,Bs S st.env->BV S st.σ->Bs S i.env/\BV S i.σ:=by
 unfold cJ at h;simp only at h;split at h
 .rename_i e sz es M;rw[B6] at M;split at h
  .rename_i env E;split at h
   .rename_i σ p;cases h;have r:∀S,Bs S st.env->BV S st.σ->Bs S env/\BV S σ:=by
     intro S z q;refine⟨λs=>?_,λj x t=>?_⟩
     .rcases HR E s with⟨_,h⟩|h
      .rw[h];exact .any
      .exact G1 q h (z s)
     .obtain⟨_,y,u,A⟩:=IX p j x t;exact⟨(q _ _ u).1,a6 q A (q _ _ u).2⟩
    refine⟨λB a w o=>?_,rfl,r⟩;obtain⟨o,z,q,L⟩:=o;obtain⟨H,J⟩:=r _ z q;refine⟨o.weak (Nf st.σ λj=>decide (j=id)) (λj es' g=>?_) (λs=>?_) (λj x t=>?_) (A0d _),H,J,L⟩
    .unfold Nf at g;split at g
     .rename_i t;split at g
      .rename_i F D G C;cases g;refine⟨⟨F,D,C⟩,?_⟩;cases N:lk σ j with
       | none=>rfl
       | some x=>have:=(IX p j x N).1;grind
      .cases g
     .cases g
    .rcases HR E s with⟨h5,h6⟩|h5
     .rw[h6];exact .any _
     .exact Gr h5
    .obtain⟨_,y,u,A⟩:=IX p j x t;exact⟨y,u,aX A⟩
   .cases h
  .cases h
 .cases h
def geN(m:Nat):Id->Bool:=λid=>Nat.ble m id.1
def ltS(m:Nat)(σ:Aj):Aj:=MV (λid=>Nat.blt id.1 m) σ
theorem Uc{m:Nat}{σ:Aj}(id:Id):lk (ltS m σ) id=if Nat.blt id.1 m=true then lk σ id else none:=by unfold ltS;rw[KM]
theorem Fh.frz{f:FuncId}{args:List V}{σ σ1:Aj}{m n' k:Nat}{v q:V}(h:Fh P W0 f args σ m v σ1 n')(G:Go.Ir.frz σ1 (geN m) k v=some q)(L:NX m q=true):Fh P W0 f args σ m q (ltS m σ1) n' where
 callable:=h.callable
 le:=h.le
 vin:=(DH.1 _ L).mono (Lt.mono h.le)
 sin:=by
  intro id e i;rw[Uc] at i;split at i
  .exact h.sin id e i
  .cases i
 run:=by
  intro w μ H vals hp o;refine EE.mono (h.run w μ H vals hp o) ?_;rintro e w' ⟨val,C,E,rfl,B,y,u,j⟩;have r:At W0 1 ⟨μ,H,σ,w,m,none,[]⟩ ⟨[(0,v)],σ1,n'⟩ { tmps:=#[val],defers:=[] } w':=by
   refine⟨C,E,⟨rfl,λs=>?_⟩,y,u,j,h.le,rfl⟩;cases s with
   | zero=>exact B
   | succ s=>exact .any _
  have M:=r.weak (Nf σ1 (geN m)) (env':=[(0,q)]) (σ':=ltS m σ1) (n':=n') (λid es g=>?_) (λs=>?_) (λid e i=>?_) (A0d _)
  .obtain⟨D,F,A,z,t,p,_⟩:=M;exact⟨val,D,F,rfl,A.at_ 0,z,t,p⟩
  .unfold Nf at g;split at g
   .rename_i J;split at g
    .rename_i e sz es' i;cases g;refine⟨⟨e,sz,i⟩,?_⟩;rw[Uc,if_neg];rw[AzM];exact AzL.2 (Ayj J)
    .cases g
   .cases g
  .cases s with
   | zero=>exact Gr G
   | succ s=>exact .refl _
  .rw[Uc] at i;split at i
   .exact⟨e,i,.refl _⟩
   .cases i
def oH(C:AU):AU:=λf args σ m=>match C f args σ m with
 | some (v,σ1,n')=>match frz σ1 (geN m) 60 v with
  | some e=>chk (NX m e) (some (e,ltS m σ1,n'))
  | none=>none
 | none=>none
theorem OJ{C:AU}(o:AX P W0 C):AX P W0 (oH C):=by
 intro f args σ m v σ' n' h p q;unfold oH at h;split at h
 .rename_i v1 σ1 r e;split at h
  .rename_i v2 g;obtain⟨i,j⟩:=AD.1 h;cases j;exact(o _ _ _ _ _ _ _ e p q).frz g i
  .cases h
 .cases h
def mU(σi σo σ:Aj):Aj:=List.rec (motive:=λ_=>Aj) (MV (λid=>Bool.rec (motive:=λ_=>Bool) true false (Lf (Hw σi id))) σ) (λp _ e=>p::e) σo
theorem Sq(σi σo σ:Aj):mU σi σo σ=over σi σo σ:=by
 have e:MV (λid=>Bool.rec (motive:=λ_=>Bool) true false (Lf (Hw σi id))) σ=σ.filter λp=>(lk σi p.1).isNone:=by rw[PO];congr 1;funext p;rw[Mp,B6];cases lk σi p.1<;>rfl
 unfold mU over
 induction σo with
 | nil=>simpa using e
 | cons p σo g=>grind
def rH(f:FuncId):Bool:=Bool.rec (motive:=λ_=>Bool) true false (Nat.beq f HL)
theorem KZ{f:FuncId}(h:rH f=true):f≠HL:=by rintro rfl;cases h
def Pk(C:AU)(m:Nat)(f:FuncId)(args:List V):Option V:=
 match oH C f args [] m with
 | some (v,_,_)=>chk (NX m v&&rH f) (some v)
 | none=>none
theorem IM{C:AU}(q:AX P W0 C){m:Nat}{f:FuncId}{args:List V}{v:V}(h:Pk C m f args=some v)(i:∀a∈args,Bb (Lt m) a):Al P W0 f args [] v []/\Bb (Lt m) v:=by
 unfold Pk at h;split at h
 .rename_i v1 σ1 t o;obtain⟨g,p⟩:=AD.1 h;cases p;rw[A0b] at g;have j:=DH.1 v g.1;exact⟨Al.of_at (KZ g.2) (OJ q _ _ _ _ _ _ _ o i BV.nil) i BV.nil (λid e r=>by cases r) (λid s=>absurd rfl s) j BV.nil,j⟩
 .cases h
def iX(C:AU)(m:Nat)(σi σ:Aj)(f:FuncId)(args:List V):Option (V×Aj):=
 match oH C f args σi m with
 | some (v,σ1,_)=>chk ((NX m v&&slt m (LK σi σ1))&&rH f) (some (v,mU σi (LK σi σ1) σ))
 | none=>none
def Vn(C:AU)(m:Nat)(σ:Aj)(f:FuncId)(args:List V):Option (V×Aj):=iX C m (Iq args σ) σ f args
theorem K8{C:AU}(A:AX P W0 C){m:Nat}{σ σ':Aj}{f:FuncId}{args:List V}{v:V}(h:Vn C m σ f args=some (v,σ'))(r:∀a∈args,Bb (Lt m) a)(t:BV (Lt m) σ):(∃σi σo,Al P W0 f args σi v σo/\(∀id e,lk σi id=some e->lk σ id=some e)/\σ'=over σi σo σ)/\Bb (Lt m) v/\BV (Lt m) σ':=by
 unfold Vn iX at h;have g:=Mo args σ;generalize Iq args σ=σi at h g;have j:BV (Lt m) σi:=λid e p=>t id e (g _ _ p);split at h
 .rename_i v1 σ1 B y;obtain⟨i,z⟩:=AD.1 h;cases z;simp only[A0b] at i;have q:=KZ i.2;have i:=i.1;have u:=DH.1 v i.1;have o:=eF i.2;refine⟨⟨σi,LK σi σ1,Al.of_at q (OJ A _ _ _ _ _ _ _ y r j) r j (λid e p=>?_) (λid s=>?_) u o,g,Sq _ _ _⟩,u,?_⟩
  .rw[IE] at p;grind
  .intro w;rw[IE,w] at s;exact s rfl
  .rw[Sq];exact t.over o
 .cases h
def SW(C:AU)(m:Nat)(σ:Aj)(f:FuncId)(args:List V):Option (A5×Aj):=
 match C f args σ m with
 | some (.arr id,σ1,_)=>match lk σ1 id with
  | some x=>chk ((Nat.ble m id.1&&elt m x&&slt m (LK σ σ1))&&rH f) (some (x,LK σ σ1))
  | none=>none
 | _=>none
theorem OB{C:AU}(y:AX P W0 C){m:Nat}{σ τ:Aj}{f:FuncId}{args:List V}{x:A5}(h:SW C m σ f args=some (x,τ))(p:∀a∈args,Bb (Lt m) a)(r:BV (Lt m) σ):J0 P W0 f args σ x τ/\Jp (Lt m) x/\BV (Lt m) τ:=by
 unfold SW at h;split at h
 .rename_i id σ1 z u;split at h
  .rename_i x' j;obtain⟨g,w⟩:=AD.1 h;cases w;simp only[A0b,Az1] at g;have o:=KZ g.2;have g:=g.1;have s:=wR g.1.2;have i:=eF g.2;refine⟨J0.of_at o (y _ _ _ _ _ _ _ u p r) p r j (λid e j=>?_) (λid q=>?_) s i g.1.1,s,i⟩
   .rw[IE] at j;grind
   .intro t;rw[IE,t] at q;exact q rfl
  .cases h
 .cases h
mutual
def Pd:V->V->Bool
 | .b x,.b y=>x==y
 | .i k a,.i k' b=>decide (k=k')&&yU a b
 | .s a,.s b=>PM a b
 | .nil,.nil=>true
 | .sl a,.sl b=>IK a b
 | .agg a,.agg b=>IK a b
 | .tup a,.tup b=>IK a b
 | .ref i o,.ref j p=>decide (i=j)&&Nat.beq o p
 | .arr i,.arr j=>decide (i=j)
 | .aref i a b c,.aref j e h q=>decide (i=j)&&Nat.beq a e&&Nat.beq b h&&Nat.beq c q
 | .ep a o,.ep b p=>Pd a b&&Nat.beq o p
 | .fn f a c,.fn g b d=>decide (f=g)&&IK a b&&IK c d
 | .np,.np|.nf,.nf|.ni,.ni|.nm,.nm|.ub,.ub|.iv,.iv|.any,.any=>true
 | _,_=>false
def IK:List V->List V->Bool
 | [],[]=>true
 | a::x,b::y=>Pd a b&&IK x y
 | _,_=>false
end
theorem Hs:∀n:Nat,(∀a b:V,SizeOf.sizeOf a<n->Pd a b=true->a=b)/\∀a b:List V,SizeOf.sizeOf a<n->IK a b=true->a=b:=by
 intro n
 induction n with
 | zero=>grind
 | succ n g=>
  refine⟨λa b e h=>?_,λa b e h=>?_⟩
  .unfold Pd at h;split at h
   .grind
   .simp only[A0b,decide_eq_true_eq,Le] at h;rw[h.1,h.2]
   .rw[Gn,beq_iff_eq] at h;rw[h]
   .rfl
   .grind
   .grind
   .grind
   .simp_all
   .grind
   .simp_all
   .simp at e;simp only[A0b,Ayn] at h;grind
   .grind
   all_goals first|rfl|cases h
  .unfold IK at h;grind
def Xu:List (V×V)->List (V×V)->Bool
 | [],[]=>true
 | a::x,b::y=>Pd a.1 b.1&&Pd a.2 b.2&&Xu x y
 | _,_=>false
theorem QP:∀{a b:List (V×V)},Xu a b=true->a=b
 | [],[],_=>rfl
 | a::x,b::y,h=>by simp only[Xu,A0b] at h;rw[QP h.2,Prod.ext ((Hs _).1 _ _ (A0e _) h.1.1) ((Hs _).1 _ _ (A0e _) h.1.2)]
 | [],_::_,h=>by cases h
 | _::_,[],h=>by cases h
def Ada:A5->A5->Bool
 | .box a,.box b=>Pd a b
 | .tbox t a,.tbox e b=>Nat.beq t e&&Pd a b
 | .arr t s a,.arr e h b=>Nat.beq t e&&Nat.beq s h&&IK a b
 | .map a,.map b=>Xu a b
 | .it l p,.it g p'=>PM l g&&Nat.beq p p'
 | _,_=>false
theorem Yi{a b:A5}(h:Ada a b=true):a=b:=by
 unfold Ada at h;split at h
 .rw[(Hs _).1 _ _ (A0e _) h]
 .simp only[A0b,Ayn] at h;rw[h.1,(Hs _).1 _ _ (A0e _) h.2]
 .simp only[A0b,Ayn] at h;rw[h.1.1,h.1.2,(Hs _).2 _ _ (A0e _) h.2]
 .rw[QP h]
 .simp only[A0b,Ayn] at h;rw[Gn,beq_iff_eq] at h;rw[h.1,h.2]
 .cases h
def Xl(σ τ:Aj):Bool:=σ.all λp=>match lk σ p.1,lk τ p.1 with
 | some a,some b=>Ada a b
 | _,_=>false
theorem JU{σ τ:Aj}(h:Xl σ τ=true):∀id e,lk σ id=some e->lk τ id=some e:=by
 intro id e g;have:=AmF.1 h _ (JC g);simp only[g] at this;split at this
 .rename_i a b i j;cases i;rw[j,Yi this]
 .cases this
def Ug(C:AU)(m:Nat)(σ:Aj)(f:FuncId)(args:List V):Option V:=
 match oH C f args (Iq args σ) m with
 | some (v,σ1,_)=>chk ((NX m v&&Xl (Iq args σ) σ1)&&rH f) (some v)
 | none=>none
theorem PE{C:AU}(t:AX P W0 C){m:Nat}{σ:Aj}{f:FuncId}{args:List V}{v:V}(h:Ug C m σ f args=some v)(p:∀a∈args,Bb (Lt m) a)(y:BV (Lt m) σ):(∃σi,Al P W0 f args σi v σi/\∀id e,lk σi id=some e->lk σ id=some e)/\Bb (Lt m) v:=by
 unfold Ug at h;split at h
 .rename_i v1 σ1 z r;obtain⟨j,s⟩:=AD.1 h;cases s;simp only[A0b] at j;have o:=KZ j.2;have j:=j.1;have q:=DH.1 v j.1;have g:=Mo args σ;have i:BV (Lt m) (Iq args σ):=λid e u=>y id e (g _ _ u);exact⟨⟨_,Al.of_at o (OJ t _ _ _ _ _ _ _ r p i) p i (JU j.2) (λid w=>w) q i,g⟩,q⟩
 .cases h
def yE(C:AU)(ep:Nat)(d:Option Nat)(op:AE)(g:Nat->V)(σ:Aj):Option (V×Aj):=
 match op with
 | .call f xs=>(Pk C (ep+1) f (xs.map (ev g))).map λv=>(v,σ)
 | .calls f xs=>Vn C (ep+1) σ f (xs.map (ev g))
 | .callv x xs=>match ev g x with
  | .fn f a c=>(Pk C (ep+1) f (a++xs.map (ev g)++c)).map λv=>(v,σ)
  | _=>none
 | .callvs x xs=>match ev g x with
  | .fn f a c=>Vn C (ep+1) σ f (a++xs.map (ev g)++c)
  | _=>none
 | .calln f xs=>match d with
  | some e=>(SW C (ep+1) σ f (xs.map (ev g))).map λr=>(.arr (ep,e),((ep,e),r.1)::over σ r.2 σ)
  | none=>none
 | .callr f xs=>(Ug C (ep+1) σ f (xs.map (ev g))).map λv=>(v,σ)
 | op=>fE ep d op g σ
def apB(i:I)(g:Nat->V):Bool:=
 i.ap.isEmpty||i.ap.all λx=>i.op.cs.all λy=>match BP (ev g x),BP (ev g y) with
  | some a,some b=>!(a==b)
  | _,_=>true
def apQ(i:I):Bool:=i.op.cl&&!i.ap.isEmpty
def apK(i:I)(g:Nat->V)(σ τ:Aj):Bool:=i.ap.all λx=>match BP (ev g x) with
 | some id=>(match Hw σ id with
  | some a=>(match Hw τ id with
   | some b=>Ada a b
   | none=>false)
  | none=>true)
 | none=>true
def apE(i:I)(g:Nat->V)(σ:Aj)(o:Option (V×Aj)):Option (V×Aj):=bif apQ i then(match o with
 | some (v,τ)=>chk (apK i g σ τ) (some (v,τ))
 | none=>none) else o
theorem Y2{i:I}{g:Nat->V}(h:apB i g=true):Za i g:=by
 unfold apB at h;rw[Ayh] at h;rcases h with h|h
 .have p:i.ap=[]:=Ay9.1 h;exact λx e=>(by grind)
 .intro x e y q id j o;grind
theorem aI{i:I}{g:Nat->V}{σ τ:Aj}{o:Option (V×Aj)}{v:V}(h:apE i g σ o=some (v,τ)):o=some (v,τ)/\JE i g σ τ:=by
 unfold apE at h;cases e:apQ i with
 | false=>rw[e] at h;refine⟨h,λu x p=>?_⟩;unfold apQ at e;grind
 | true=>
  rw[e] at h;simp only[cond_true] at h;split at h
  .rename_i v1 y;obtain⟨q,r⟩:=AD.1 h;cases r;refine⟨rfl,λ_ x p id j w=>?_⟩;have:=AmF.1 q x p;rw[j] at this;simp only[B6] at this;split at this
   .rename_i a s;split at this
    .rename_i b t;rw[s,t,Yi this]
    .cases this
   grind
  .cases h
def yop(C:AU)(ep:Nat)(i:I)(env:A9)(σ:Aj):Option (V×Aj):=
 match Nd env i.gd with
 | some true=>chk (apB i (get env)) (apE i (get env) σ (yE C ep i.dst i.op (get env) σ))
 | some false=>some (.tup [],σ)
 | none=>none
def Aas(C:AU)(ep:Nat):List I->A9->Aj->Option (A9×Aj)
 | [],env,σ=>some (env,σ)
 | i::l,env,σ=>match yop C ep i env σ with
  | some (v,σ')=>Aas C ep l (put env i.dst v) σ'
  | none=>none
theorem l8{C:AU}(B:AX P W0 C){ep:Nat}{i:I}{env:A9}{σ σ':Aj}{v:V}(h:yE C ep i.dst i.op (get env) σ=some (v,σ'))(D:i.cl=true)(T:Bs (Lt (ep+1)) env)(r:BV (Lt (ep+1)) σ) :
  E P W0 ep i.dst i.op (get env) σ v σ'/\Bb (Lt (ep+1)) v/\BV (Lt (ep+1)) σ':=by
 have A:=I.cl_xs (S:=Lt (ep+1)) D T;have Y:=I.cl_zs (S:=Lt (ep+1)) D;have N:BV (Lt (ep+1)) []:=BV.nil;have s:i.op.isC=false->fE ep i.dst i.op (get env) σ=some (v,σ')->E P W0 ep i.dst i.op (get env) σ v σ'/\Bb (Lt (ep+1)) v/\BV (Lt (ep+1)) σ':=by intro R h;have M:=Ms (P:=P) (W0:=W0) h;exact⟨M,Akq R (λH _=>A0e _) A Y r M⟩
 have g:∀{x:X} {xs:List X} {f:FuncId} {a c:List V},ev (get env) x=.fn f a c->(∀y∈x::xs,Bb (Lt (ep+1)) (ev (get env) y))->∀w∈a++xs.map (ev (get env))++c,Bb (Lt (ep+1)) w:=by
  intro x xs f a c u W w z;have J:=W x (by simp);rw[u] at J;simp only[Ay4,AmD] at z;rcases z with z|z|z
  .exact J.fn_inv.1 w z
  .grind
  .exact J.fn_inv.2 w z
 generalize U:i.op=op at *;have G:∀id e,lk σ id=some e->lk σ id=some e:=λ_ _ h=>h;cases op with
 | call f xs=>obtain⟨v1,t,q⟩:=AeC.1 h;cases q;obtain⟨j,o⟩:=IM B t (El A);exact⟨⟨j,rfl⟩,o,r⟩
 | calls f xs=>obtain⟨j,o,p⟩:=K8 B h (El A) r;exact⟨j,o,p⟩
 | callv x xs=>
  simp only[yE] at h;split at h
  .rename_i f a c u;obtain⟨v1,t,q⟩:=AeC.1 h;cases q;obtain⟨j,o⟩:=IM B t (g u A);exact⟨⟨f,a,c,u,j,rfl⟩,o,r⟩
  .cases h
 | callvs x xs=>
  simp only[yE] at h;split at h
  .rename_i f a c u;obtain⟨⟨σi,σo,j,q,O⟩,o,p⟩:=K8 B h (g u A) r;exact⟨⟨f,a,c,σi,σo,u,j,q,O⟩,o,p⟩
  .cases h
 | calln f xs=>
  simp only[yE] at h;split at h
  .rename_i H L;obtain⟨⟨Z,τ⟩,t,q⟩:=AeC.1 h;cases q;obtain⟨j,o,p⟩:=OB B t (El A) r;have F:Lt (ep+1) (ep,H):=A0e _;exact⟨⟨H,σ,τ,Z,L,j,G,rfl,rfl⟩,.arr _ F,(r.over p).cons F o⟩
  .cases h
 | callr f xs=>obtain⟨v1,t,q⟩:=AeC.1 h;cases q;obtain⟨j,o⟩:=PE B t (El A) r;exact⟨⟨j,rfl⟩,o,r⟩
 | callw x xs=>cases h
 | _=>exact s rfl h
theorem MM{C:AU}(D:AX P W0 C){ep:Nat}:∀{l:List I} {env:A9} {σ:Aj} {env':A9} {σ':Aj},Aas C ep l env σ=some (env',σ')->(∀i∈l,i.cl=true)->Bs (Lt (ep+1)) env->BV (Lt (ep+1)) σ->
  (∀K:A9->Aj->Prop,K env' σ'->Av P W0 ep l env σ K)/\Bs (Lt (ep+1)) env'/\BV (Lt (ep+1)) σ'
 | [],env,σ,env',σ',h,_,u,w=>by cases h;exact⟨λK h=>h,u,w⟩
 | i::l,env,σ,env',σ',h,r,u,w=>by
  rw[Aas] at h;split at h
  .rename_i v τ p;have one:(∀K:A9->Aj->Prop,K (put env i.dst v) τ->Cl P W0 ep i env σ K)/\Bb (Lt (ep+1)) v/\BV (Lt (ep+1)) τ:=by
    unfold yop at p;split at p
    .rename_i e;obtain⟨L,y⟩:=AD.1 p;obtain⟨y,o⟩:=aI y;obtain⟨E,O,B⟩:=l8 D y (r i (by simp)) u w;refine⟨λK q=>?_,O,B⟩;have g:Za i (get env)/\JE i (get env) σ τ:=⟨Y2 L,o⟩
     unfold Cl;unfold Nd at e;cases z:i.gd with
     | none=>exact⟨v,τ,⟨E,g.1,g.2⟩,q⟩
     | some sw=>
      obtain⟨s,F⟩:=sw;rw[z] at e;simp only at e⊢;split at e
      .rename_i t N;simp only[AmC,beq_iff_eq] at e;rw[N];exact⟨λ_=>⟨v,τ,⟨E,g.1,g.2⟩,q⟩,λA=>absurd e A⟩
      .cases e
      .cases e
    .rename_i e;cases p;refine⟨λK q=>?_,.tup _ (by simp),w⟩;unfold Cl;unfold Nd at e;grind
    .cases p
   obtain⟨G,H,J⟩:=MM D h (λj M=>r j (by simp[M])) (u.put one.2.1) one.2.2;exact⟨λK q=>one.1 _ (G K q),H,J⟩
  .cases h
theorem Acw{C:AU}(hC:AX P W0 C){nt:Nat}{r:Bool}{Q:Exit->St->Prop}{st:St}{l1:List I}{i:I}{live:List Nat}{paths:List (List Nat)}(U:l1.isEmpty=false)(aB:i.cl=true){q:A9}{σ1:Aj}(h1:∀K:A9->Aj->Prop,K q σ1->Av P W0 st.n l1 st.env st.σ K)
  (ag:Bs (Lt (st.n+1)) q)(am:BV (Lt (st.n+1)) σ1){v:V}{σ':Aj}{n':Nat}(hx:xop C (st.n+1) i q σ1 (st.n+2)=some (v,σ',n'))(hq:Q .normal ⟨restrict live (put q i.dst v),σ',n'⟩):MW P W0 nt r (.opxe l1 i live paths) Q st:=by
 refine O7 fun O hc B a w _ aw=>?_
 obtain⟨rid,ops,rfl,z⟩:∃rid ops,O=.region rid ops true/\Aat P nt ops l1 i paths=true:=by
  cases O with
  | region rid ops aa=>
   cases aa with
   | false=>simp[Ax,U] at hc
   | true=>exact⟨rid,ops,rfl,by simpa[Ax,U] using hc⟩
  | _=>simp[Ax,U] at hc
 unfold Aat at z
 simp only[A0b,decide_eq_true_eq] at z
 obtain⟨⟨⟨⟨⟨⟨aA,L⟩,ao⟩,hd⟩,aY⟩,⟨ai,he⟩,al⟩,T⟩:=z
 obtain⟨⟨μ,H,hr,hp,Z,ak,hn,aC⟩,aN,aP,hb⟩:=aw
 obtain⟨a2,ad⟩:=Ht aA
 have y:l1.length<ops.size:=by omega
 have N:ops[l1.length]?=some ops[l1.length]:=AvX y
 rw[N] at L
 simp only at L
 generalize ops[l1.length]=o at N L
 have ah:(List.range l1.length).map (fun k=>l1.getD k default)=l1:=by
  apply Axj
  intro k
  by_cases z:k<l1.length
  .simp[z,List.getD]
  .simp[z]
 have h:Av P W0 st.n l1 st.env st.σ fun env σ=>(∀s,get q s=get env s)/\CO σ1 σ:=h1 _ ⟨fun _=>rfl,CO.refl _⟩
 have hK:RF fun(env:A9) (σ:Aj)=>(∀s,get q s=get env s)/\CO σ1 σ:=by
  intro env env' σ σ' hg hs hh
  exact⟨fun s=>(hh.1 s).trans (hg s),hh.2.trans hs⟩
 have ab:∀(ap:List Nat),∀k∈ap,∀d,(l1.getD k default).dst=some d->μ (st.n,d)=none:=fun ap k _ d _=>hp.bd (st.n,d) (A0d _)
 refine Ek fun t=>?_
 simp only[Region.schedule,ai,AyR,if_true]
 refine Gb ops.size t _ a _ ?_
 have aF:Fr B.μ B.H B.σ B.w μ H st.σ w.drew:=⟨Z.mu,Z.hp,Z.size,Z.keep,Z.pin,Z.dom⟩
 have J:∀k,l1.length<=k->k<ops.size->k=l1.length:=fun k h1 Y=>by omega
 have key:=RT (W0:=W0) (ep:=st.n) (n0:=st.n) (μ0:=μ) (H0:=H) (σ0:=st.σ) (w0:=w.drew) (ops:=ops) (is:=l1) (nt:=nt) (P:=P) (m:=l1.length) (x:=1) (ro:=B.ro) (Q:=fun e a' w'=>∃aq,Q e aq/\TK W0 nt B aq a' w') (A0g y) rfl
  (fun k o z N=>ad k o (by rw[Ayw,if_pos z,Ayz];exact N)) hd he al (fun k h1 Y j hj=>by
   have:=J k h1 Y
   subst this
   have h3:=AmF.1 T j (by simpa using hj)
   obtain⟨p,_,hp⟩:=Ays.1 h3
   simp only[A0b,beq_iff_eq] at hp
   exact⟨p,hp.1.1,hp.1.2,hp.2⟩) hK ?_ l1.length (List.range l1.length) (Array.replicate ops.size false) st.env st.σ a w.drew (st.n+1) μ H (by simp) A0h (fun k=>?_) (fun k h1 Y=>by simp[Array.getD,Y]) (by simp) (fun i j hi y hh=>?_) ?_
   ⟨hr,hp.drew.more (AmJ _),A0e _,A0d _,ab _,Fr.refl _ _ _ _,fun _ _ h=>h,aC⟩
 .rw[show ops.size=l1.length+1 from ao]
  rw[show ops.size=l1.length+1 from ao] at key
  exact key
 . -- at the last operation
  intro g env σ a w n W H' a4 M aJ F
  obtain⟨aG,an⟩:=aJ
  have E:=aF.trans F.fr
  refine⟨fun aj=>?_,fun k z=>?_⟩
  .exfalso
   have:l1.length∈Region.ready .any ops g:=by
    unfold Region.ready
    simp only[AxB,Ayg,A0b,N,Axy,Option.getD_some]
    refine⟨y,by rw[(M _ y).2 (A0d _)];rfl,Ayx.2 fun e aE=>?_⟩
    unfold Dc at he
    have ae:=AmF.1 he l1.length (by simpa using y)
    rw[N] at ae
    have ax:=Ayx.1 ae e aE
    cases af:Region.binds .any e with
    | false=>rfl
    | true=>
     simp only[af,Avo,Axu,decide_eq_true_eq] at ax⊢
     have Y:¬(g.getD e.on true=false):=fun h=>by have:=(M _ (by omega)).1 h;omega
     have h3:g.getD e.on true=g.getD e.on false:=by
      have:e.on<g.size:=by omega
      simp[Array.getD,this]
     rw[<-h3]
     simpa using Y
   rw[aj] at this
   cases this
  .unfold Region.ready at z
   simp only[AxB,Ayg,A0b,AsT] at z
   have G:=J k ((M k z.1).1 z.2.1) z.1
   subst G
   have R:B.n<=st.n+1:=A0i hn
   have aI:∀id x,B.μ id=some x->cut (st.n+1) W id=some x:=by
    intro id x D
    have y:id.1<st.n+1:=by
     rcases Axd id.1 B.n with h|h
     .exact ApN h R
     .rw[hb id h] at D;cases D
    rw[Fq (m:=st.n+1) y]
    exact E.mu id x D
   have aK:XI W0 nt B (st.n+1) q σ1 (st.n+2) (cut (st.n+1) W) H' a w:=by
    refine⟨⟨F.rl.size,fun s=>?_⟩,((F.hp.eqv fun id=>(an id).symm).cut am).more (AmJ _),A0e _,⟨aI,E.hp,E.size,E.keep,E.pin,fun bk ay N=>E.dom bk ay ((Vp an).1 (Gd N))⟩,fun id D h0=>?_,ag.mono (Lt.mono (AmJ _)),am.mono (Lt.mono (AmJ _)),F.dfs⟩
    .have:=F.rl.at_ s
     rw[<-aG s] at this
     exact this.cut (ag s)
    .rw[Fq (m:=st.n+1) (ApN D R)]
     exact F.old id (ApN D hn) (ak id D h0)
   have S:∀dd,i.dst=some dd->cut (st.n+1) W (st.n+1,dd)=none:=fun dd _=>if_neg (Nat.lt_irrefl _)
   refine Ov hC R N L aB aK S hx _ _ (fun a w aL H2 A ar a3=>⟨?_,?_⟩)
   .cases h:Region.ready .any ops (g.setIfInBounds l1.length true) with
    | nil=>rfl
    | cons k r=>
     exfalso
     have u:k∈Region.ready .any ops (g.setIfInBounds l1.length true):=by rw[h];simp
     unfold Region.ready at u
     simp only[AxB,Ayg,A0b,AsT] at u
     by_cases G:k=l1.length
     .rw[G] at u
      simp[Azx,Array.getElem?_setIfInBounds] at u
      rw[if_pos (by omega)] at u
      simp at u
     .have:=u.2.1
      rw[Azx,Azo (AeS G),<-Azx] at this
      exact G (J k ((M k u.1).1 this) u.1)
   .refine⟨_,hq,⟨aL,H2,⟨A.rl.size,fun s=>?_⟩,A.hp,A.fr,A.old,by simp only;omega,A.dfs⟩,A.ein.restrict _,A.sin,hb⟩
    rcases Bh live (put q i.dst v) s with h|h
    .simp only;rw[h];exact A.rl.at_ s
    .simp only;rw[h];exact .any _
 .simp only[Ayg]
  constructor
  .intro z;exact⟨z,by have:k<ops.size:=(by omega);simp[Array.getD,this]⟩
  .intro z;exact z.1
 .simp[Array.getD,y] at hi
 .rw[ah];exact h
theorem nK{C:AU}(w:AX P W0 C){ep:Nat}{i:I}{env:A9}{σ:Aj}{n:Nat}{v:V}{τ:Aj}{o:Nat}(g:xop C ep i env σ n=some (v,τ,o))(h:i.cl=true)(q:ep<n)(t:Bs (Lt n) env)(s:BV (Lt n) σ):n<=o/\Bb (Lt o) v/\BV (Lt o) τ:=by
 unfold xop at g;split at g
 .split at g
  .rename_i f args e;have p:=w _ _ _ _ _ _ _ g (Nw e h t) s;exact⟨p.le,p.vin,p.sin⟩
  .rename_i e;obtain⟨⟨v1,z⟩,j,u⟩:=AeC.1 g;cases u;have y:=Ms (P:=P) (W0:=W0) j;have r:i.op.isC=false:=AfZ j;have:=Akq (S:=Lt n) r (λA _=>q) (I.cl_xs h t) (I.cl_zs h) s y;grind
 .cases g;exact⟨A0d _,.tup _ (by simp),s⟩
 .cases g
theorem UI{C:AU}(p:AX P W0 C){ep:Nat}:∀{l:List I} {env:A9} {σ:Aj} {n:Nat} {env':A9} {σ':Aj} {n':Nat},Uo C ep l env σ n=some (env',σ',n')->(∀i∈l,i.cl=true)->ep<n->Bs (Lt n) env->BV (Lt n) σ->
  n<=n'/\Bs (Lt n') env'/\BV (Lt n') σ'
 | [],env,σ,n,env',σ',n',h,_,_,o,q=>by cases h;grind
 | i::l,env,σ,n,env',σ',n',h,e,g,o,q=>by
  rw[Uo] at h;split at h
  .rename_i v τ y r;have one:=nK p r (e i (by simp)) g o q;obtain⟨t,u,w⟩:=UI p h (λj s=>e j (by simp[s])) (ApN g one.1) ((o.mono (Lt.mono one.1)).put one.2.1) one.2.2;grind
  .cases h
abbrev Sx:=A9×Aj×Nat
abbrev K7:=I->Sx->Option Sx
abbrev GR:=List (List Bool×Sx)
def Np(C:AU)(ep:Nat)(e:List Nat):K7:=λi s=>match xop C ep i s.1 s.2.1 s.2.2 with
 | some (v,σ,n)=>some (restrict e (put s.1 i.dst v),σ,n)
 | none=>none
def Ie(deps:List (List Nat))(D:List Bool)(i:Nat):Bool:=match D[i]? with
 | some false=>(deps.getD i []).all λj=>D.getD j false
 | _=>false
def Z4:List Bool->List Bool->Bool
 | [],[]=>true
 | a::x,b::y=>(a==b)&&Z4 x y
 | _,_=>false
theorem Yl:∀{a b:List Bool},Z4 a b=true->a=b
 | [],[],_=>rfl
 | a::x,b::y,h=>by rw[Z4,A0b,beq_iff_eq] at h;rw[h.1,Yl h.2]
 | [],_::_,h=>by cases h
 | _::_,[],h=>by cases h
def XM:A9->A9->Bool
 | [],[]=>true
 | a::x,b::y=>(Nat.beq a.1 b.1&&Pd a.2 b.2)&&XM x y
 | _,_=>false
theorem Rk:∀{a b:A9},XM a b=true->a=b
 | [],[],_=>rfl
 | (s,u)::x,(t,v)::y,h=>by simp only[XM,A0b,Ayn] at h;rw[h.1.1,(Hs _).1 _ _ (A0e _) h.1.2,Rk h.2]
 | [],_::_,h=>by cases h
 | _::_,[],h=>by cases h
def SD(a b:Sx):Bool:=(XM a.1 b.1&&Nat.beq a.2.2 b.2.2)&&Xl a.2.1 b.2.1
def aE(D:List Bool)(s:Sx):GR->Option GR
 | []=>some [(D,s)]
 | y::r=>bif Z4 y.1 D then(bif SD y.2 s then some (y::r) else none) else(match aE D s r with
  | some e=>some (y::e)
  | none=>none)
theorem Nr{D:List Bool}{s:Sx}:∀{T e:GR},aE D s T=some e->(∀y∈T,y∈e)/\∃y∈e,y.1=D/\(y.2=s\/SD y.2 s=true)
 | [],e,h=>by cases h;simp_all
 | y::r,e,h=>by
  rw[aE] at h;cases g:Z4 y.1 D with
  | true=>
   rw[g] at h;simp only[cond_true] at h;cases i:SD y.2 s with
   | true=>rw[i] at h;cases h;exact⟨λy o=>o,y,by simp,Yl g,.inr i⟩
   | false=>rw[i] at h;cases h
  | false=>
   rw[g] at h;simp only[cond_false] at h;split at h
   .rename_i u j;cases h;obtain⟨p,z,q,t⟩:=Nr j;grind
   .cases h
def goX(f:K7)(l:List I)(deps:List (List Nat))(e:List Bool×Sx):Nat->GR->Option GR
 | 0,T=>some T
 | k+1,T=>match goX f l deps e k T with
  | some T=>bif Ie deps e.1 k then(match l[k]? with
   | some i=>(match f i e.2 with
    | some s=>aE (e.1.set k true) s T
    | none=>none)
   | none=>none) else some T
  | none=>none
theorem Qj{f:K7}{l:List I}{deps:List (List Nat)}{e:List Bool×Sx}:∀{k:Nat} {T g:GR},goX f l deps e k T=some g->(∀y∈T,y∈g)/\
  ∀j,j<k->Ie deps e.1 j=true->∃i s,l[j]?=some i/\f i e.2=some s/\∃y∈g,y.1=e.1.set j true/\(y.2=s\/SD y.2 s=true)
 | 0,T,g,h=>by cases h;grind
 | k+1,T,g,h=>by
  rw[goX] at h;split at h
  .rename_i A t;obtain⟨q,a2⟩:=Qj t;cases w:Ie deps e.1 k with
   | false=>grind
   | true=>
    rw[w] at h;simp only[cond_true] at h;split at h
    .rename_i i F;split at h
     .rename_i s H;obtain⟨r,B⟩:=Nr h;refine⟨λy z=>r y (q y z),λj G p=>?_⟩;rcases Axd j k with o|u
      .obtain⟨J,L,C,D,y,c3,E⟩:=a2 j o p;grind
      grind
     .cases h
    .cases h
  .cases h
def YY(f:K7)(l:List I)(deps:List (List Nat)):GR->GR->Option GR
 | [],T=>some T
 | e::r,T=>match goX f l deps e l.length T with
  | some T=>YY f l deps r T
  | none=>none
theorem Oe{f:K7}{l:List I}{deps:List (List Nat)}:∀{S T o:GR},YY f l deps S T=some o->(∀y∈T,y∈o)/\
  ∀e∈S,∀j,j<l.length->Ie deps e.1 j=true->∃i s,l[j]?=some i/\f i e.2=some s/\∃y∈o,y.1=e.1.set j true/\(y.2=s\/SD y.2 s=true)
 | [],T,o,h=>by cases h;grind
 | e::r,T,o,h=>by
  rw[YY] at h;split at h
  .rename_i C w;obtain⟨p,a2⟩:=Qj w;obtain⟨q,t⟩:=Oe h;refine⟨λy B=>q y (p y B),λu g j z A=>?_⟩;rcases AmK.1 g with rfl|g
   .grind
   .exact t u g j z A
  .cases h
def Oa(f:K7)(l:List I)(deps:List (List Nat)):Nat->GR->Option GR
 | 0,T=>some T
 | m+1,T=>match YY f l deps T [] with
  | some T=>Oa f l deps m T
  | none=>none
def AcU(f:K7)(l:List I)(deps:List (List Nat))(s:Sx):Option Sx:=match Oa f l deps l.length [(List.replicate l.length false,s)] with
 | some [(_,s)]=>some s
 | _=>none
def AkH(l:List I)(env:A9):List Nat:=(l.filterMap (·.dst))++env.map (·.1)
section
variable{P:Program}{W0:World}{nt:Nat}{ops:Array Oper}{ro:Option Nat}
theorem XI.eqv{B:FR}{ep:Nat}{s t:Sx}{μ:Id->Option Value}{H:Addr->Option Value}{a:Act}{w:World}(o:SD t s=true)(h:XI W0 nt B ep s.1 s.2.1 s.2.2 μ H a w):XI W0 nt B ep t.1 t.2.1 t.2.2 μ H a w:=by unfold SD at o;simp only[A0b,Ayn] at o;obtain⟨⟨i,r⟩,g⟩:=o;have i:=Rk i;have g:=JU g;rw[i,r];exact⟨h.rl,h.hp.part g,h.lt,⟨h.fr.mu,h.fr.hp,h.fr.size,h.fr.keep,h.fr.pin,λq u ⟨id,e,p,j⟩=>h.fr.dom q u ⟨id,e,g _ _ p,j⟩⟩,h.old,h.ein,λid e p=>h.sin id e (g _ _ p),h.dfs⟩
theorem XI.restrict{B:FR}{ep:Nat}{env:A9}{σ:Aj}{n:Nat}{μ:Id->Option Value}{H:Addr->Option Value}{a:Act}{w:World}(live:List Nat)(h:XI W0 nt B ep env σ n μ H a w):XI W0 nt B ep (restrict live env) σ n μ H a w:=
 ⟨⟨h.rl.size,λs=>by
  rcases Bh live env s with g|g
  .rw[g];exact h.rl.at_ s
  .rw[g];exact .any _⟩,h.hp,h.lt,h.fr,h.old,h.ein.restrict _,h.sin,h.dfs⟩
theorem Xo:∀{l:List I} {j k:Nat} {a b:I} {d:Nat},(l.filterMap (·.dst)).Nodup->l[j]?=some a->l[k]?=some b->a.dst=some d->b.dst=some d->j=k
 | [],j,k,a,b,d,_,h,_,_,_=>by simp at h
 | x::l,j,k,a,b,d,w,q,r,g,o=>by
  have u:∀{i:Nat} {c:I},l[i]?=some c->c.dst=some d->d∈l.filterMap (·.dst):=λs t=>AzB.2 ⟨_,AgY s,t⟩;have p:(l.filterMap (·.dst)).Nodup/\∀e,x.dst=some e->e∉l.filterMap (·.dst):=by grind
  cases j with
  | zero=>grind
  | succ j=>
   cases k with
   | zero=>grind
   | succ k=>simp only[Axn] at q r;rw[Xo p.1 q r g o]
theorem YE:∀{D:List Bool} {k:Nat},D[k]?=some false->(D.set k true).count true=D.count true+1
 | [],k,h=>by simp at h
 | b::D,0,h=>by grind
 | b::D,k+1,h=>by grind
theorem TX{C:AU}(hC:AX P W0 C){B:FR}{ep:Nat}(av:B.n<=ep){QQ:Exit->Act->World->Prop}{l:List I}{deps:List (List Nat)}{S:List Nat}
  (aY:ops.size=l.length)(ax:∀(j:Nat) (i:I),l[j]?=some i->∃o,ops[j]?=some o/\Q9 P nt ops o i=true)(aH:(l.filterMap (·.dst)).Nodup)(az:∀i∈l,i.cl=true)(M:Dc ops=true)
  (ae:∀i,i<l.length->∀j∈deps.getD i [],YA ops j i=true){Df:List Bool}{sf:Sx}(hK:∀a w μ H,XI W0 nt B ep sf.1 sf.2.1 sf.2.2 μ H a w->QQ .normal a w) :
  ∀(m:Nat) (T:GR) (D:List Bool) (s:Sx) (g:Array Bool) (a:Act) (w:World) (μ:Id->Option Value) (H:Addr->Option Value),Oa (Np C ep S) l deps m T=some [(Df,sf)]->(D,s)∈T->D.length=l.length->D.count true+m=l.length->g.toList=D->
   XI W0 nt B ep s.1 s.2.1 s.2.2 μ H a w->(∀(j:Nat) (i:I),l[j]?=some i->D[j]?=some false->∀J,i.dst=some J->μ (ep,J)=none)->LD P ro .any ops QQ m g a w:=by
 intro m
 induction m with
 | zero=>
  intro T D s g a w μ H h hm z ad p hx _
  cases h
  simp only[Atk,Ay8] at hm
  obtain⟨rfl,rfl⟩:=hm
  have Z:∀b∈D,b=true:=by
   have:D.count true=D.length:=by omega
   intro b hb
   have:=List.count_eq_length.1 this b hb
   exact this.symm
  refine⟨?_,hK _ _ _ _ hx⟩
  unfold Region.ready
  rw[AyH]
  intro i r
  simp only[Ayg] at r
  have aF:i<g.size:=by grind
  have:g.getD i true=true:=by
   simp only[Array.getD,aF,dif_pos]
   exact Z _ (by rw[<-p];simp)
  simp[this]
 | succ m ih=>
  intro T D s g a w μ H h hm z ad p hx u
  rw[Oa] at h
  split at h
  .rename_i T' aw
   obtain⟨_,R⟩:=Oe aw
   have aV:g.size=l.length:=by rw[<-AxK,p,z]
   have q:∀i,i<l.length->∀d,g.getD i d=D.getD i false:=by
    intro i r d
    have L:i<g.size:=by omega
    have U:i<D.length:=by omega
    simp only[Array.getD,L,dif_pos,List.getD,AeP U,Option.getD_some]
    simp only[<-p];simp
   refine⟨fun ah=>?_,fun i r=>?_⟩
   . -- the least that is not dn is ready
    exfalso
    have E:∃i,i<l.length/\D.getD i false=false:=by
     apply Classical.byContradiction
     intro aI
     have:∀b∈D,true=b:=by
      intro b hb
      obtain⟨i,r⟩:=AtO.1 hb
      have aW:=(AfJ.1 r).1
      cases b with
      | true=>rfl
      | false=>exact absurd ⟨i,by omega,by simp[r]⟩ aI
     have:=List.count_eq_length.2 this
     omega
    obtain⟨i,r,hd⟩:=E
    obtain⟨i,⟨r,hd⟩,af⟩:∃i,(i<l.length/\D.getD i false=false)/\∀j,j<i->¬(j<l.length/\D.getD j false=false):=by
     induction i using Nat.strongRecOn with
     | ind i aL=>
      by_cases E:∃j,j<i/\j<l.length/\D.getD j false=false
      .obtain⟨j,L,U,h3⟩:=E
       exact aL j L U h3
      .exact⟨i,⟨r,hd⟩,fun j W hh=>E ⟨j,W,hh⟩⟩
    have:i∈Region.ready .any ops g:=by
     have G:i<ops.size:=by omega
     unfold Region.ready
     simp only[AxB,Ayg,A0b,AvX G,Axy,Option.getD_some]
     refine⟨G,by rw[q i r,hd];rfl,Ayx.2 fun e aC=>?_⟩
     unfold Dc at M
     have ab:=AmF.1 M i (by simpa using G)
     rw[AvX G] at ab
     have aa:=Ayx.1 ab e aC
     cases ac:Region.binds .any e with
     | false=>rfl
     | true=>
      simp only[ac,Avo,Axu,decide_eq_true_eq] at aa⊢
      rw[q e.on (by omega)]
      cases hh:D.getD e.on false with
      | true=>rfl
      | false=>exact absurd ⟨by omega,hh⟩ (af e.on aa)
    rw[ah] at this
    cases this
   .have aE:=r
    unfold Region.ready at r
    simp only[AxB,Ayg,A0b,AsT] at r
    have O:i<l.length:=by omega
    have N:D[i]?=some false:=by
     have L:=r.2.1
     rw[q i O] at L
     have U:i<D.length:=by omega
     simp only[List.getD,AeP U,Option.getD_some] at L
     rw[AeP U,L]
    have ai:Ie deps D i=true:=by
     unfold Ie
     rw[N]
     refine AmF.2 fun j W=>?_
     have:=GN M aE (ae i O j W)
     have aG:j<l.length:=by
      grind
     rw[q j aG] at this
     exact this
    obtain⟨op,s',e1,e2,y,e3,e4,Y⟩:=R (D,s) hm i O ai
    obtain⟨o,ho,aJ⟩:=ax i op e1
    unfold Np at e2
    split at e2
    .rename_i v σ' n' ak
     cases e2
     refine Ov hC av ho aJ (az op (AgY e1)) hx (fun J A=>u i op e1 N J A) ak _ QQ (fun a w al H' aj F aU=>?_)
     have aK:XI W0 nt B ep y.2.1 y.2.2.1 y.2.2.2 al H' a w:=by
      rcases Y with Y|Y
      .rw[Y];exact aj.restrict _
      .exact XI.eqv Y (aj.restrict _)
     refine ih T' y.1 y.2 _ a w al H' h e3 (by rw[e4];simpa using z) (by rw[e4,YE N];omega) (by rw[Az2,p,e4]) aK (fun j i' W t J A=>?_)
     rw[e4] at t
     have ag:j≠i:=by
      rintro rfl
      rw[List.getElem?_set_self (by simp only;omega)] at t
      cases t
     rw[AzO (AeS ag)] at t
     refine F (ep,J) hx.lt (fun d2 aB he=>?_) (u j i' W t J A)
     cases he
     exact ag (Xo aH W e1 A aB)
    .cases e2
  .cases h
end
theorem QZ{D:List Bool}{s:Sx}:∀{T e:GR},aE D s T=some e->∀y∈e,y∈T\/y=(D,s)
 | [],e,h,y,g=>by cases h;grind
 | z::r,e,h,y,g=>by
  rw[aE] at h;cases j:Z4 z.1 D with
  | true=>grind
  | false=>
   rw[j] at h;simp only[cond_false] at h;split at h
   .rename_i p o;cases h;rcases AmK.1 g with rfl|g
    .exact .inl (by simp)
    .rcases QZ o y g with i|i
     .exact .inl (by simp[i])
     .exact .inr i
   .cases h
section
variable{f:K7}{l:List I}{deps:List (List Nat)}{Pp:Sx→Prop}
theorem Xz(u:∀i∈l,∀s p,f i s=some p->Pp s->Pp p){e:List Bool×Sx}(t:Pp e.2):∀{k:Nat} {T g:GR},goX f l deps e k T=some g->(∀y∈T,Pp y.2)->∀y∈g,Pp y.2
 | 0,T,g,h,j=>by cases h;exact j
 | k+1,T,g,h,j=>by
  rw[goX] at h;split at h
  .rename_i A q;have o:=Xz u t q j;cases w:Ie deps e.1 k with
   | false=>grind
   | true=>
    rw[w] at h;simp only[cond_true] at h;split at h
    .rename_i i B;split at h
     .rename_i s C;intro y z;rcases QZ h y z with r|rfl
      .exact o y r
      grind
     .cases h
    .cases h
  .cases h
theorem Sf(o:∀i∈l,∀s p,f i s=some p->Pp s->Pp p):∀{S T g:GR},YY f l deps S T=some g->(∀y∈S,Pp y.2)->(∀y∈T,Pp y.2)->∀y∈g,Pp y.2
 | [],T,g,h,_,j=>by cases h;exact j
 | e::r,T,g,h,hS,j=>by
  rw[YY] at h;split at h
  .rename_i u q;exact Sf o h (λy t=>hS y (by simp[t])) (Xz o (hS e (by simp)) q j)
  .cases h
theorem Nt(j:∀i∈l,∀s o,f i s=some o->Pp s->Pp o):∀{m:Nat} {T e:GR},Oa f l deps m T=some e->(∀y∈T,Pp y.2)->∀y∈e,Pp y.2
 | 0,T,e,h,g=>by cases h;exact g
 | m+1,T,e,h,g=>by
  rw[Oa] at h;split at h
  .rename_i r p;exact Nt j h (Sf j p g (λy q=>by cases q))
  .cases h
end
theorem wJ{P:Program}{W0:World}{C:AU}(t:AX P W0 C){ep:Nat}{e:List Nat}{i:I}(o:i.cl=true){s g:Sx}(h:Np C ep e i s=some g)(j:ep<s.2.2/\Bs (Lt s.2.2) s.1/\BV (Lt s.2.2) s.2.1) :
  ep<g.2.2/\Bs (Lt g.2.2) g.1/\BV (Lt g.2.2) g.2.1:=by
 unfold Np at h;split at h
 .rename_i v σ n u;cases h;obtain⟨p,q,r⟩:=nK t u o j.1 j.2.1 j.2.2;exact⟨ApN j.1 p,(((j.2.1.mono (Lt.mono p)).put q).restrict _),r⟩
 .cases h
def Am2(σ:Aj)(i:Id):Bool:=match lk σ i with
 | some (.loop ..)=>false
 | _=>true
def Acv(σ:Aj):Aj:=σ.filter λp=>Am2 σ p.1
theorem Aaa(σ:Aj):∀id e,lk (Acv σ) id=some e->lk σ id=some e:=by
 intro id e h;unfold Acv at h;rw[NQ (Am2 σ)] at h;split at h
 .exact h
 .cases h
theorem vU{P:Program}{W0:World}{C:AU}(hC:AX P W0 C){nt:Nat}{r:Bool}{Q:Exit->St->Prop}{st:St}{l:List I}{live:List Nat}{deps:List (List Nat)}{y:List Nat}(O:l.all I.cl=true){s:Sx}{σi:Aj}(q:∀id e,lk σi id=some e->lk st.σ id=some e)
  (p:AcU (Np C st.n y) l deps (st.env,σi,st.n+1)=some s)(hq:Q .normal ⟨restrict live s.1,over σi s.2.1 st.σ,s.2.2⟩):MW P W0 nt r (.anyr l live deps) Q st:=by
 refine O7 λu N B a w _ M=>?_;obtain⟨rid,ops,rfl,Z⟩:∃rid ops,u=.region rid ops true/\SQ P nt ops l deps=true:=by
  cases u with
  | region rid ops A=>
   cases A with
   | false=>simp[Ax] at N
   | true=>exact⟨rid,ops,rfl,by simpa[Ax] using N⟩
  | _=>simp[Ax] at N
 unfold SQ at Z;simp only[A0b] at Z;obtain⟨⟨⟨ad,hd⟩,G,S⟩,E⟩:=Z;obtain⟨⟨μ,H,hr,hp,z,J,hn,R⟩,he,hs,hb⟩:=M;obtain⟨F,D⟩:=Jt ad;have L:ops.size=l.length:=by simpa using F
 unfold AcU at p;split at p
 .rename_i Df s1 ab;cases p;refine Ek λt=>?_;simp only[Region.schedule,G,AyR,if_true];refine Gb ops.size t _ a _ ?_;rw[L];have af:=hp.drew;have U:Fr B.μ B.H B.σ B.w μ H st.σ w.drew:=⟨z.mu,z.hp,z.size,z.keep,z.pin,z.dom⟩
  refine TX (B:=⟨μ,H,σi,w.drew,st.n,B.ro,B.ds⟩) (ep:=st.n) hC (A0d _) L (λj i Y=>?_) (of_decide_eq_true hd) (λi W=>AmF.1 O i W) S (λi W j Y=>?_) (λa w μ H p=>?_) l.length _ _ _ (Array.replicate l.length false) a _ μ H ab (Atk.2 rfl) Azv (by rw[List.count_replicate];simp) (by simp)
   ⟨hr,(hp.drew.part q).more (AmJ _),A0e _,Fr.refl _ _ _ _,λ_ _ h=>h,he.mono (Lt.mono (AmJ _)),λid e hl=>⟨Nat.lt_succ_of_lt (hs id e (q _ _ hl)).1,(hs id e (q _ _ hl)).2.mono (Lt.mono (AmJ _))⟩,R⟩ (λj i _ _ dd _=>hp.bd _ (A0d _))
  .obtain⟨o,ho,ac⟩:=D j i Y;exact⟨o,by rw[<-Ayz];exact ho,ac⟩
  .exact AmF.1 (AmF.1 E i (by simpa using W)) j Y
  .obtain⟨ae,T⟩:=Hp.back af q p.hp p.fr;have aa:st.n<=s.2.2:=A0g p.lt;refine⟨_,hq,⟨μ,H,⟨p.rl.size,λt=>?_⟩,ae,U.trans T,λid h1 h2=>p.old id (ApN h1 hn) (J id h1 h2),?_,p.dfs⟩,p.ein.restrict _,BV.over (hs.mono (Lt.mono aa)) p.sin,hb⟩
   .rcases Bh live s.1 t with g|g
    .simp only;rw[g];exact p.rl.at_ t
    .simp only;rw[g];exact .any _
   .have:=p.lt;simp only;omega
 .cases p
abbrev Vj:=IC->St->Option (Exit×St)
def YU(C:AU):IC->St->Option (Exit×St)
 | .seqr l live,st=>match Uo C st.n l st.env st.σ (st.n+1) with
  | some (env,σ,n)=>some (.normal,⟨restrict live env,σ,n⟩)
  | none=>none
 | .ops l live _,st=>match Aas C st.n l st.env st.σ with
  | some (env,σ)=>some (.normal,⟨restrict live env,σ,st.n+1⟩)
  | none=>none
 | .opxe (a::l) i live _,st=>match Aas C st.n (a::l) st.env st.σ with
  | some (env,σ)=>match xop C (st.n+1) i env σ (st.n+2) with
   | some (v,σ',n')=>some (.normal,⟨restrict live (put env i.dst v),σ',n'⟩)
   | none=>none
  | none=>none
 | .anyr l live deps,st=>match AcU (Np C st.n (AkH l st.env)) l deps (st.env,Acv st.σ,st.n+1) with
  | some s=>some (.normal,⟨restrict live s.1,over (Acv st.σ) s.2.1 st.σ,s.2.2⟩)
  | none=>none
 | _,_=>none
def Aor:V->Option Id
 | .arr id=>some id
 | .agg cs=>cs.findSome? λc=>match c with
  | .arr id=>some id
  | _=>none
 | _=>none
def Aix:AE->List X
 | .call _ xs|.calls _ xs|.calln _ xs|.callr _ xs=>xs
 | _=>[]
def Aex(i:I)(env:A9):Option Id:=
 match(Aix i.op).findSome? λx=>Aor (ev (get env) x) with
 | some id=>some id
 | none=>
 let x:=match i.op with
  | .slL x _ _ _=>some x
  | .pu _ (x::_)=>some x
  | .app x _ _ _=>some x
  | _=>none
 match x with
 | some x=>match ev (get env) x with
  | .arr id=>some id
  | _=>none
 | none=>none
def wU(C:AU)(ep:Nat):List I->A9->Aj->Nat->Option Id
 | [],_,_,_=>none
 | i::l,env,σ,n=>match xop C ep i env σ n with
  | some (v,σ',n')=>wU C ep l (put env i.dst v) σ' n'
  | none=>Aex i env
def Agv(C:AU)(ep:Nat):List I->A9->Aj->Option Id
 | [],_,_=>none
 | i::l,env,σ=>match yop C ep i env σ with
  | some (v,σ')=>Agv C ep l (put env i.dst v) σ'
  | none=>Aex i env
def Anv(C:AU):IC->St->Option Id
 | .seqr l _,st=>wU C st.n l st.env st.σ (st.n+1)
 | .ops l _ _,st=>Agv C st.n l st.env st.σ
 | .opxe l _ _ _,st=>Agv C st.n l st.env st.σ
 | .anyr l _ _,st=>wU C st.n l st.env st.σ (st.n+1)
 | _,_=>none
def NW(C:AU):Nat->IC->St->Option (Exit×St)
 | 0,ic,st=>YU C ic st
 | k+1,ic,st=>match YU C ic st with
  | some r=>some r
  | none=>match Anv C ic st with
   | some id=>match cJ id st with
    | some e=>NW C k ic e
    | none=>none
   | none=>none
def Dx(C:AU)(L:Vj):IC->St->Option (Exit×St)
 | .seqr l live,st=>NW C 3 (.seqr l live) st
 | .ops l live p,st=>NW C 3 (.ops l live p) st
 | .opxe l i live p,st=>NW C 3 (.opxe l i live p) st
 | .anyr l live d,st=>NW C 3 (.anyr l live d) st
 | .seq a b,st=>match Dx C L a st with
  | some (.normal,s)=>Dx C L b s
  | r=>r
 | .cond c a b,st=>match ev (get st.env) c with
  | .b true=>Dx C L a st
  | .b false=>Dx C L b st
  | _=>none
 | .block id a,st=>match Dx C L a st with
  | some (.exit e,s)=>if e=id then some (.normal,s) else some (.exit e,s)
  | r=>r
 | .loop c,st=>L (.loop c) st
 | .rfn g ps a b h live,st=>L (.rfn g ps a b h live) st
 | .wk c,st=>Dx C L c st
 | .exit id,st=>some (.exit id,st)
 | .ret,st=>some (.ret,st)
 | .skip,st=>some (.normal,st)
 | _,_=>none
def XS(P:Program)(W0:World)(nt:Nat)(r:Bool)(ic:IC)(st:St)(e:Exit)(g:St):Prop:=
 Bs (Lt st.n) st.env->BV (Lt st.n) st.σ->(st.n<=g.n/\Bs (Lt g.n) g.env/\BV (Lt g.n) g.σ)/\MW P W0 nt r ic (λh s=>h=e/\s=g) st
def Ts(P:Program)(W0:World)(nt:Nat)(r:Bool)(L:Vj):Prop:=∀ic st e g,ic.cl=true->(r=true\/ic.nr=true)->L ic st=some (e,g)->XS P W0 nt r ic st e g
theorem M5{C:AU}(w:AX P W0 C){nt:Nat}{r:Bool}:∀{ic:IC} {st:St} {e:Exit} {g:St},ic.cl=true->YU C ic st=some (e,g)->XS P W0 nt r ic st e g
 | .seqr l live,st,e,g,j,h=>by
  intro B t;rw[YU] at h;split at h
  .rename_i env σ n z;cases h;have o:∀i∈l,i.cl=true:=λi q=>AmF.1 j i q;obtain⟨E,p,A⟩:=UI w z o (A0e _) (B.mono (Lt.mono (AmJ _))) (t.mono (Lt.mono (AmJ _)));exact⟨⟨by simp only;omega,p.restrict _,A⟩,vP w j z ⟨rfl,rfl⟩⟩
  .cases h
 | .ops l live paths,st,e,g,j,h=>by
  intro B t;rw[YU] at h;split at h
  .rename_i env σ F;cases h;have o:∀i∈l,i.cl=true:=λi q=>AmF.1 j i q;obtain⟨E,p,A⟩:=MM w F o (B.mono (Lt.mono (AmJ _))) (t.mono (Lt.mono (AmJ _)));refine⟨⟨AmJ _,p.restrict _,A⟩,AaA (env':=restrict live env) (σ':=σ) (m:=st.n+1) (Ru (E _ λn' M=>⟨rfl,n',rfl⟩)) (AmJ _) (λ_ _=>⟨p.restrict _,A⟩) ⟨rfl,rfl⟩⟩
  .cases h
 | .opxe [] _ _ _,st,e,g,j,h=>by cases h
 | .opxe (a::l) i live paths,st,e,g,j,h=>by
  intro B t;simp only[IC.cl,A0b] at j;rw[YU] at h;split at h
  .rename_i env σ F;split at h
   .rename_i v σ' n' z;cases h;have o:∀i∈a::l,i.cl=true:=λi q=>AmF.1 j.1 i q;obtain⟨E,p,A⟩:=MM w F o (B.mono (Lt.mono (AmJ _))) (t.mono (Lt.mono (AmJ _)));obtain⟨O,J,L⟩:=nK w z j.2 (A0e _) (p.mono (Lt.mono (AmJ _))) (A.mono (Lt.mono (AmJ _)));refine⟨⟨by simp only;omega,((p.mono (Lt.mono (by omega))).put J).restrict _,L⟩,Acw w rfl j.2 E p A z ⟨rfl,rfl⟩⟩
   .cases h
  .cases h
 | .anyr l live deps,st,e,g,j,h=>by
  intro B t;rw[YU] at h;split at h
  .rename_i s z;cases h;have o:∀i∈l,i.cl=true:=λi q=>AmF.1 j i q;have D:st.n<s.2.2/\Bs (Lt s.2.2) s.1/\BV (Lt s.2.2) s.2.1:=by
    have u:=z;unfold AcU at u;split at u
    .rename_i N S G;cases u;exact Nt (Pp:=λs=>st.n<s.2.2/\Bs (Lt s.2.2) s.1/\BV (Lt s.2.2) s.2.1) (λi q s R E p=>wJ w (o i q) E p) G (λy F=>by simp only[Atk] at F;subst F;exact⟨A0e _,B.mono (Lt.mono (AmJ _)),λid e H=>⟨Nat.lt_succ_of_lt (t id e (Aaa _ _ _ H)).1,(t id e (Aaa _ _ _ H)).2.mono (Lt.mono (AmJ _))⟩⟩) _ (Atk.2 rfl)
    .cases u
   exact⟨⟨by simp only;omega,D.2.1.restrict _,BV.over (t.mono (Lt.mono (A0g D.1))) D.2.2⟩,vU w j (Aaa _) z ⟨rfl,rfl⟩⟩
  .cases h
 | .seq ..,st,e,g,j,h=>by cases h
 | .cond ..,st,e,g,j,h=>by cases h
 | .block ..,st,e,g,j,h=>by cases h
 | .loop ..,st,e,g,j,h=>by cases h
 | .wk ..,st,e,g,j,h=>by cases h
 | .exit ..,st,e,g,j,h=>by cases h
 | .ret,st,e,g,j,h=>by cases h
 | .skip,st,e,g,j,h=>by cases h
 | .mnext ..,st,e,g,j,h=>by cases h
 | .opx ..,st,e,g,j,h=>by cases h
 | .opxq ..,st,e,g,j,h=>by cases h
 | .opxd ..,st,e,g,j,h=>by cases h
 | .opxv ..,st,e,g,j,h=>by cases h
 | .scope ..,st,e,g,j,h=>by cases h
 | .rfn ..,st,e,g,j,h=>by cases h
theorem EZ{C:AU}(o:AX P W0 C){nt:Nat}{r:Bool}{ic:IC}(q:ic.cl=true):∀(k:Nat) {st:St} {e:Exit} {g:St},NW C k ic st=some (e,g)->XS P W0 nt r ic st e g
 | 0,st,e,g,h=>M5 o q h
 | k+1,st,e,g,h=>by
  rw[NW] at h;split at h
  .rename_i r H;cases h;exact M5 o q H
  .split at h
   .split at h
    .rename_i L G;obtain⟨t,A,s⟩:=iS (W0:=W0) (nt:=nt) G;intro F J;have D:=EZ (nt:=nt) (r:=r) o q k h;obtain⟨u,y⟩:=s _ F J;rw[<-A] at u y;obtain⟨z,E⟩:=D u y;rw[A] at z;exact⟨z,λj i B a w hB p=>E j i B a w hB (t B a w p)⟩
    .cases h
   .cases h
theorem Bf{C:AU}(z:AX P W0 C){L:Vj}{nt:Nat}{r:Bool}(A:Ts P W0 nt r L):∀{ic:IC} {st:St} {e:Exit} {j:St},ic.cl=true->(r=true\/ic.nr=true)->Dx C L ic st=some (e,j)->XS P W0 nt r ic st e j
 | .seqr l live,st,e,j,o,_,h=>EZ z o 3 h
 | .ops l live p,st,e,j,o,_,h=>EZ z o 3 h
 | .opxe l i live p,st,e,j,o,_,h=>EZ z o 3 h
 | .anyr l live d,st,e,j,o,_,h=>EZ z o 3 h
 | .seq a b,st,e,j,o,q,h=>by
  intro t u;simp only[IC.cl,A0b] at o;simp only[IC.nr,A0b] at q;have B:=q.imp id And.left;have E:=q.imp id And.right;rw[Dx] at h;split at h
  .rename_i s H;obtain⟨⟨w,R,S⟩,y⟩:=Bf z A o.1 B H t u;obtain⟨⟨T,U,W⟩,Z⟩:=Bf z A o.2 E h R S;refine⟨⟨AmH w T,U,W⟩,Ws (FC y λF G D=>?_)⟩;grind
  .rename_i O;obtain⟨w,y⟩:=Bf z A o.1 B h t u;refine⟨w,Ws (FC y λF G D=>?_)⟩;simp_all
 | .cond c a b,st,e,j,o,q,h=>by
  intro t u;simp only[IC.cl,A0b] at o;simp only[IC.nr,A0b] at q;have B:=q.imp id And.left;have E:=q.imp id And.right;rw[Dx] at h;split at h
  .rename_i M;obtain⟨w,y⟩:=Bf z A o.1 B h t u;exact⟨w,Qh M y⟩
  .rename_i M;obtain⟨w,y⟩:=Bf z A o.2 E h t u;exact⟨w,Qh M y⟩
  .cases h
 | .block id a,st,e,j,o,q,h=>by
  intro t u;rw[Dx] at h;split at h
  .rename_i N s H;obtain⟨w,y⟩:=Bf z A (ic:=a) o q H t u;split at h
   .rename_i J;cases h;refine⟨w,JI (FC y λF G D=>?_)⟩;obtain⟨rfl,rfl⟩:=D;simp only[De];grind
   .rename_i J;cases h;refine⟨w,JI (FC y λF G D=>?_)⟩;obtain⟨rfl,rfl⟩:=D;simp only[De];grind
  .rename_i O;obtain⟨w,y⟩:=Bf z A (ic:=a) o q h t u;refine⟨w,JI (FC y λF G D=>?_)⟩;obtain⟨rfl,rfl⟩:=D;cases F with
   | exit N=>exact absurd h (O _ _)
   | _=>exact⟨rfl,rfl⟩
 | .loop c,st,e,j,o,q,h=>A _ st e j o q h
 | .wk c,st,e,j,o,q,h=>by intro t u;obtain⟨w,y⟩:=Bf z A (ic:=c) o q h t u;exact⟨w,AiA y⟩
 | .exit id,st,e,j,o,q,h=>by intro t u;cases h;exact⟨⟨A0d _,t,u⟩,sA ⟨rfl,rfl⟩⟩
 | .ret,st,e,j,o,q,h=>by intro t u;cases h;exact⟨⟨A0d _,t,u⟩,Aca ⟨rfl,rfl⟩⟩
 | .skip,st,e,j,o,q,h=>by intro t u;cases h;exact⟨⟨A0d _,t,u⟩,vF ⟨rfl,rfl⟩⟩
 | .mnext ..,st,e,j,o,q,h=>by cases h
 | .opx ..,st,e,j,o,q,h=>by cases h
 | .opxq ..,st,e,j,o,q,h=>by cases h
 | .opxd ..,st,e,j,o,q,h=>by cases h
 | .opxv ..,st,e,j,o,q,h=>by cases h
 | .scope ..,st,e,j,o,q,h=>by cases h
 | .rfn g ps a b Y live,st,e,j,o,q,h=>A _ st e j o q h
end
end
end Go.Ir
end
section
namespace Go.Ir
open Go.RowKit
noncomputable section
variable[F4]
def AlE(C:AU)(nt:Nat)(g:X)(ps:List Nat)(a b:IC)(h live:List Nat)(st:St):Option (Exit×St):=
 match ev (get st.env) g with
 | .fn f first e=>match yQ f (first++[.arr (st.n,0)]++e) with
  | some (f,args)=>match C f args (((st.n,0),.loop nt (restrict h st.env) ps a b .ready none)::st.σ) (st.n+1) with
   | some (_,σ',n')=>match Hw σ' (st.n,0) with
    | some (.loop _ _ _ _ _ s i)=>bif JD s then none else some (vH i,⟨restrict live st.env,fX σ' (st.n,0),n'⟩)
    | _=>none
   | none=>none
  | none=>none
 | _=>none
section
variable{P:Program}{W0:World}{nt:Nat}
theorem U8{C:AU}(hC:AX P W0 C)(hP:Gt P){g:X}{ps:List Nat}{a b:IC}{E live:List Nat}{st:St}{e:Exit}{p:St}(Z:(IC.rfn g ps a b E live).cl=true)(h:AlE C nt g ps a b E live st=some (e,p)):XS P W0 nt true (.rfn g ps a b E live) st e p:=by
 intro O hs;unfold AlE at h;split at h
 .rename_i f0 first D hg
  split at h
  .rename_i f args N;split at h
   .rename_i v σ' n' y;split at h
    .rename_i al W am a1 b1 s pd J;rw[B6] at J;cases u:JD s with
     | true=>rw[u] at h;cases h
     | false=>
     rw[u] at h;simp only[cond_false,AmC,Ay8] at h;obtain⟨rfl,rfl⟩:=h;rw[XF];obtain⟨rfl,i,q⟩:=G3 N;simp only[IC.cl,A0b] at Z;have F:Bb (Lt st.n) (.fn f0 first D):=by rw[<-hg];exact X.cl_in Z.1.1 O
     have r:Lt (st.n+1) (st.n,0):=A0e _;have S:BV (Lt (st.n+1)) (((st.n,0),A5.loop nt (restrict E st.env) ps a b .ready none)::st.σ):=
      (hs.mono (Lt.mono (AmJ _))).cons r (.loop _ _ _ _ _ _ _ ((O.restrict E).mono (Lt.mono (AmJ _))) (by grind))
     have L:∀x∈args,Bb (Lt (st.n+1)) x:=by
      rw[<-i];intro x o;simp only[Ay4,AmD,Atk] at o;rcases o with o|rfl|o
      .exact(F.fn_inv.1 x o).mono (Lt.mono (AmJ _))
      .exact .arr _ r
      .exact(F.fn_inv.2 x o).mono (Lt.mono (AmJ _))
     have A:=hC _ _ _ _ _ _ _ y L S;have G:st.n<=n':=Nat.le_of_succ_le A.le;have Y:=(O.restrict live).mono (Lt.mono G);refine⟨⟨G,Y,A.sin.del _⟩,λU z B ad w hB M=>?_⟩;refine Be (R7 (Q:=λe s=>e=vH pd/\s=⟨restrict live st.env,del σ' (st.n,0),n'⟩) hP hg (A.callable q) (λw μ H vals hp hv=>?_) z (hB rfl) M.1) λe a' w' ⟨B',o,p,⟨h1,h2⟩,ha⟩=>⟨B',o.1,p,⟨h1,h2⟩,ha,by rw[h2];exact Y,by rw[h2];exact A.sin.del _,o.2⟩
     have t:=A.run w μ H vals hp (by rw[<-i];exact hv);rw[D8 q] at t;refine Ax5 t ?_;rintro e w' ⟨val,T,H',rfl,ak,R,hf,j⟩;exact⟨val,T,H',n',σ',rfl,⟨_,_,_,_,_,s,pd,J,u,rfl,rfl⟩,R,A.le,hf,j⟩
    .cases h
   .cases h
  .cases h
 .cases h
end
end
end Go.Ir
end
section
namespace Go.Ir
open Go.RowKit
noncomputable section
variable[F4]
def Sub(σ' σ:Aj):Prop:=∀id e,lk σ' id=some e->lk σ id=some e
theorem TK.sub{W0:World}{nt:Nat}{B:FR}{env:A9}{σ σ':Aj}{n:Nat}{a:Act}{w:World}(h:TK W0 nt B ⟨env,σ,n⟩ a w)(q:Sub σ' σ):TK W0 nt B ⟨env,σ',n⟩ a w:=by obtain⟨⟨μ,H,A,hp,i,j,y,o⟩,u,r,t⟩:=h;refine⟨⟨μ,H,A,hp.part q,⟨i.mu,i.hp,i.size,i.keep,i.pin,λs g z=>i.dom s g ?_⟩,j,y,o⟩,u,λid e p=>r id e (q _ _ p),t⟩;obtain⟨id,e,p,g⟩:=z;exact⟨id,e,q _ _ p,g⟩
def Agh(n0:Nat)(σ:Aj):List Id:=List.rec (motive:=λ_=>List Id) [] (λp _ e=>Bool.rec (motive:=λ_=>List Id) e (p.1::e) (Nat.blt p.1.1 n0)) σ
def Ar6(n0:Nat)(σ:Aj):Nat:=List.rec (motive:=λ_=>Nat) 0 (λp _ e=>Bool.rec (motive:=λ_=>Nat) (Nat.succ e) e (Nat.blt p.1.1 n0)) σ
def gcS(n0:Nat)(e:List V)(σ:Aj):Aj:=
 Bool.rec (motive:=λ_=>Aj) (LN (Un σ 100000 (X7 e (Agh n0 σ)) []) σ) σ (Nat.ble (Ar6 n0 σ) 12)
theorem Jy(n0:Nat)(g:List V)(σ:Aj):Sub (gcS n0 g σ) σ:=by
 intro id e h;unfold gcS at h;cases i:Nat.ble (Ar6 n0 σ) 12 with
 | true=>rw[i] at h;exact h
 | false=>rw[i] at h;have h:lk (LN (Un σ 100000 (X7 g (Agh n0 σ)) []) σ) id=some e:=h;unfold LN at h;rw[KM] at h;grind
def SG(n0:Nat)(st:St):St:=⟨st.env,gcS n0 (st.env.map (·.2)) st.σ,st.n⟩
section
variable{P:Program}{W0:World}
def Fg(C:AU)(nt n0:Nat):Nat->Vj
 | 0=>λ_ _=>none
 | k+1=>λic st=>match ic with
  | .loop c=>match Dx C (Fg C nt n0 k) c st with
   | some (.normal,s)=>Fg C nt n0 k (.loop c) (SG n0 s)
   | r=>r
  | .rfn g ps a b e live=>AlE C nt g ps a b e live st
  | _=>none
theorem GX{C:AU}(A:AX P W0 C)(hP:Gt P){nt n0:Nat}{r:Bool}:∀k,Ts P W0 nt r (Fg C nt n0 k):=by
 intro k
 induction k using Nat.strongRecOn with
 | _ k W=>
 cases k with
 | zero=>intro c st e i _ _ h;cases h
 | succ k=>
  have U:=W k (A0e _);intro ic st e i q j h;cases ic with
  | rfn g ps a b en live=>
   have hr:r=true:=by
    rcases j with t|t
    .exact t
    .cases t
   subst hr;exact U8 A hP q h
  | loop c=>
   have q:c.cl=true:=q;have j:r=true\/c.nr=true:=j;intro N S;have o:(match Dx C (Fg C nt n0 k) c st with
    | some (.normal,s)=>Fg C nt n0 k (.loop c) (SG n0 s)
    | r=>r)=some (e,i):=h
   have names:∀s,Dx C (Fg C nt n0 k) c st=some (.normal,s)->XS P W0 nt r c st .normal s:=λs p=>Bf A U q j p;have O:st.n<=i.n/\Bs (Lt i.n) i.env/\BV (Lt i.n) i.σ:=by
    split at o
    .rename_i s p;obtain⟨⟨t,Y,G⟩,_⟩:=names s p N S;have H:BV (Lt s.n) (SG n0 s).σ:=λid e R=>G id e (Jy _ _ _ _ _ R);obtain⟨⟨J,z,h6⟩,_⟩:=U (.loop c) (SG n0 s) e i q j o Y H;exact⟨AmH t J,z,h6⟩
    .exact(Bf A U q j o N S).1
   refine⟨O,?_⟩;refine eZ (Inv:=λm s=>m<=k+1/\Fg C nt n0 m (.loop c) s=some (e,i)/\Bs (Lt s.n) s.env/\BV (Lt s.n) s.σ) (λm s hI=>?_) (k+1) ⟨A0d _,h,N,S⟩;obtain⟨hm,p,D,E⟩:=hI;cases m with
   | zero=>cases p
   | succ m=>
    have p:(match Dx C (Fg C nt n0 m) c s with
     | some (.normal,s)=>Fg C nt n0 m (.loop c) (SG n0 s)
     | r=>r)=some (e,i):=p
    have F:Ts P W0 nt r (Fg C nt n0 m):=W m (by omega);split at p
    .rename_i s1 t;obtain⟨⟨Y,G,J⟩,z⟩:=Bf A F q j t D E;have L:BV (Lt s1.n) (SG n0 s1).σ:=λid e R=>J id e (Jy _ _ _ _ _ R);intro y u B a w hB M;refine Be (z y u B a w hB M) λe' a w Z=>?_;obtain⟨B',T,s2,⟨rfl,rfl⟩,ha⟩:=Z;exact⟨B',T,SG n0 s2,⟨m,A0e _,by omega,p,G,L⟩,TK.sub ha (Jy _ _ _)⟩
    .rename_i hr;obtain⟨_,z⟩:=Bf A F q j p D E;refine FC z λe' s' Z=>?_;simp_all
  | _=>cases h
theorem MH{S:Id->Prop}:∀{ps:List Nat} {vs:List V} {env:A9},(∀v∈vs,Bb S v)->Bs S env->Bs S (HG ps vs env)
 | [],_,_,_,e=>e
 | _::_,[],_,_,e=>e
 | p::ps,v::vs,env,g,e=>MH (ps:=ps) (λx h=>g x (by simp[h])) (e.put (d:=some p) (g v (by simp)))
def zZ(C:AU)(K:Nat)(args:List V)(σ:Aj)(n:Nat):Option (V×Aj×Nat):=match args with
 | .arr id::vs=>match Hw σ id with
  | some (.loop nt env ps a b .ready D)=>bif Nat.beq vs.length ps.length&&ps.all (λp=>Nat.blt p nt) then(match Dx C (Fg C nt n K) a ⟨HG ps vs env,σ,n⟩ with
   | some (.normal,j)=>(match Hw j.σ id with
    | some (.loop o h s w y .ready r)=>(match Dx C (Fg C nt n K) b ⟨j.env,fQ j.σ id (.loop o h s w y .busy r),j.n⟩ with
     | some (e,u)=>(match pdX e with
      | some g=>(match Hw u.σ id with
       | some (.loop q i t a2 z B A)=>some (.b g.isNone,gcS n [] (fQ u.σ id (.loop q i t a2 z (bif g.isNone then .ready else .done) g)),u.n)
       | _=>none)
      | none=>none)
     | none=>none)
    | _=>none)
   | _=>none) else none
  | _=>none
 | _=>none
theorem AcZ{C:AU}(hC:AX P W0 C)(hP:Gt P){K:Nat}{args:List V}{σ σ':Aj}{n n':Nat}{v:V}(h:zZ C K args σ n=some (v,σ',n'))(ha:∀a∈args,Bb (Lt n) a)(hs:BV (Lt n) σ):Fh P W0 HL args σ n v σ' n':=by
 unfold zZ at h;split at h
 .rename_i id vs;split at h
  .rename_i nt env ps a b pd L;rw[B6] at L;cases T:(Nat.beq vs.length ps.length&&ps.all λp=>Nat.blt p nt) with
   | false=>rw[T] at h;cases h
   | true=>
   rw[T] at h;simp only[cond_true] at h;rw[A0b,Ayn] at T;split at h
   .rename_i s1 ay;split at h
    .rename_i ad A af a1 b1 ae u;rw[B6] at u;split at h
     .rename_i e G ab;split at h
      .rename_i g aw;split at h
       .rename_i s i t a2 O aC az y;rw[B6] at y;cases h;rw[XL] at ab⊢;obtain⟨D,q⟩:=(hs _ _ L).2.loop_inv;simp only[A0b] at q;have aa:∀x∈vs,Bb (Lt n) x:=λx hx=>ha x (by simp[hx]);have am:=Bf (nt:=nt) (r:=false) hC (GX hC hP K) q.1.1 (.inr q.2.1) ay;obtain⟨⟨q1,q2,q3⟩,q4⟩:=am (MH aa D) hs;have ag:BV (Lt s1.n) (upd s1.σ id (.loop ad A af a1 b1 .busy ae)):=q3.upd u (by obtain⟨h1,M⟩:=(q3 _ _ u).2.loop_inv;exact .loop _ _ _ _ _ _ _ h1 M);have an:=Bf (nt:=nt) (r:=false) hC (GX hC hP K) q.1.2 (.inr q.2.2) ab;obtain⟨⟨q5,q6,q7⟩,q8⟩:=an q2 ag;have aA:BV (Lt G.n) (upd G.σ id (.loop s i t a2 O (bif g.isNone then .ready else .done) g)):=q7.upd y (by obtain⟨h1,M⟩:=(q7 _ _ y).2.loop_inv;exact .loop _ _ _ _ _ _ _ h1 M);have E:=Jy n [] (upd G.σ id (.loop s i t a2 O (bif g.isNone then .ready else .done) g));simp only at q1 q5;refine⟨λh=>absurd rfl h,AmH q1 q5,.b _,λj x hj=>aA j x (E _ _ hj),λw μ H vals hp J=>?_⟩;refine EE.mono (f:=HL) (R:=λe w'=>∃val z H' n' vv σ',e=.returned val/\(n'=G.n/\vv=.b g.isNone/\σ'=gcS n [] (upd G.σ id (.loop s i t a2 O (bif g.isNone then .ready else .done) g)))/\Ao z H' vv val/\Hp W0 σ' n' z H' w'/\n<=n'/\Fr μ H σ w z H' σ' w'/\∀id,id.1<n->μ id=none->z id=none) ?_ ?_
        .unfold EE;rw[if_pos rfl];refine Mw (R:=λ_ n' vv σ'=>n'=G.n/\vv=.b g.isNone/\σ'=gcS n [] (upd G.σ id (.loop s i t a2 O (bif g.isNone then .ready else .done) g))) hp J L T.1 T.2 λl ca cb ap aq aK ao=>?_;refine Be (q4 ca ((hP _ _ _).1 ap) _ _ _ (λh=>by cases h) ⟨ao,MH aa D,hs,λid av=>hp.bd id av⟩) λe1 N w1 ar=>?_;obtain⟨B1,F,aS,⟨U,Y⟩,o⟩:=ar;rw[Y] at o;refine⟨U,B1,s1,ad,A,af,a1,b1,ae,F,o.1,u,λw2 S=>?_⟩;have M:=q8 cb ((hP _ _ _).1 aq) B1 N w2 (λh=>by cases h) ⟨S,q2,ag,o.2.2.2⟩;rw[F.ro] at M;refine Be M λe2 aF w3 au=>?_;obtain⟨B2,ac,aT,⟨W,Z⟩,B⟩:=au;rw[Z] at B;rw[W];exact⟨B2,G,g,s,i,t,a2,O,aC,az,_,cQ aw,ac,B.1,y,E,rfl,rfl,rfl⟩
        grind
       .cases h
      .cases h
     .cases h
    .cases h
   .cases h
  .cases h
 .cases h
def Ahm(env:A9)(σ:Aj):R->Option V
 | .t s=>some (get env s)
 | .c s n e=>match get env s with
  | .ref id off=>match Hw σ id with
   | some (.box u)=>sub u off n e
   | _=>none
  | _=>none
def UG(env:A9)(σ:Aj):List R->Option (List V)
 | []=>some []
 | r::e=>match Ahm env σ r with
  | some v=>match UG env σ e with
   | some vs=>some (v::vs)
   | none=>none
  | none=>none
theorem AbB{S:Id->Prop}{st:St}{r:R}{v:V}(h:Ahm st.env st.σ r=some v)(g:Bs S st.env)(j:BV S st.σ):Dg st r v/\Bb S v:=by
 cases r with
 | t s=>cases h;exact⟨rfl,g s⟩
 | c s n o=>
  simp only[Ahm] at h;split at h
  .rename_i id off i;split at h
   .rename_i u e;rw[B6] at e;exact⟨⟨id,off,u,i,e,h⟩,Iy h (j _ _ e).2.box_inv⟩
   .cases h
  .cases h
theorem QM{S:Id->Prop}{st:St}(g:Bs S st.env)(i:BV S st.σ):∀{e:List R} {vs:List V},UG st.env st.σ e=some vs->Dd st e vs/\∀v∈vs,Bb S v
 | [],vs,h=>by cases h;exact⟨trivial,λv s=>by cases s⟩
 | r::e,vs,h=>by
  rw[UG] at h;split at h
  .rename_i v j;split at h
   .rename_i t o;cases h;obtain⟨p,u⟩:=AbB j g i;obtain⟨q,w⟩:=QM g i o;exact⟨⟨p,q⟩,λx y=>by grind
⟩
   .cases h
  .cases h
theorem zE{S:Id->Prop}{vs:List V}(h:∀v∈vs,Bb S v):Bb S (Lx vs):=by
 unfold Lx;split
 .exact h _ (by simp)
 .exact .tup _ h
structure Cw where
 nt:Nat
 ic:IC
 rs:List R
def AcQ(F:Cw)(n:Nat)(st:St):Option (V×Aj×Nat):=
 match UG st.env st.σ F.rs with
 | some vs=>some (Lx vs,gcS n [Lx vs] st.σ,st.n)
 | none=>none
def xfn(C:AU)(k:Nat)(F:Cw)(args:List V)(σ:Aj)(n:Nat):Option (V×Aj×Nat):=
 bif Nat.ble args.length F.nt then(match Dx C (Fg C F.nt n k) F.ic ⟨params 0 args,σ,n⟩ with
  | some (.ret,st)=>AcQ F n st
  | some (.normal,st)=>AcQ F n st
  | _=>none) else none
def HF(P:Program)(T:FuncId->Option Cw):Prop:=∀f F,T f=some F->Au P f F.nt F.ic F.rs=true/\F.ic.cl=true
def Lo(T:FuncId->Option Cw)(B:AU)(K:Nat):Nat->AU
 | 0=>λ_ _ _ _=>none
 | k+1=>λf args σ n=>bif Nat.beq f HL then zZ (Lo T B K k) K args σ n else(match T f with
  | some F=>xfn (Lo T B K k) K F args σ n
  | none=>B f args σ n)
theorem Ob{S:Id->Prop}{args:List V}(h:∀a∈args,Bb S a):Bs S (params 0 args):=by
 intro s;rw[HX];simp only[ArM,AzA];cases e:args[s]? with
 | none=>exact .any
 | some v=>exact CA h e
theorem Abu{T:FuncId->Option Cw}{B:AU}{K:Nat}(hT:HF P T)(hB:AX P W0 B)(hP:Gt P):∀k,AX P W0 (Lo T B K k):=by
 intro k
 induction k with
 | zero=>intro f args σ n v σ' n' h;cases h
 | succ k ih=>
  intro f args σ n v σ' n' h L M;have h:(bif Nat.beq f HL then zZ (Lo T B K k) K args σ n else(match T f with
   | some F=>xfn (Lo T B K k) K F args σ n
   | none=>B f args σ n))=some (v,σ',n'):=h
  cases N:Nat.beq f HL with
  | true=>rw[N] at h;have hf:f=HL:=AvP N;subst hf;exact AcZ ih hP h L M
  | false=>
  rw[N] at h;simp only[cond_false] at h;have ac:f≠HL:=by rintro rfl;simp at N
  split at h
  .rename_i F hF;obtain⟨Y,Z⟩:=hT f F hF;unfold xfn at h;cases R:Nat.ble args.length F.nt with
   | false=>rw[R] at h;cases h
   | true=>
   rw[R] at h;simp only[cond_true] at h;have u:args.length<=F.nt:=Ayj R;have key:∀e st,(e=.ret\/e=.normal)->Dx (Lo T B K k) (Fg (Lo T B K k) F.nt n K) F.ic ⟨params 0 args,σ,n⟩=some (e,st)->AcQ F n st=some (v,σ',n')->Fh P W0 f args σ n v σ' n':=by
    intro e st aa p g;unfold AcQ at g;split at g
    .rename_i vs ai;cases g;obtain⟨⟨h1,h2,h3⟩,h4⟩:=Bf (nt:=F.nt) (r:=true) ih (GX ih hP K) Z (.inl rfl) p (Ob L) M;obtain⟨h5,h6⟩:=QM h2 h3 ai;have j:=Jy n [Lx vs] st.σ;obtain⟨fn,c,hf,U,o,af,ah,t⟩:=Hy Y;refine⟨λ_=>t,h1,zE h6,λid e hl=>h3 id e (j _ _ hl),λw μ H vals hp hv=>?_⟩;rw[D8 ac];have y:fn.ntmps=F.nt:=af;have O:=KN (nt:=F.nt) u hp hv;refine DS (nt:=F.nt) (Q:=λJ s=>J=e/\s=st) hf U hp ?_ (λJ s C=>by
      rw[C.1];rcases aa with rfl|rfl
      .exact .inr rfl
      .exact .inl rfl) (λJ G a ak H' C _ hn z w' ag A i=>?_)
     .rw[y];exact Be (h4 c o ⟨μ,H,σ,w,n,none,[]⟩ _ w (λ_=>rfl) ⟨O,Ob L,M,λid ad=>hp.bd id ad⟩) λJ a' w' hh=>by obtain⟨B',p,G,C,q⟩:=hh;exact⟨B',p,G,C,q.1⟩
     .obtain⟨_,rfl⟩:=C;obtain⟨val,E,D⟩:=Fk ag A ah h5;refine⟨val,E,val,ak,H',rfl,D,A.part j,⟨i.mu,i.hp,i.size,i.keep,i.pin,λbk W ho=>i.dom bk W ?_⟩,z⟩;obtain⟨id,e,hl,S⟩:=ho;exact⟨id,e,j _ _ hl,S⟩
    .cases g
   split at h
   .rename_i st p;exact key _ st (.inl rfl) p h
   .rename_i st p;exact key _ st (.inr rfl) p h
   .cases h
  .exact hB f args σ n v σ' n' h L M
theorem S5{T:FuncId->Option Cw}{B:AU}{K k:Nat}(j:HF P T)(hB:AX P W0 B)(i:Gt P){f:FuncId}{args:List V}{v:V}{σ':Aj}{n':Nat}(h:Lo T B K k f args [] 0=some (v,σ',n'))(g:JO 0 args=true)(r:NX 0 v=true)(o:f≠HL:=by decide):Al P W0 f args [] v []:=
 Al.of_at o (Abu j hB i k _ _ _ _ _ _ _ h (DH.2 args g) BV.nil) (DH.2 args g) BV.nil (λid e p=>by cases p) (λid q=>absurd rfl q) (DH.1 v r) BV.nil
end
end
end Go.Ir
end
section
namespace Go.Ir
open Go.RowKit
noncomputable section
variable[F4]
section force
variable{β:Type}
def CF(n:Nat)(k:Nat->β):β:=Nat.rec (motive:=λ_=>β) (k 0) (λm _=>k (Nat.succ m)) n
theorem Cq(n:Nat)(k:Nat->β):CF n k=k n:=by cases n<;>rfl
def S2(n:Int)(k:Int->β):β:=Int.rec (motive:=λ_=>β) (λa=>CF a λa=>k (.ofNat a)) (λa=>CF a λa=>k (.negSucc a)) n
theorem bL(n:Int)(k:Int->β):S2 n k=k n:=by
 cases n with
 | ofNat a=>exact Cq a λa=>k (.ofNat a)
 | negSucc a=>exact Cq a λa=>k (.negSucc a)
def pV(b:Bool)(k:Bool->β):β:=Bool.rec (motive:=λ_=>β) (k false) (k true) b
theorem YF(b:Bool)(k:Bool->β):pV b k=k b:=by cases b<;>rfl
def P8(c:UInt8)(k:UInt8->β):β:=CF c.toNat λn=>k (UInt8.ofNat n)
theorem aP(c:UInt8)(k:UInt8->β):P8 c k=k c:=by unfold P8;rw[Cq,UInt8.ofNat_toNat]
def OQ(l:List UInt8)(k:List UInt8->β):β:=List.rec (motive:=λ_=>(List UInt8->β)->β) (λk=>k []) (λc _ e k=>P8 c λc=>e λl=>k (c::l)) l k
theorem aB(l:List UInt8):∀k:List UInt8->β,OQ l k=k l:=by
 induction l with
 | nil=>intro k;rfl
 | cons c l e=>intro k;rw[show OQ (c::l) k=P8 c λc=>OQ l λl=>k (c::l) from rfl,aP];exact e _
def hB(x:Bool)(k:V->β):β:=k (.b x)
def hI(a:IntKind)(n:Int)(k:V->β):β:=k (.i a n)
def hS(l:List UInt8)(k:V->β):β:=k (.s l)
def Av4(k:V->β):β:=k .nil
def hSl(l:List V)(k:V->β):β:=k (.sl l)
def AvJ(l:List V)(k:V->β):β:=k (.agg l)
def AuW(l:List V)(k:V->β):β:=k (.tup l)
def AtT(id:Id)(o:Nat)(k:V->β):β:=k (.ref id o)
def AuN(id:Id)(k:V->β):β:=k (.arr id)
def Asl(id:Id)(a b c:Nat)(k:V->β):β:=k (.aref id a b c)
def hEp(e:V)(o:Nat)(k:V->β):β:=k (.ep e o)
def hFn(f:FuncId)(a c:List V)(k:V->β):β:=k (.fn f a c)
def hNp(k:V->β):β:=k .np
def hNf(k:V->β):β:=k .nf
def hNi(k:V->β):β:=k .ni
def hNm(k:V->β):β:=k .nm
def hUb(k:V->β):β:=k .ub
def hIv(k:V->β):β:=k .iv
def AuH(k:V->β):β:=k .any
def MI(v:V)(k:V->β):β:=V.casesOn (motive_1:=λ_=>(V->β)->β) v hB hI hS Av4 hSl AvJ AuW AtT AuN Asl hEp hFn hNp hNf hNi hNm hUb hIv AuH k
theorem No(v:V)(k:V->β):MI v k=k v:=by cases v<;>rfl
def Di(l:List V)(k:List V->β):β:=List.rec (motive:=λ_=>(List V->β)->β) (λk=>k []) (λv _ e k=>MI v λv=>e λl=>k (v::l)) l k
theorem DJ(l:List V):∀k:List V->β,Di l k=k l:=by
 induction l with
 | nil=>intro k;rfl
 | cons c l e=>intro k;rw[show Di (c::l) k=MI c λc=>Di l λl=>k (c::l) from rfl,No];exact e _
def FW(id:Id)(k:Id->β):β:=CF id.1 λa=>CF id.2 λb=>k (a,b)
theorem Il(id:Id)(k:Id->β):FW id k=k id:=by unfold FW;rw[Cq,Cq]
def SR(a:IntKind)(k:IntKind->β):β:=
 match a with
 | .i8=>k .i8|.i16=>k .i16|.i32=>k .i32|.i64=>k .i64|.u8=>k .u8|.u16=>k .u16|.u32=>k .u32|.u64=>k .u64
theorem Y8(a:IntKind)(k:IntKind->β):SR a k=k a:=by cases a<;>rfl
def vB(x:Bool)(_:Bool)(k:V->β):β:=pV x λx=>k (.b x)
def vI(a:IntKind)(n:Int)(_:Bool)(k:V->β):β:=SR a λa=>S2 n λn=>k (.i a n)
def ArT(l:List UInt8)(e:Bool)(k:V->β):β:=bif e then OQ l λl=>k (.s l) else k (.s l)
def Aoh(_:Bool)(k:V->β):β:=k .nil
def vSl(es:List V)(_:Bool)(k:V->β):β:=Di es λes=>k (.sl es)
def Asu(es:List V)(_:Bool)(k:V->β):β:=Di es λes=>k (.agg es)
def Aub(es:List V)(_:Bool)(k:V->β):β:=Di es λes=>k (.tup es)
def ApF(id:Id)(o:Nat)(_:Bool)(k:V->β):β:=FW id λid=>CF o λo=>k (.ref id o)
def Arf(id:Id)(_:Bool)(k:V->β):β:=FW id λid=>k (.arr id)
def AfR(id:Id)(a b c:Nat)(_:Bool)(k:V->β):β:=FW id λid=>CF a λa=>CF b λb=>CF c λc=>k (.aref id a b c)
def vEp(e:V)(o:Nat)(_:Bool)(k:V->β):β:=MI e λe=>CF o λo=>k (.ep e o)
def vFn(f:FuncId)(a c:List V)(_:Bool)(k:V->β):β:=Di a λa=>Di c λc=>k (.fn f a c)
def vNp(_:Bool)(k:V->β):β:=k .np
def vNf(_:Bool)(k:V->β):β:=k .nf
def vNi(_:Bool)(k:V->β):β:=k .ni
def vNm(_:Bool)(k:V->β):β:=k .nm
def vUb(_:Bool)(k:V->β):β:=k .ub
def vIv(_:Bool)(k:V->β):β:=k .iv
def As4(_:Bool)(k:V->β):β:=k .any
def Pn(e:Bool)(v:V)(k:V->β):β:=V.casesOn (motive_1:=λ_=>Bool->(V->β)->β) v vB vI ArT Aoh vSl Asu Aub ApF Arf AfR vEp vFn vNp vNf vNi vNm vUb vIv As4 e k
theorem AY(d:Bool)(v:V)(k:V->β):Pn d v k=k v:=by
 cases v with
 | b x=>exact YF x λx=>k (.b x)
 | i a n=>show SR a (λa=>S2 n λn=>k (.i a n))=_;rw[Y8,bL]
 | s l=>cases d
        .rfl
        .exact aB l λl=>k (.s l)
 | sl es=>exact DJ es λes=>k (.sl es)
 | agg es=>exact DJ es λes=>k (.agg es)
 | tup es=>exact DJ es λes=>k (.tup es)
 | ref id o=>show FW id (λid=>CF o λo=>k (.ref id o))=_;rw[Il,Cq]
 | arr id=>exact Il id λid=>k (.arr id)
 | aref id a b c=>show FW id (λid=>CF a λa=>CF b λb=>CF c λc=>k (.aref id a b c))=_;rw[Il,Cq,Cq,Cq]
 | ep e o=>show MI e (λe=>CF o λo=>k (.ep e o))=_;rw[No,Cq]
 | fn f a c=>show Di a (λa=>Di c λc=>k (.fn f a c))=_;rw[DJ,DJ]
 | _=>rfl
def Lc(l:List V)(k:List V->β):β:=List.rec (motive:=λ_=>(List V->β)->β) (λk=>k []) (λv _ e k=>Pn true v λv=>e λl=>k (v::l)) l k
theorem Th(l:List V):∀k:List V->β,Lc l k=k l:=by
 induction l with
 | nil=>intro k;rfl
 | cons c l e=>intro k;rw[show Lc (c::l) k=Pn true c λc=>Lc l λl=>k (c::l) from rfl,AY];exact e _
def AtV(es:List V)(e:Bool)(k:V->β):β:=bif e then Lc es λes=>k (.tup es) else Di es λes=>k (.tup es)
def Us(e:Bool)(v:V)(k:V->β):β:=V.casesOn (motive_1:=λ_=>Bool->(V->β)->β) v vB vI ArT Aoh vSl Asu AtV ApF Arf AfR vEp vFn vNp vNf vNi vNm vUb vIv As4 e k
theorem NT(d:Bool)(v:V)(k:V->β):Us d v k=k v:=by
 cases v with
 | tup es=>cases d
           .exact DJ es λes=>k (.tup es)
           .exact Th es λes=>k (.tup es)
 | b x=>exact AY d (.b x) k
 | i a n=>exact AY d (.i a n) k
 | s l=>exact AY d (.s l) k
 | nil=>exact AY d (.nil ) k
 | sl es=>exact AY d (.sl es) k
 | agg es=>exact AY d (.agg es) k
 | ref id o=>exact AY d (.ref id o) k
 | arr id=>exact AY d (.arr id) k
 | aref id a b c=>exact AY d (.aref id a b c) k
 | ep e o=>exact AY d (.ep e o) k
 | fn f a c=>exact AY d (.fn f a c) k
 | np=>exact AY d (.np ) k
 | nf=>exact AY d (.nf ) k
 | ni=>exact AY d (.ni ) k
 | nm=>exact AY d (.nm ) k
 | ub=>exact AY d (.ub ) k
 | iv=>exact AY d (.iv ) k
 | any=>exact AY d (.any ) k
end force
end
end Go.Ir
end
section
namespace Go.Ir
open Go.RowKit
variable[F4]
section
variable{P:Program}{W0:World}{f:FuncId}{args:List V}{σ:Aj}{n:Nat}{v:V}
theorem Fh.of_ret(L:f≠HL)(h:Al P W0 f args [] v [])(z:NN v=true)(y:BV (Lt n) σ):Fh P W0 f args σ n v σ n where
 callable _:=h.callable
 le:=A0d _
 vin:=Pz.1 v z
 sin:=y
 run:=by
  intro w μ H vals hp o;have i:∀id e,lk ([]:Aj) id=some e->lk σ id=some e:=λid e F=>by cases F
  rw[D8 L];refine Ax5 (h.run n w μ H vals (hp.part i) o) ?_;rintro e w' ⟨val,t,A,n',rfl,r,q,G,E,g⟩;obtain⟨u,j⟩:=hp.back i q E;rw[Hf] at u j;refine⟨val,cut n t,A,rfl,r.cut (Pz.1 v z),u.cut y,⟨λid x s=>?_,j.hp,j.size,j.keep,j.pin,λB D J=>j.dom B D (Gd J)⟩,λid p C=>?_⟩
  .rcases Axd id.1 n with h|h
   .rw[Fq (m:=n) h];exact j.mu id x s
   .rw[hp.bd id h] at s;cases s
  .rw[Fq (m:=n) p];exact g id p C
theorem Hp.lose{w w':World}{σ1:Aj}{μ:Id->Option Value}{H:Addr->Option Value}(hp:Hp W0 σ n μ H w){R:Nat->Prop}(r:AR R w w')(s:∀k,R k->E9 μ σ k)
  (j:∀id e,lk σ1 id=some e->lk σ id=some e/\∀g,BC (μ id)=some g->¬R g):Hp W0 σ1 n μ H w'/\Fr μ H σ w μ H σ1 w':=by
 have i:∀g,E9 μ σ1 g->E9 μ σ g:=by rintro g ⟨id,e,p,o⟩;exact⟨id,e,(j _ _ p).1,o⟩
 refine⟨⟨hp.base_turned r s,hp.pins_turned r s,?_,λg q=>hp.unp g (i g q),λz u i2 y g l1 l2=>hp.sep _ _ _ _ g (j _ _ l1).1 (j _ _ l2).1,hp.bd⟩,
  ⟨λ_ _ h=>h,λ_ _ h=>h,r.size,λg o q=>r.block g o (λt=>q (s g t)),λ_ _ _=>rfl,λg _ q=>i g q⟩⟩
 intro id e p;refine(hp.ents _ _ (j _ _ p).1).keep (λ_ _ h=>h) (λ_ _ h=>h) (λg o=>?_);exact r.block g ((hp.ents _ _ (j _ _ p).1).block o).2 ((j _ _ p).2 g o)
end
theorem VRels.one_{μ:Id->Option Value}{H:Addr->Option Value}{v:V}{vals:List Value}(h:VRels μ H [v] vals):∃x,vals=[x]/\Ao μ H v x:=by
 have e:=h.len
 match vals,e with
 | [x],_=>exact⟨x,rfl,h.at_ 0 v x rfl rfl⟩
 | [],e=>simp at e
 | _::_::_,e=>simp at e
theorem Ao.np_inv'{μ:Id->Option Value}{H:Addr->Option Value}{val:Value}(h:Ao μ H .np val):val=.pointer none:=by cases h;rfl
section
variable{P:Program}{W0:World}
def orC(a b:AU):AU:=λf args σ n=>match a f args σ n with
 | some r=>some r
 | none=>b f args σ n
theorem JR{a b:AU}(e:AX P W0 a)(g:AX P W0 b):AX P W0 (orC a b):=by
 intro f args σ n v σ' n' h;unfold orC at h;split at h
 .rename_i r i;cases h;exact e _ _ _ _ _ _ _ i
 .exact g _ _ _ _ _ _ _ h
noncomputable def bQ(e:FuncId)(g:List V->Option V):AU:=λf args σ n=>bif Nat.beq f e then(match g args with
 | some v=>Us true v λv=>some (v,σ,n)
 | none=>none) else none
theorem Lq{i:FuncId}{g:List V->Option V}(h:∀args v,g args=some v->Al P W0 i args [] v []/\NN v=true)(s:i≠HL:=by decide):AX P W0 (bQ i g):=by
 intro f args σ n v σ' n' e t q;unfold bQ at e;cases j:Nat.beq f i with
 | false=>rw[j] at e;cases e
 | true=>
  rw[j] at e;obtain rfl:=AvP j;simp only[cond_true] at e;split at e
  .rename_i v1 r;rw[NT] at e;cases e;obtain⟨o,p⟩:=h _ _ r;exact Fh.of_ret s o p q
  .cases e
theorem L7{μ:Id->Option Value}{H:Addr->Option Value}:∀{l:List UInt8} {vals:List Value},AK μ H (AC (Az l)) vals->vals=Lib.byteCells l
 | [],vals,g=>by have:=g.len;simp only[Az,Art,AC,List.flatMap_nil,An0] at this;exact AtU this.symm
 | c::l,vals,g=>by
  have e:=g.len;have p:AC (Az (c::l))=V.i .u8 c.toNat::AC (Az l):=rfl;rw[p] at g e;cases vals with
  | nil=>simp at e
  | cons x xs=>
   have j:=g.at_ 0 _ x rfl rfl;have o:AK μ H (AC (Az l)) xs:=⟨⟨by simpa using e,λk c v q h=>g.at_ (k+1) c v (by simpa using q) (by simpa using h)⟩,λv h=>g.one v (by simp[h])⟩
   rw[L7 o,j.i_inv];rfl
end
section
variable{P:Program}{W0:World}{f:FuncId}{args args':List V}{σ:Aj}{n:Nat}{v:V}
def ON:V->Bool
 | .b _|.i _ _|.s _|.ni|.np|.nf|.nm=>true
 | _=>false
def P9:V->Bool
 | .tup vs=>vs.all ON
 | v=>ON v
theorem MN{μ e:Id->Option Value}{H g:Addr->Option Value}{v:V}{val:Value}(h:ON v=true)(i:Ao μ H v val):Ao e g v val:=by
 cases i<;>first|(cases h;done)|constructor
 assumption
theorem Tk{μ g:Id->Option Value}{H o:Addr->Option Value}{v:V}{val:Value}(h:P9 v=true)(j:Ao μ H v val):Ao g o v val:=by
 cases v with
 | tup vs=>obtain⟨vals,rfl,e⟩:=j.tup_inv;exact .tup vs vals e.len λk c x i p=>MN (AmF.1 h c (AgY i)) (e.at_ k c x i p)
 | _=>exact MN h j
theorem ND{S:Id->Prop}{v:V}(h:ON v=true):Bb S v:=by cases v<;>first|(cases h;done)|constructor
theorem YG{S:Id->Prop}{v:V}(h:P9 v=true):Bb S v:=by
 cases v with
 | tup vs=>exact .tup _ λc e=>ND (AmF.1 h c e)
 | _=>exact ND h
theorem SL{w:World}{μ:Id->Option Value}{H:Addr->Option Value}(hp:Hp W0 σ n μ H w){φ:Id->Option (List V)}(C:∀id es,φ id=some es->∃e sz,lk σ id=some (.arr e sz es)) :
  ∀id es,φ id=some es->∀val,μ id=some val->(∃A h,val=.slice A es.length h/\es.length<=h/\es.length<=AG/\
   (es=[]\/∃(D:Addr) (sz:Nat) (vals:List Value),A=some D/\(∀e∈es,(cells e).length=sz)/\AK μ H (AC es) vals/\∀(k:Nat) (v:Value),vals[k]?=some v->Bk φ μ H w (D.add k)=some v)):=by
 intro id es p val y;obtain⟨e,sz,E⟩:=C id es p;obtain⟨vals,_,i,q,z,r⟩:=Do hp E y;rcases AyN es.length with t|t
 .have:es=[]:=AtU t;subst this;rcases i.2 with⟨rfl,_⟩|⟨g,h,s,rfl,_⟩
  .grind
  grind
 .obtain⟨g,h,s,rfl,hB,M,G,o,F,B⟩:=F7 i t;refine⟨_,h,rfl,o,q,.inr ⟨⟨g,0,none⟩,sz,vals,rfl,z,r,λk v L=>?_⟩⟩;have u:=i.cells (g:=g) rfl k v L;have j:H ((⟨g,0,none⟩:Addr).add k)=none:=hp.unp g ⟨id,_,E,by simp[y,BC]⟩ _ (by rw[Ca]);have J:∃id es,φ id=some es/\BC (μ id)=some ((⟨g,0,none⟩:Addr).add k).block:=⟨id,es,p,by rw[Ca,y];rfl⟩;simp only[Bk,j];simp_all
theorem Fh.of_plain{φ:Id->Option (List V)}(F:f≠HL)(h:Al P W0 f args' [] v [])(M:P9 v=true)(R:BV (Lt n) σ)(G:∀id es,φ id=some es->∃e sz,lk σ id=some (.arr e sz es))(A:args.length=args'.length)
  (C:∀(k:Nat) (c u:V),args[k]?=some c->args'[k]?=some u->J4 φ c u):Fh P W0 f args σ n v σ n where
 callable _:=h.callable
 le:=A0d _
 vin:=YG M
 sin:=R
 run:=by
  intro w μ H vals hp g;have j:∀p x,H p=some x->Bk φ μ H w p=some x:=by intro p x r;simp only[Bk,r]
  have D:Hp W0 [] n μ (Bk φ μ H w) w:=
   {base:=hp.base
    pins:=by
     intro p x r;simp only[Bk] at r;split at r
     .rename_i y F;rw[<-r];exact hp.pins p y F
     simp_all
    ents:=λ_ _ h=>by cases h
    unp:=λ_ ⟨_,_,h,_⟩=>by cases h
    sep:=λ_ _ _ _ _ h=>by cases h
    bd:=hp.bd }
  have q:VRels μ (Bk φ μ H w) args' vals:=by
   refine⟨by rw[<-A];exact g.len,λk u x N r=>?_⟩;have J:k<args.length:=by grind
   exact Ao.le j (SL hp G) (C k _ u (AeP J) N) (g.at_ k _ x (AeP J) r)
  rw[D8 F];refine Ax5 (h.run n w μ _ vals D q) ?_;rintro e w' ⟨val,S,T,n',rfl,E,t,L,B,z⟩;have i:∀o,o<w.heap.size->w'.heap[o]?=w.heap[o]?:=λo s=>B.keep o s (λ⟨_,_,h,_⟩=>by cases h);exact⟨val,μ,H,rfl,Tk M E,⟨t.base,λp x r=>t.pins p x (B.hp p x (j p x r)),λid e A=>(hp.ents id e A).keep (λ_ _ h=>h) (λ_ _ h=>h) (λo s=>i o ((hp.ents id e A).block s).2),hp.unp,hp.sep,hp.bd⟩,
   ⟨λ_ _ h=>h,λ_ _ h=>h,B.size,λo s _=>i o s,λ_ _ _=>rfl,λo _ O=>O⟩,λ_ _ h=>h⟩
noncomputable def onP(e:FuncId)(g:List V->Option V):AU:=λf args σ n=>bif Nat.beq f e then(match MP (frz σ (λ_=>true) 60) args with
 | some args'=>(match g args' with
  | some v=>Us true v λv=>some (v,σ,n)
  | none=>none)
 | none=>none) else none
theorem rP{i:FuncId}{g:List V->Option V}(h:∀args v,g args=some v->Al P W0 i args [] v []/\P9 v=true)(B:i≠HL:=by decide):AX P W0 (onP i g):=by
 intro f args σ n v σ' n' e C A;unfold onP at e;cases j:Nat.beq f i with
 | false=>rw[j] at e;cases e
 | true=>
  rw[j] at e;obtain rfl:=AvP j;simp only[cond_true] at e;split at e
  .rename_i args' z;split at e
   .rename_i v1 y;rw[NT] at e;cases e;obtain⟨r,s⟩:=h _ _ y;obtain⟨t,u⟩:=DK z;refine Fh.of_plain B (φ:=Nf σ λ_=>true) r s A (λid es p=>?_) t λk c q w o=>Gr (u k c q w o);unfold Nf at p;grind
   .cases e
  .cases e
end
end Go.Ir
end
namespace Go.Ir
open Go.Proofs Go.RowKit
theorem VG:∃j,π.info? 98=some j/\j.size=2:=AeC.1 (show(π.info? 98).map (·.size)=some 2 by kernel_rfl)
set_option maxHeartbeats 1000000 in
set_option maxRecDepth 100000 in
theorem N3(b off:Nat)(w:World)(h:w.cell? ⟨b,off,none⟩=some (.pointer (some ⟨b,off,none⟩))) :
  Calls Tryz.prog 180 #[.pointer (some ⟨b,off,none⟩)] w λe w'=>e=.returned (.tuple #[])/\w'=w:=by
 obtain⟨j,g,_⟩:=VG
 go_enter Tryz.func180,Tryz.ntmps180
 go_wp2
 rw[Lib.run_neq_ptr_same w _ Tryz.underlying95 g]
 go_wp2
 go_end0
 exact⟨rfl,rfl⟩
set_option maxHeartbeats 1000000 in
set_option maxRecDepth 100000 in
theorem Mh(T k off:Nat)(g:liesAt Tryz.prog Tryz.prog.depth T (k / Tryz.prog.cellsOf T) off 98 1=true)(b:Nat)(w:World)(r:w.cell? ⟨b,off,none⟩=some (.pointer none))(i:w.shape? b=some (T,k))(q:w.frozen? ⟨b,off,none⟩=false)(h:off<k) :
  Calls Tryz.prog 180 #[.pointer (some ⟨b,off,none⟩)] w λe w'=>e=.returned (.tuple #[])/\w'=w.setCell ⟨b,off,none⟩ (.pointer (some ⟨b,off,none⟩)):=by
 obtain⟨j,p,o⟩:=VG
 go_enter Tryz.func180,Tryz.ntmps180
 go_wp2
 rw[Lib.run_to_unsafe w ⟨b,off,none⟩ Tryz.underlying95 Tryz.underlying315 p (by rw[o];decide) i h];simp only[Result.andThen];rw[Azs]
 go_wp2
 rw[run_callFunc_extern Tryz.func236 (by kernel_rfl) (by kernel_rfl) (by kernel_rfl) (e:=Extern.AbiNoEscape.same) (by kernel_rfl),Lib.run_noEscape];simp only[Result.andThen];rw[Azs]
 go_wp2
 rw[Lib.run_from_unsafe w ⟨b,off,none⟩ Tryz.underlying315 Tryz.underlying95 p i g];simp only[Result.andThen];rw[Azs]
 go_wp2
 go_end0
 exact⟨rfl,rfl⟩
theorem Gq(w:World)(e:Option Nat):w.grownBy w.drew e:=⟨rfl,rfl,rfl,A0d _,λ_ _ _=>rfl⟩
theorem PK(w:World)(g n:Nat):w.grownBy (w.freeze ⟨g,0,none⟩ n) (some g):=by
 unfold World.freeze;split
 .exact⟨rfl,rfl,rfl,A0d _,λ_ _ _=>rfl⟩
 .exact⟨rfl,rfl,rfl,by simp,λk h e=>by grind
⟩
theorem KD{a b c:World}{e:Option Nat}(h:a.grownBy b e)(k:b.grownBy c e):a.grownBy c e:=
 ⟨k.os.trans h.os,k.tape.trans h.tape,k.output.trans h.output,AmH h.size k.size,λi g j=>(k.block i (ApN g h.size) j).trans (h.block i g j)⟩
theorem QK(w:World)(o:Obj)(e:Option Nat):w.grownBy (w.alloc o) e:=⟨rfl,rfl,rfl,by simp,λk g _=>heap_alloc_old w o g⟩
set_option maxHeartbeats 2000000 in
set_option maxRecDepth 100000 in
theorem oC(b off g h:Nat)(l:List UInt8)(i:Array Value)(w:World)(r:l≠[])(t:w.cell? ⟨b,off+1,none⟩=some (.slice (some ⟨g,0,none⟩) l.length h))(A:w.heap[g]?=some (.cells i 5 (0,0)))(s:l.length<=h)(p:h<=maxLen)(z:i.size=h)
  (o:∀j x,l[j]?=some x->w.cell? ((⟨g,0,none⟩:Addr).add j)=some (.int .u8 x.toNat)) :
  Calls Tryz.prog 45 #[.pointer (some ⟨b,off,none⟩)] w λe w'=>e=.returned (.string ⟨l.toArray⟩)/\w.grownBy w' (some g):=by
 have B:l.length≠0:=by simpa using r
 have C:w.drew.cell? ⟨b,off+1,none⟩=some (.slice (some ⟨g,0,none⟩) l.length h):=t;have u:(Builtin.unsafeSliceData_ #[96] 158 #[.slice (some ⟨g,0,none⟩) l.length h]).run Tryz.prog w.drew=.ok (.pointer (some ⟨g,0,none⟩)) w.drew:=
  Lib.run_unsafeSliceData_row _ _ _ _ _ _ (by omega)
 have y:(Builtin.unsafeString_ #[158,3] 9 #[.pointer (some ⟨g,0,none⟩),.int .i64 l.length]).run Tryz.prog w.drew=.ok (.string ⟨l.toArray⟩) (w.drew.freeze ⟨g,0,none⟩ l.length):=by refine Lib.run_unsafeString_row w.drew 158 3 9 5 Tryz.underlying158 (by kernel_rfl) g i.size (by have q:w.drew.heap[g]?=some (.cells i 5 (0,0)):=A;simp[World.shape?,q]) l r (by omega) (by unfold maxLen at p;omega) ?_;simp_all
 go_enter Tryz.func45,Tryz.ntmps45
 go_wp2
 go_region
 all_goals (go_wp2;go_ret;exact⟨rfl,KD (Gq w _) (PK _ _ _)⟩)
set_option maxHeartbeats 2000000 in
set_option maxRecDepth 100000 in
theorem eD(b off:Nat)(w:World)(g:w.cell? ⟨b,off+1,none⟩=some (.slice none 0 0)) :
  Calls Tryz.prog 45 #[.pointer (some ⟨b,off,none⟩)] w λe w'=>e=.returned (.string ⟨#[]⟩)/\w.grownBy w' none:=by
 have i:∀(W:World) (q:Option Addr),(Builtin.unsafeString_ #[158,3] 9 #[.pointer q,.int .i64 0]).run Tryz.prog W=.ok (.string .empty) W:=λW q=>Lib.run_unsafeString_none W _ _ _ q;have j:w.drew.cell? ⟨b,off+1,none⟩=some (.slice none 0 0):=g;have h:(Builtin.unsafeSliceData_ #[96] 158 #[.slice none 0 0]).run Tryz.prog w.drew=.ok (.pointer none) w.drew:=rfl
 go_enter Tryz.func45,Tryz.ntmps45
 go_wp2
 go_region
 all_goals (go_wp2;go_ret;exact⟨rfl,Gq w _⟩)
set_option maxHeartbeats 2000000 in
set_option maxRecDepth 100000 in
theorem QC(b off g:Nat)(h:Array Value)(w:World)(o:w.cell? ⟨b,off+1,none⟩=some (.slice (some ⟨g,0,none⟩) 0 0))(t:w.heap[g]?=some (.cells h 5 (0,0))) :
  Calls Tryz.prog 45 #[.pointer (some ⟨b,off,none⟩)] w λe w'=>e=.returned (.string ⟨#[]⟩)/\w.grownBy w' (some g):=by
 have s:∀(W:World) (q:Option Addr),(Builtin.unsafeString_ #[158,3] 9 #[.pointer q,.int .i64 0]).run Tryz.prog W=.ok (.string .empty) W:=λW q=>Lib.run_unsafeString_none W _ _ _ q;have p:w.drew.cell? ⟨b,off+1,none⟩=some (.slice (some ⟨g,0,none⟩) 0 0):=o;have r:(Builtin.unsafeSliceData_ #[96] 158 #[.slice (some ⟨g,0,none⟩) 0 0]).run Tryz.prog w.drew=.ok (.pointer (some ⟨w.drew.heap.size,0,none⟩)) (w.drew.alloc (.view ⟨g,0,none⟩ 5)):=
  Lib.run_unsafeSliceData_zero w.drew _ _ 5 Tryz.underlying158 ⟨g,0,none⟩ 0 (5,h.size) (by have i:w.drew.heap[g]?=some (.cells h 5 (0,0)):=t;simp[World.shape?,i])
 have j:b<w.heap.size:=AzE w _ o;have c3:(w.drew.alloc (.view ⟨g,0,none⟩ 5)).cell? ⟨b,off+1,none⟩=some (.slice (some ⟨g,0,none⟩) 0 0):=by rw[AzI (w:=w.drew) (heap_alloc_old w.drew _ j)];exact p
 have u:(w.alloc (.view ⟨g,0,none⟩ 5)).drew.cell? ⟨b,off+1,none⟩=some (.slice (some ⟨g,0,none⟩) 0 0):=c3
 go_enter Tryz.func45,Tryz.ntmps45
 go_wp2
 go_region
 all_goals (go_wp2;go_ret;exact⟨rfl,KD (Gq w _) (QK _ _ _)⟩)
set_option maxHeartbeats 2000000 in
set_option maxRecDepth 100000 in
theorem YH(b off g h:Nat)(w:World)(i:h≠0)(j:w.cell? ⟨b,off+1,none⟩=some (.slice (some ⟨g,0,none⟩) 0 h)) :
  Calls Tryz.prog 45 #[.pointer (some ⟨b,off,none⟩)] w λe w'=>e=.returned (.string ⟨#[]⟩)/\w.grownBy w' (some g):=by
 have p:∀(W:World) (q:Option Addr),(Builtin.unsafeString_ #[158,3] 9 #[.pointer q,.int .i64 0]).run Tryz.prog W=.ok (.string .empty) W:=λW q=>Lib.run_unsafeString_none W _ _ _ q;have r:w.drew.cell? ⟨b,off+1,none⟩=some (.slice (some ⟨g,0,none⟩) 0 h):=j;have o:(Builtin.unsafeSliceData_ #[96] 158 #[.slice (some ⟨g,0,none⟩) 0 h]).run Tryz.prog w.drew=.ok (.pointer (some ⟨g,0,none⟩)) w.drew:=
  Lib.run_unsafeSliceData_row _ _ _ _ _ _ i
 clear i
 go_enter Tryz.func45,Tryz.ntmps45
 go_wp2
 go_region
 all_goals (go_wp2;go_ret;exact⟨rfl,Gq w _⟩)
theorem Ks(b off:Nat)(l:List UInt8)(v:Value)(B:Nat)(w:World)(o:w.cell? ⟨b,Nat.succ off,none⟩=some v)(h:w.ownsRow B 5 1 v l.length (Lib.byteCells l)) :
  Calls Tryz.prog 45 #[.pointer (some ⟨b,off,none⟩)] w λe w'=>e=.returned (.string ⟨l.toArray⟩)/\w.grownBy w' v.ownBlock:=by
 have q:=h;rcases h.2 with⟨rfl,p⟩|⟨g,cap,cur,rfl,hbg,hg,hnc,hcm,hcs,htake⟩
 .have:l=[]:=AtU p;subst this;exact eD b off w o
 .by_cases p:l=[]
  .subst p;by_cases i:cap=0
   .subst i;exact QC b off g cur w o hg
   .exact YH b off g cap w i o
  .refine oC b off g cap l cur w p o hg hnc hcm (by simpa using hcs) λj x r=>?_;exact h.cells (g:=g) rfl j (.int .u8 x.toNat) (by simp[Lib.byteCells,r])
end Go.Ir

namespace Go.Ir
variable[F4]
def Bz(P:Program)(f:FuncId)(F:Cw):Bool:=Au P f F.nt F.ic F.rs&&F.ic.cl
def AP(m:Nat)(a b:FuncId->Option Cw):FuncId->Option Cw:=λf=>bif Nat.blt f m then a f else b f
def AN(d:FuncId)(F:Cw):FuncId->Option Cw:=λf=>bif Nat.beq f d then some F else none
theorem HF.node{P:Program}{m:Nat}{a b:FuncId->Option Cw}(g:HF P a)(i:HF P b):HF P (AP m a b):=by
 intro f F h;unfold AP at h;cases e:Nat.blt f m with
 | true=>rw[e] at h;exact g f F h
 | false=>rw[e] at h;exact i f F h
theorem HF.leaf{P:Program}{d:FuncId}{F:Cw}(g:Bz P d F=true):HF P (AN d F):=by
 intro f G h;unfold AN at h;cases e:Nat.beq f d with
 | true=>rw[e] at h;cases h;obtain rfl:=AvP e;unfold Bz at g;simpa using g
 | false=>rw[e] at h;cases h
def Ast(o:Option (V×Aj×Nat)):Option V:=match o with
 | some r=>some r.1
 | none=>none
theorem Qx{P:Program}{W0:World}{T:FuncId->Option Cw}{B:AU}{K k:Nat}(i:HF P T)(hB:AX P W0 B)(g:Gt P){f:FuncId}{args:List V}{v:V}(h:Ast (Lo T B K k f args [] 0)=some v)(j:JO 0 args=true)(p:NX 0 v=true)(o:f≠HL:=by decide):Al P W0 f args [] v []:=by
 cases e:Lo T B K k f args [] 0 with
 | none=>rw[e] at h;cases h
 | some r=>rw[e] at h;cases h;obtain⟨v,σ,n⟩:=r;exact S5 i hB g e j p o
def nO:IC:=.opxe [] ⟨none,.mv (.t 0),none,[]⟩ [] []
end Go.Ir
section
namespace Go.Ir
open Go.RowKit
variable[F4]
def jX(op:BinOp)(b:Int):Prop:=
 match op with
 | .add|.sub|.mul|.eql|.neq|.lss|.leq|.gtr|.geq=>True
 | .quo|.rem=>b≠0
 | _=>False
def wQ(op:BinOp)(k:IntKind)(a b:Int):V:=
 match op with
 | .add=>.i k (k.wrap (a+b))
 | .sub=>.i k (k.wrap (a-b))
 | .mul=>.i k (k.wrap (a*b))
 | .quo=>.i k (k.wrap (a.tdiv b))
 | .rem=>.i k (a.tmod b)
 | .eql=>.b (a==b)
 | .neq=>.b (a !=b)
 | .lss=>.b (decide (a<b))
 | .leq=>.b (decide (a<=b))
 | .gtr=>.b (decide (a>b))
 | .geq=>.b (decide (a>=b))
 | _=>.any
def lW(op:BinOp)(a b:List UInt8):Prop:=
 match op with
 | .add=>a.length+b.length<=AJ
 | .eql|.neq|.lss|.leq|.gtr|.geq=>True
 | _=>False
def tW(op:BinOp)(a b:List UInt8):V:=
 match op with
 | .add=>.s (a++b)
 | .eql=>.b (a==b)
 | .neq=>.b (!(a==b))
 | .lss=>.b (Op.bytesLess a b)
 | .leq=>.b (Op.bytesLess a b||a==b)
 | .gtr=>.b (!(Op.bytesLess a b||a==b))
 | .geq=>.b (!Op.bytesLess a b)
 | _=>.any
def Ng(op:BinOp):V->V->Prop
 | .i k _,.i k' b=>k=k'/\jX op b
 | .s a,.s b=>lW op a b
 | _,_=>False
def Rt(op:BinOp):V->V->V
 | .i k a,.i _ b=>wQ op k a b
 | .s a,.s b=>tW op a b
 | _,_=>.any
theorem dP{op:BinOp}{k:IntKind}{a b:Int}{v:V}:Sg op k a b v↔jX op b/\v=wQ op k a b:=by cases op<;>simp[Sg,jX,wQ]
theorem r7{op:BinOp}{a b:List UInt8}{v:V}:Sd op a b v↔lW op a b/\v=tW op a b:=by cases op<;>simp[Sd,lW,tW]
theorem u0{op:BinOp}{x y v:V}:P2 op x y v↔Ng op x y/\v=Rt op x y:=by
 unfold P2;split
 .simp only[Ng,Rt,dP,and_assoc]
 .simp only[Ng,Rt,r7]
 .rename_i e g;have:¬Ng op x y:=by unfold Ng;grind
  simp[this]
def Su:V->Prop|.b _=>True|_=>False
def MQ:V->Bool|.b t=>t|_=>false
theorem W8{v:V}{Q:Bool->Prop}:(∃t,v=.b t/\Q t)↔Su v/\Q (MQ v):=by cases v<;>simp[Su,MQ]
def TW:V->Prop|.i _ _=>True|_=>False
def LM:V->Int|.i _ n=>n|_=>0
def kiI:V->IntKind|.i k _=>k|_=>.i64
def isS:V->Prop|.s _=>True|_=>False
def toS:V->List UInt8|.s l=>l|_=>[]
def Uw:V->Prop|.ref _ _|.aref _ _ _ _|.ep _ _=>True|_=>False
def Ib:V->Nat->V
 | .ref id o,n=>.ref id (o+n)
 | .aref id g sz o,n=>.aref id g sz (o+n)
 | .ep e o,n=>.ep e (o+n)
 | v,_=>v
def Em(σ:Aj)(sz:Nat):V->V->Option V
 | .sl es,.i _ n=>if 0<=n then(es[n.toNat]?).bind λg=>if(cells g).length=sz then some (.ep g 0) else none else none
 | .arr id,.i _ n=>if 0<=n then(match lk σ id with|some (.arr _ e es)=>if e=sz/\n.toNat<es.length then some (.aref id n.toNat sz 0) else none|_=>none) else none
 | _,_=>none
def FP(σ:Aj)(n:Nat)(e:Bool):V->Option V
 | .ref id off=>match lk σ id with|some (.box u)=>sub u off n e|some (.tbox _ u)=>sub u off n e|_=>none
 | .aref id i sz off=>match lk σ id with|some (.arr _ g es)=>if g=sz then(es[i]?).bind λh=>sub h off n e else none|_=>none
 | .ep u off=>sub u off n e
 | _=>none
def Ej(σ:Aj)(n:Nat)(x:V):V->Option Aj
 | .ref id off=>match lk σ id with|some (.box u)=>(Db u off n x).map λi=>upd σ id (.box i)|some (.tbox t u)=>(Db u off n x).map λi=>upd σ id (.tbox t i)|_=>none
 | .aref id j sz off=>match lk σ id with|some (.arr e h es)=>if h=sz then(es[j]?).bind λo=>(Db o off n x).map λg=>upd σ id (.arr e sz (es.set j g)) else none|_=>none
 | _=>none
def Pb:V->V->Option V
 | .s l,.i _ n=>if 0<=n then(l[n.toNat]?).map λc=>.i .u8 c.toNat else none
 | _,_=>none
section
variable{P:Program}{W0:World}{ep:Nat}{l:List I}{env:A9}{σ:Aj}{K:A9→Aj→Prop}
theorem Cj{d:Option Nat}{op:AE}:Av P W0 ep (⟨d,op,none,[]⟩::l) env σ K↔∃v σ',E P W0 ep d op (get env) σ v σ'/\Av P W0 ep l (put env d v) σ' K:=by simp[Av,Cl,EA,Za,JE]
theorem AtY{d:Option Nat}{op:AE}{x:X}{ap:List X}(o:op.cl=false):Av P W0 ep (⟨d,op,none,x::ap⟩::l) env σ K↔Za ⟨d,op,none,x::ap⟩ (get env)/\Av P W0 ep (⟨d,op,none,[]⟩::l) env σ K:=by
 simp only[Av,Cl,EA];constructor
 .rintro⟨v,σ',⟨e,g,_⟩,i⟩;exact⟨g,v,σ',⟨e,λx j=>(by cases j),λ_ x j=>(by cases j)⟩,i⟩
 .rintro⟨g,v,σ',⟨e,_⟩,i⟩;exact⟨v,σ',⟨e,g,λh=>by rw[o] at h;cases h⟩,i⟩
def HY(e:Bool)(v:V)(x y:Prop):Prop:=
 match v with
 | .b t=>(t=e->x)/\(t≠e->y)
 | .tup []=>y
 | _=>False
theorem H4{d:Option Nat}{op:AE}{C:Prop}{val:V}{τ:Aj}(h:∀v σ',E P W0 ep d op (get env) σ v σ'↔C/\v=val/\σ'=τ) :
  Av P W0 ep (⟨d,op,none,[]⟩::l) env σ K↔C/\Av P W0 ep l (put env d val) τ K:=by
 rw[Cj];grind
theorem Kt{d:Option Nat}{op:AE}{C:Prop}{o:Option V}(h:∀v σ',E P W0 ep d op (get env) σ v σ'↔C/\o=some v/\σ'=σ) :
  Av P W0 ep (⟨d,op,none,[]⟩::l) env σ K↔C/\o.isSome=true/\Av P W0 ep l (put env d (o.getD .any)) σ K:=by
 rw[Cj];constructor
 .grind
 .rintro⟨i,e,g⟩;cases o with
  | none=>cases e
  | some v=>grind
variable{d:Nat}
theorem AuS{x:X}:Av P W0 ep (⟨some d,.mv x,none,[]⟩::l) env σ K↔Av P W0 ep l ((d,ev (get env) x)::env) σ K:=
 (H4 (C:=True) (val:=ev (get env) x) (τ:=σ) λv σ'=>by simp[E]).trans (by simp[put])
theorem Aiv{c a b:X}:Av P W0 ep (⟨some d,.pick c a b,none,[]⟩::l) env σ K↔Su (ev (get env) c)/\Av P W0 ep l ((d,bif MQ (ev (get env) c) then ev (get env) a else ev (get env) b)::env) σ K:=
 H4 λv σ'=>by simp only[E];exact W8
theorem AqT{op:BinOp}{x y:X}:Av P W0 ep (⟨some d,.bin op x y,none,[]⟩::l) env σ K↔Ng op (ev (get env) x) (ev (get env) y)/\Av P W0 ep l ((d,Rt op (ev (get env) x) (ev (get env) y))::env) σ K:=
 H4 λv σ'=>by simp only[E,u0,and_assoc]
theorem ApS{e:Bool}{x y:X}:Av P W0 ep (⟨some d,.eqb e x y,none,[]⟩::l) env σ K↔(Su (ev (get env) x)/\Su (ev (get env) y))/\Av P W0 ep l ((d,.b (if e then !(MQ (ev (get env) x)==MQ (ev (get env) y)) else MQ (ev (get env) x)==MQ (ev (get env) y)))::env) σ K:=
 H4 λv σ'=>by simp only[E];cases ev (get env) x<;>cases ev (get env) y<;>simp[Su,MQ]
theorem AsN{x:X}:Av P W0 ep (⟨some d,.not x,none,[]⟩::l) env σ K↔Su (ev (get env) x)/\Av P W0 ep l ((d,.b (!(MQ (ev (get env) x))))::env) σ K:=
 H4 λv σ'=>by simp only[E];exact W8
theorem Asy{k:IntKind}{x:X}:Av P W0 ep (⟨some d,.cvi k x,none,[]⟩::l) env σ K↔TW (ev (get env) x)/\Av P W0 ep l ((d,.i k (k.wrap (LM (ev (get env) x))))::env) σ K:=
 H4 λv σ'=>by
  simp only[E];cases ev (get env) x<;>(try (simp[TW,LM];done))
  rename_i k' n;simp only[TW,LM,true_and];grind
theorem AaB{x:X}{off:Nat}:Av P W0 ep (⟨some d,.faddr x off,none,[]⟩::l) env σ K↔Uw (ev (get env) x)/\Av P W0 ep l ((d,Ib (ev (get env) x) off)::env) σ K:=
 H4 λv σ'=>by simp only[E];cases ev (get env) x<;>simp[Uw,Ib]
theorem AaF{x i:X}{e sz:Nat}:Av P W0 ep (⟨some d,.iaddr x i e sz,none,[]⟩::l) env σ K↔True/\(Em σ sz (ev (get env) x) (ev (get env) i)).isSome=true/\Av P W0 ep l ((d,(Em σ sz (ev (get env) x) (ev (get env) i)).getD .any)::env) σ K:=
 Kt λv σ'=>by
  simp only[E,true_and];cases g:ev (get env) i<;>(try (cases ev (get env) x<;>simp[Em];done))
  rename_i k n;cases h:ev (get env) x<;>(try (simp[Em];done))
  .rename_i es;simp only[Em];grind
  .rename_i id;simp only[Em];grind
theorem AnD{x i:X}:Av P W0 ep (⟨some d,.idx x i,none,[]⟩::l) env σ K↔True/\(Pb (ev (get env) x) (ev (get env) i)).isSome=true/\Av P W0 ep l ((d,(Pb (ev (get env) x) (ev (get env) i)).getD .any)::env) σ K:=
 Kt λv σ'=>by
  simp only[E,true_and];cases e:ev (get env) i<;>(try (cases ev (get env) x<;>simp[Pb];done))
  rename_i k n;cases g:ev (get env) x<;>(try (simp[Pb];done))
  rename_i l;simp only[Pb];grind
theorem Ag9{x:X}{n:Nat}{e:Bool}:Av P W0 ep (⟨some d,.load x n e,none,[]⟩::l) env σ K↔True/\(FP σ n e (ev (get env) x)).isSome=true/\Av P W0 ep l ((d,(FP σ n e (ev (get env) x)).getD .any)::env) σ K:=
 Kt λv σ'=>by
  simp only[E,true_and];cases i:ev (get env) x<;>(try (simp[FP];done))
  .rename_i id off;simp only[FP];cases h:lk σ id with
   | none=>simp
   | some g=>cases g<;>simp[ldB]
  .rename_i id j sz off;simp only[FP];grind
end
end Go.Ir
end
section
namespace Go.Ir
open Go.RowKit
variable[F4]
def GS(sz:Nat):List V->Prop
 | []=>True
 | x::xs=>(x.ok=true/\(cells x).length=sz)/\GS sz xs
theorem Kn{sz:Nat}:∀{xs:List V},(∀x∈xs,x.ok=true/\(cells x).length=sz)↔GS sz xs
 | []=>by simp[GS]
 | x::xs=>by simp[GS,Kn (xs:=xs)]
def aN(g:Nat->V):List (Nat×Nat×X)->Prop
 | []=>True
 | p::ps=>(ev g p.2.2).ok=true/\aN g ps
theorem Ri{g:Nat->V}:∀{ps:List (Nat×Nat×X)},(∀p∈ps,(ev g p.2.2).ok=true)↔aN g ps
 | []=>by simp[aN]
 | p::ps=>by have:=Ri (g:=g) (ps:=ps);simp only[aN,AmK,forall_eq_or_imp,this]
def J6(g:Nat->V)(h e:Option X):V->Option V
 | .s l=>(Ft g 0 h).bind λa=>(Ft g l.length e).bind λb=>if a<=b/\b<=l.length then some (.s ((l.take b).drop a)) else none
 | _=>none
def G8(g:Nat->V)(h e:Option X)(es:List V):Option V:=
 (Ft g 0 h).bind λa=>(Ft g es.length e).bind λb=>if a<=b/\b<=es.length then some (.sl ((es.take b).drop a)) else none
def isL(sz:Nat):V->Prop
 | .sl es=>∀y∈es,(cells y).length=sz
 | .nil=>True
 | _=>False
def toL:V->List V
 | .sl es=>es
 | _=>[]
def Lz(σ:Aj)(id:Id)(e sz:Nat)(xs:List V):V->Option Aj
 | .nil=>if xs.length<=AG then some ((id,.arr e sz xs)::σ) else none
 | .arr g=>match lk σ g with
  | some (.arr i h es)=>if i=e/\h=sz/\es.length+xs.length<=AG then some ((id,.arr e sz (es++xs))::del σ g) else none
  | _=>none
 | _=>none
def SH(k:Nat):V->Option V
 | .tup vs=>vs[k]?
 | _=>none
def isN:V->Prop
 | .ref _ _|.aref _ _ _ _|.ep _ _|.fn _ _ _=>True
 | _=>False
section
variable{P:Program}{W0:World}{ep:Nat}{l:List I}{env:A9}{σ:Aj}{K:A9→Aj→Prop}
theorem Ad8{d:Option Nat}{op:AE}{C:Prop}{val:V}{o:Option Aj}(h:∀v σ',E P W0 ep d op (get env) σ v σ'↔C/\v=val/\o=some σ') :
  Av P W0 ep (⟨d,op,none,[]⟩::l) env σ K↔C/\o.isSome=true/\Av P W0 ep l (put env d val) (o.getD []) K:=by
 rw[Cj];constructor
 .grind
 .rintro⟨i,e,g⟩;cases o with
  | none=>cases e
  | some τ=>grind
theorem Aa8{a x:X}{n:Nat}:Av P W0 ep (⟨none,.store a x n,none,[]⟩::l) env σ K↔(ev (get env) x).ok=true/\(Ej σ n (ev (get env) x) (ev (get env) a)).isSome=true/\Av P W0 ep l env ((Ej σ n (ev (get env) x) (ev (get env) a)).getD []) K:=
 Ad8 λv σ'=>by
  simp only[E];refine and_congr_right λ_=>and_congr_right λ_=>?_;cases ev (get env) a<;>(try (simp[Ej];done))
  .rename_i id off;simp only[Ej];cases s:lk σ id with
   | none=>simp
   | some i=>
    cases i with
    | arr e sz es=>simp[VY]
    | map _=>simp[VY]
    | it _ _=>simp[VY]
    | mit _ _ _ _=>simp[VY]
    | loop _ _ _ _ _ _ _=>simp[VY]
    | box u=>
     constructor
     .rintro⟨i,j,o,h,rfl⟩;cases o;simp only[VY] at h;cases g:Db u off n (ev (get env) x) with
      | none=>rw[g] at h;cases h
      | some w=>grind
     .intro h;cases g:Db u off n (ev (get env) x) with
      | none=>grind
      | some w=>simp only[g] at h;cases h;exact⟨_,_,rfl,by simp only[VY,g];rfl,rfl⟩
    | tbox t u=>
     constructor
     .rintro⟨i,j,o,h,rfl⟩;cases o;simp only[VY] at h;cases g:Db u off n (ev (get env) x) with
      | none=>rw[g] at h;cases h
      | some w=>grind
     .intro h;cases g:Db u off n (ev (get env) x) with
      | none=>grind
      | some w=>simp only[g] at h;cases h;exact⟨_,_,rfl,by simp only[VY,g];rfl,rfl⟩
  .rename_i id y sz off;simp only[Ej];cases s:lk σ id with
   | none=>simp
   | some i=>
    cases i with
    | box u=>simp
    | tbox _ _=>simp
    | map _=>simp
    | it _ _=>simp
    | mit _ _ _ _=>simp
    | loop _ _ _ _ _ _ _=>simp
    | arr e z es=>
     simp only[AmC,A5.arr.injEq];constructor
     .grind
     .intro h;split at h
      .rename_i p;subst p;cases q:es[y]? with
       | none=>rw[q] at h;cases h
       | some r=>
        rw[q] at h;simp only[AyA] at h;cases g:Db r off n (ev (get env) x) with
        | none=>rw[g] at h;cases h
        | some w=>grind
      .cases h
variable{d:Nat}
theorem Ang{x:X}:Av P W0 ep (⟨some d,.box x,none,[]⟩::l) env σ K↔(ev (get env) x).ok=true/\Av P W0 ep l ((d,.ref (ep,d) 0)::env) (((ep,d),.box (ev (get env) x))::σ) K:=
 H4 λv σ'=>by simp only[E,AmC];grind
theorem zS{z:V}:Av P W0 ep (⟨some d,.alloc z,none,[]⟩::l) env σ K↔True/\Av P W0 ep l ((d,.ref (ep,d) 0)::env) (((ep,d),.box z)::σ) K:=
 H4 λv σ'=>by simp only[E,AmC,true_and];grind
theorem zC{z:List V}{ps:List (Nat×Nat×X)}:Av P W0 ep (⟨some d,.build z ps,none,[]⟩::l) env σ K↔aN (get env) ps/\(((Eu z (ps.map λp=>(p.1,p.2.1,ev (get env) p.2.2))).map V.agg).isSome=true)/\Av P W0 ep l ((d,((Eu z (ps.map λp=>(p.1,p.2.1,ev (get env) p.2.2))).map V.agg).getD .any)::env) σ K:=
 Kt λv σ'=>by
  simp only[E,Ri];refine and_congr_right λ_=>and_congr_left λ_=>?_;cases Eu z (ps.map λp=>(p.1,p.2.1,ev (get env) p.2.2)) with
  | none=>simp
  | some cs=>simp[eq_comm]
theorem AgZ{e sz:Nat}{xs:List X}:Av P W0 ep (⟨some d,.msl true e sz xs,none,[]⟩::l) env σ K↔GS sz (xs.map (ev (get env)))/\Av P W0 ep l ((d,.arr (ep,d))::env) (((ep,d),.arr e sz (xs.map (ev (get env))))::σ) K:=
 H4 λv σ'=>by simp only[E,Kn,AmC];grind
theorem Amn{e sz:Nat}{xs:List X}:Av P W0 ep (⟨some d,.msl false e sz xs,none,[]⟩::l) env σ K↔GS sz (xs.map (ev (get env)))/\Av P W0 ep l ((d,.sl (xs.map (ev (get env))))::env) σ K:=
 H4 λv σ'=>by simp only[E,Kn,Adx,if_false]
theorem Aqt{x:X}{i g:Option X}:Av P W0 ep (⟨some d,.slS x i g,none,[]⟩::l) env σ K↔True/\(J6 (get env) i g (ev (get env) x)).isSome=true/\Av P W0 ep l ((d,(J6 (get env) i g (ev (get env) x)).getD .any)::env) σ K:=
 Kt λv σ'=>by
  simp only[E,true_and];constructor
  .rintro⟨l,a,b,e,j,o,p,q,rfl,rfl⟩;simp[J6,e,j,o,p,q]
  .rintro⟨h,rfl⟩;cases r:ev (get env) x<;>rw[r] at h<;>simp only[J6] at h<;>(try (cases h;done));rename_i l;cases e:Ft (get env) 0 i with
   | none=>rw[e] at h;cases h
   | some a=>
    cases j:Ft (get env) l.length g with
    | none=>rw[e,j] at h;cases h
    | some b=>simp_all
theorem An5{x:X}{i g:Option X}{sz:Nat}:Av P W0 ep (⟨some d,.slL x i g sz,none,[]⟩::l) env σ K↔isL sz (ev (get env) x)/\(G8 (get env) i g (toL (ev (get env) x))).isSome=true/\Av P W0 ep l ((d,(G8 (get env) i g (toL (ev (get env) x))).getD .any)::env) σ K:=
 Kt λv σ'=>by
  simp only[E];constructor
  .rintro⟨es,a,b,e,j,r,s,t,u,rfl,rfl⟩;rcases e with e|⟨e,rfl⟩
   .rw[e];exact⟨u,by simp[G8,toL,j,r,s,t],rfl⟩
   .rw[e];exact⟨trivial,(by simp only[G8,j,r,AyA];exact if_pos ⟨s,t⟩:G8 (get env) i g []=_),rfl⟩
  .rintro⟨p,h,rfl⟩;have q:∀es:List V,(ev (get env) x=.sl es\/ev (get env) x=.nil/\es=[])->G8 (get env) i g es=some v->(∀y∈es,(cells y).length=sz)->∃es a b,(ev (get env) x=.sl es\/ev (get env) x=.nil/\es=[])/\Ft (get env) 0 i=some a/\Ft (get env) es.length g=some b/\a<=b/\b<=es.length/\(∀y∈es,(cells y).length=sz)/\v=.sl ((es.take b).drop a)/\σ'=σ':=by
    intro es w h z;unfold G8 at h;cases e:Ft (get env) 0 i with
    | none=>rw[e] at h;cases h
    | some a=>
     cases j:Ft (get env) es.length g with
     | none=>rw[e,j] at h;cases h
     | some b=>
      simp only[e,j,AyA] at h;split at h
      .grind
      .cases h
   cases o:ev (get env) x<;>rw[o] at p h<;>simp only[isL] at p
   .have:=q [] (.inr ⟨o,rfl⟩) h (by simp);rw[o] at this;exact this
   .rename_i es;have:=q es (.inl o) h p;rw[o] at this;exact this
theorem AjT{x:X}:Av P W0 ep (⟨some d,.lenS x,none,[]⟩::l) env σ K↔isS (ev (get env) x)/\Av P W0 ep l ((d,.i .i64 ((toS (ev (get env) x)).length:Nat))::env) σ K:=
 H4 λv σ'=>by simp only[E];cases ev (get env) x<;>simp[isS,toS]
theorem Ahc{x:X}:Av P W0 ep (⟨some d,.lenL x,none,[]⟩::l) env σ K↔(A4 σ (ev (get env) x)).isSome=true/\Av P W0 ep l ((d,.i .i64 (((A4 σ (ev (get env) x)).getD []).length:Nat))::env) σ K:=
 H4 λv σ'=>by simp only[E];cases A4 σ (ev (get env) x)<;>simp
theorem As8{s x:X}{e sz:Nat}:Av P W0 ep (⟨some d,.app s x e sz,none,[]⟩::l) env σ K↔((A4 σ (ev (get env) x)).isSome=true/\∀y∈(A4 σ (ev (get env) x)).getD [],(cells y).length=sz)/\(Lz σ (ep,d) e sz ((A4 σ (ev (get env) x)).getD []) (ev (get env) s)).isSome=true/\Av P W0 ep l ((d,.arr (ep,d))::env) ((Lz σ (ep,d) e sz ((A4 σ (ev (get env) x)).getD []) (ev (get env) s)).getD []) K:=
 Ad8 λv σ'=>by
  simp only[E,AmC];cases A4 σ (ev (get env) x) with
  | none=>simp
  | some xs=>
   simp only[AmC,Atx,Option.getD_some,true_and];constructor
   .rintro⟨q,p,rfl,rfl,h,rfl,g⟩;refine⟨h,rfl,?_⟩;cases i:ev (get env) s<;>rw[i] at g<;>simp only at g<;>(try (exact g.elim))
    .simp[Lz,g]
    .obtain⟨es,j,o,rfl⟩:=g;simp[Lz,j,o]
   .rintro⟨h,rfl,g⟩;refine⟨d,xs,rfl,rfl,h,rfl,?_⟩;cases i:ev (get env) s<;>rw[i] at g<;>simp only[Lz] at g<;>(try (cases g;done))
    .grind
    grind
theorem AqD{x:X}{k:Nat}:Av P W0 ep (⟨some d,.ext x k,none,[]⟩::l) env σ K↔True/\(SH k (ev (get env) x)).isSome=true/\Av P W0 ep l ((d,(SH k (ev (get env) x)).getD .any)::env) σ K:=
 Kt λv σ'=>by simp only[E];cases ev (get env) x<;>simp[SH]
theorem Akd{f:FuncId}{first e:List X}:Av P W0 ep (⟨some d,.mkfn f first e,none,[]⟩::l) env σ K↔True/\Av P W0 ep l ((d,.fn f (first.map (ev (get env))) (e.map (ev (get env))))::env) σ K:=
 H4 λv σ'=>by simp[E]
theorem AvS{e:Bool}{x:X}{xs:List X}:Av P W0 ep (⟨some d,.mx e x xs,none,[]⟩::l) env σ K↔True/\(OG e (ev (get env) x) (xs.map (ev (get env)))).isSome=true/\Av P W0 ep l ((d,(OG e (ev (get env) x) (xs.map (ev (get env)))).getD .any)::env) σ K:=
 Kt λv σ'=>by simp[E]
theorem Abw{x:X}:Av P W0 ep (⟨some d,.nilck x,none,[]⟩::l) env σ K↔isN (ev (get env) x)/\Av P W0 ep l ((d,ev (get env) x)::env) σ K:=
 H4 λv σ'=>Iff.rfl
theorem AlR{a c:X}{z:V}{e sz:Nat}:Av P W0 ep (⟨some d,.mksl a c z e sz,none,[]⟩::l) env σ K↔(TW (ev (get env) a)/\TW (ev (get env) c)/\0<=LM (ev (get env) a)/\LM (ev (get env) a)<=LM (ev (get env) c)/\LM (ev (get env) c)<=AG)/\Av P W0 ep l ((d,.arr (ep,d))::env) (((ep,d),.arr e sz (List.replicate (LM (ev (get env) a)).toNat z))::σ) K:=
 H4 λv σ'=>by
  simp only[E,AmC];constructor
  .rintro⟨r,k,k',n,m,rfl,g,h,j,i,rfl,rfl⟩;rw[g,h];simp only[TW,LM,true_and,Az0,AxM];grind
  .rintro⟨⟨g,h,j,i,o⟩,rfl,rfl⟩;cases p:ev (get env) a<;>rw[p] at g j i<;>simp only[TW] at g;cases q:ev (get env) c<;>rw[q] at h i o<;>simp only[TW] at h;simp only[LM] at *;rename_i k n k' m;exact⟨d,k,k',n.toNat,m.toNat,rfl,by grind,by grind,by omega,by omega,rfl,rfl⟩
end
theorem wrap64{n:Int}(e:-9223372036854775808<=n)(g:n<9223372036854775808):IntKind.i64.wrap n=n:=by simp only[IntKind.wrap,IntKind.bits,IntKind.signed] at *;simp;omega
theorem Adj{e:Bool}{v:V}:OG e v []=some v:=by cases v<;>rfl
theorem Aq3{e:Bool}{k:IntKind}{a b:Int}{r:List V}:OG e (.i k a) (.i k b::r)=OG e (.i k (if e=true then min a b else max a b)) r:=by simp[OG]
end Go.Ir
end
namespace Go.Ir
open Go.RowKit
variable[F4]
def TG(o:Option A5)(id:Id)(sz:Nat)(n:Int):Option V:=
 match o with|some (.arr _ e es)=>if e=sz/\n.toNat<es.length then some (.aref id n.toNat sz 0) else none|_=>none
def Xm(g:Option A5)(off n:Nat)(e:Bool):Option V:=match g with|some (.box u)=>sub u off n e|some (.tbox _ u)=>sub u off n e|_=>none
def dK(i:Option A5)(j sz off n:Nat)(g:Bool):Option V:=match i with|some (.arr _ e es)=>if e=sz then(es[j]?).bind λh=>sub h off n g else none|_=>none
def OU(g:Option A5)(σ:Aj)(n:Nat)(x:V)(id:Id)(off:Nat):Option Aj:=match g with|some (.box u)=>(Db u off n x).map λe=>upd σ id (.box e)|some (.tbox t u)=>(Db u off n x).map λe=>upd σ id (.tbox t e)|_=>none
def Tx(o:Option A5)(σ:Aj)(n:Nat)(x:V)(id:Id)(i sz off:Nat):Option Aj:=match o with|some (.arr e h es)=>if h=sz then(es[i]?).bind λj=>(Db j off n x).map λg=>upd σ id (.arr e sz (es.set i g)) else none|_=>none
def Ajk(j:Option A5)(σ:Aj)(id g:Id)(e sz:Nat)(xs:List V):Option Aj:=match j with|some (.arr i h es)=>if i=e/\h=sz/\es.length+xs.length<=AG then some ((id,.arr e sz (es++xs))::del σ g) else none|_=>none
def Sy:Option A5->Option (List V)|some (.arr _ _ es)=>some es|_=>none
def Aai:V->Option Nat|.i _ n=>if 0<=n then some n.toNat else none|_=>none
theorem Abt{x:Bool}:cells (.b x)=[(.b x)]:=rfl
theorem AuA{x:Bool}:V.ok (.b x)=true:=rfl
theorem AbK{k:IntKind}{n:Int}:cells (.i k n)=[(.i k n)]:=rfl
theorem AvW{k:IntKind}{n:Int}:V.ok (.i k n)=true:=rfl
theorem AbM{l:List UInt8}:cells (.s l)=[(.s l)]:=rfl
theorem Au7{l:List UInt8}:V.ok (.s l)=true:=rfl
theorem a7:cells .nil=[.nil]:=rfl
theorem AjE:V.ok .nil=true:=rfl
theorem rM{es:List V}:cells (.sl es)=[(.sl es)]:=rfl
theorem Ap7{es:List V}:V.ok (.sl es)=true:=rfl
theorem ZT{cs:List V}:cells (.agg cs)=cs:=rfl
theorem AiD{cs:List V}:V.ok (.agg cs)=true:=rfl
theorem aQ{id:Id}{o:Nat}:cells (.ref id o)=[(.ref id o)]:=rfl
theorem AhX{id:Id}{o:Nat}:V.ok (.ref id o)=true:=rfl
theorem ZH{id:Id}:cells (.arr id)=[(.arr id)]:=rfl
theorem AlG{id:Id}:V.ok (.arr id)=true:=rfl
theorem T4{id:Id}{e:Nat}{sz:Nat}{o:Nat}:cells (.aref id e sz o)=[(.aref id e sz o)]:=rfl
theorem Abr{id:Id}{e:Nat}{sz:Nat}{o:Nat}:V.ok (.aref id e sz o)=true:=rfl
theorem oE{e:V}{o:Nat}:cells (.ep e o)=[(.ep e o)]:=rfl
theorem AmY{e:V}{o:Nat}:V.ok (.ep e o)=true:=rfl
theorem jB{f:FuncId}{a:List V}{c:List V}:cells (.fn f a c)=[(.fn f a c)]:=rfl
theorem ApB{f:FuncId}{a:List V}{c:List V}:V.ok (.fn f a c)=true:=rfl
theorem iG:cells .np=[.np]:=rfl
theorem AqK:V.ok .np=true:=rfl
theorem sK:cells .nf=[.nf]:=rfl
theorem Aps:V.ok .nf=true:=rfl
theorem r5:cells .ni=[.ni]:=rfl
theorem Apq:V.ok .ni=true:=rfl
theorem AaL{cs:List V}:Nm (.agg cs)=true:=rfl
theorem Arv{x:Bool}:Su (.b x)=True:=rfl
theorem AoQ{x:Bool}:MQ (.b x)=x:=rfl
theorem ArJ{k:IntKind}{n:Int}:TW (.i k n)=True:=rfl
theorem Ar5{k:IntKind}{n:Int}:LM (.i k n)=n:=rfl
theorem Aob{k:IntKind}{n:Int}:kiI (.i k n)=k:=rfl
theorem AqS{l:List UInt8}:isS (.s l)=True:=rfl
theorem AsD{l:List UInt8}:toS (.s l)=l:=rfl
theorem kK{id:Id}{o:Nat}:Uw (.ref id o)=True:=rfl
theorem TJ{id:Id}{o:Nat}{m:Nat}:Ib (.ref id o) m=.ref id (o+m):=rfl
theorem Aa1{id:Id}{o:Nat}:isN (.ref id o)=True:=rfl
theorem aO{id:Id}{e:Nat}{sz:Nat}{o:Nat}:Uw (.aref id e sz o)=True:=rfl
theorem QT{id:Id}{e:Nat}{sz:Nat}{o:Nat}{m:Nat}:Ib (.aref id e sz o) m=.aref id e sz (o+m):=rfl
theorem tS{id:Id}{e:Nat}{sz:Nat}{o:Nat}:isN (.aref id e sz o)=True:=rfl
theorem AaW{e:V}{o:Nat}:Uw (.ep e o)=True:=rfl
theorem Zm{e:V}{o:Nat}{m:Nat}:Ib (.ep e o) m=.ep e (o+m):=rfl
theorem Al3{e:V}{o:Nat}:isN (.ep e o)=True:=rfl
theorem Akv{f:FuncId}{a:List V}{c:List V}:isN (.fn f a c)=True:=rfl
theorem aK{σ:Aj}{sz:Nat}{es:List V}{k:IntKind}{n:Int}:Em σ sz (.sl es) (.i k n)=if 0<=n then(es[n.toNat]?).bind λe=>if(cells e).length=sz then some (.ep e 0) else none else none:=rfl
theorem U3{σ:Aj}{sz:Nat}{id:Id}{k:IntKind}{n:Int}:Em σ sz (.arr id) (.i k n)=if 0<=n then TG (lk σ id) id sz n else none:=by unfold Em TG;rfl
theorem Sz{e g:Nat}{es:List V}{id:Id}{sz:Nat}{n:Int}:TG (some (.arr e g es)) id sz n=if g=sz/\n.toNat<es.length then some (.aref id n.toNat sz 0) else none:=rfl
theorem Zq{σ:Aj}{n:Nat}{e:Bool}{id:Id}{o:Nat}:FP σ n e (.ref id o)=Xm (lk σ id) o n e:=by unfold FP Xm;rfl
theorem Y5{u:V}{o n:Nat}{e:Bool}:Xm (some (.box u)) o n e=sub u o n e:=rfl
theorem T2{t:TypeId}{u:V}{o n:Nat}{e:Bool}:Xm (some (.tbox t u)) o n e=sub u o n e:=rfl
theorem Ub{σ:Aj}{n:Nat}{e:Bool}{id:Id}{g sz o:Nat}:FP σ n e (.aref id g sz o)=dK (lk σ id) g sz o n e:=by unfold FP dK;rfl
theorem Z9{e g:Nat}{es:List V}{i sz o n:Nat}{h:Bool}:dK (some (.arr e g es)) i sz o n h=if g=sz then(es[i]?).bind λj=>sub j o n h else none:=rfl
theorem pI{σ:Aj}{n:Nat}{g:Bool}{e:V}{o:Nat}:FP σ n g (.ep e o)=sub e o n g:=rfl
theorem SN{σ:Aj}{n:Nat}{x:V}{id:Id}{o:Nat}:Ej σ n x (.ref id o)=OU (lk σ id) σ n x id o:=by unfold Ej OU;rfl
theorem Tl{u:V}{σ:Aj}{n:Nat}{x:V}{id:Id}{o:Nat}:OU (some (.box u)) σ n x id o=(Db u o n x).map λe=>upd σ id (.box e):=rfl
theorem Rp{t:TypeId}{u:V}{σ:Aj}{n:Nat}{x:V}{id:Id}{o:Nat}:OU (some (.tbox t u)) σ n x id o=(Db u o n x).map λe=>upd σ id (.tbox t e):=rfl
theorem Rc{σ:Aj}{n:Nat}{x:V}{id:Id}{e sz o:Nat}:Ej σ n x (.aref id e sz o)=Tx (lk σ id) σ n x id e sz o:=by unfold Ej Tx;rfl
theorem SP{e g:Nat}{es:List V}{σ:Aj}{n:Nat}{x:V}{id:Id}{i sz o:Nat}:Tx (some (.arr e g es)) σ n x id i sz o=if g=sz then(es[i]?).bind λj=>(Db j o n x).map λh=>upd σ id (.arr e sz (es.set i h)) else none:=rfl
theorem Aid{l:List UInt8}{k:IntKind}{n:Int}:Pb (.s l) (.i k n)=if 0<=n then(l[n.toNat]?).map λc=>.i .u8 c.toNat else none:=rfl
theorem jG{g:Nat->V}{h e:Option X}{l:List UInt8}:J6 g h e (.s l)=(Ft g 0 h).bind λa=>(Ft g l.length e).bind λb=>if a<=b/\b<=l.length then some (.s ((l.take b).drop a)) else none:=rfl
theorem Aht{sz:Nat}{es:List V}:isL sz (.sl es)=∀y∈es,(cells y).length=sz:=rfl
theorem AaI{sz:Nat}:isL sz .nil=True:=rfl
theorem Am1{es:List V}:toL (.sl es)=es:=rfl
theorem AaK:toL .nil=[]:=rfl
theorem kM{σ:Aj}{id:Id}{e sz:Nat}{xs:List V}:Lz σ id e sz xs .nil=if xs.length<=AG then some ((id,.arr e sz xs)::σ) else none:=rfl
theorem rI{σ:Aj}{id g:Id}{e sz:Nat}{xs:List V}:Lz σ id e sz xs (.arr g)=Ajk (lk σ g) σ id g e sz xs:=by unfold Lz Ajk;rfl
theorem gX{i h:Nat}{es:List V}{σ:Aj}{id g:Id}{e sz:Nat}{xs:List V}:Ajk (some (.arr i h es)) σ id g e sz xs=if i=e/\h=sz/\es.length+xs.length<=AG then some ((id,.arr e sz (es++xs))::del σ g) else none:=rfl
theorem fF{k:Nat}{vs:List V}:SH k (.tup vs)=vs[k]?:=rfl
theorem SF{σ:Aj}{es:List V}:A4 σ (.sl es)=some es:=rfl
theorem Q4{σ:Aj}:A4 σ .nil=some []:=rfl
theorem QF{σ:Aj}{id:Id}:A4 σ (.arr id)=Sy (lk σ id):=by unfold A4 Sy;rfl
theorem T7{e sz:Nat}{es:List V}:Sy (some (.arr e sz es))=some es:=rfl
theorem Ahh{op:BinOp}{k k':IntKind}{a b:Int}:Ng op (.i k a) (.i k' b)=(k=k'/\jX op b):=rfl
theorem Aje{op:BinOp}{a b:List UInt8}:Ng op (.s a) (.s b)=lW op a b:=rfl
theorem AjO{op:BinOp}{k k':IntKind}{a b:Int}:Rt op (.i k a) (.i k' b)=wQ op k a b:=rfl
theorem AjK{op:BinOp}{a b:List UInt8}:Rt op (.s a) (.s b)=tW op a b:=rfl
theorem xJ{g:Nat->V}{m:Nat}:Ft g m none=some m:=rfl
theorem PX{g:Nat->V}{m:Nat}{x:X}:Ft g m (some x)=Aai (ev g x):=by unfold Ft Aai;rfl
theorem AgN{k:IntKind}{n:Int}:Aai (.i k n)=if 0<=n then some n.toNat else none:=rfl
end Go.Ir
section
namespace Go.Ir
open Go.RowKit
variable[F4]
def AZ(env:A9)(x:X):V:=ev (get env) x
def DP(env:A9)(xs:List X):List V:=xs.map (ev (get env))
def psE(env:A9)(ps:List (Nat×Nat×X)):List (Nat×Nat×V):=ps.map λp=>(p.1,p.2.1,ev (get env) p.2.2)
def Rz(env:A9)(ps:List (Nat×Nat×X)):Prop:=aN (get env) ps
def TS(env:A9)(m:Nat)(x:Option X):Option Nat:=Ft (get env) m x
def Ld(env:A9)(g e:Option X)(v:V):Option V:=J6 (get env) g e v
def KY(env:A9)(g e:Option X)(es:List V):Option V:=G8 (get env) g e es
theorem Ar0{env:A9}{s:Nat}:AZ env (.t s)=get env s:=rfl
theorem Apx{env:A9}{v:V}:AZ env (.c v)=v:=rfl
theorem Acf{env:A9}:DP env []=[]:=rfl
theorem wF{env:A9}{x:X}{xs:List X}:DP env (x::xs)=AZ env x::DP env xs:=rfl
theorem AaY{env:A9}:psE env []=[]:=rfl
theorem pD{env:A9}{a b:Nat}{x:X}{ps:List (Nat×Nat×X)}:psE env ((a,b,x)::ps)=(a,b,AZ env x)::psE env ps:=rfl
theorem ZJ{env:A9}:Rz env []=True:=rfl
theorem T3{env:A9}{a b:Nat}{x:X}{ps:List (Nat×Nat×X)}:Rz env ((a,b,x)::ps)=((AZ env x).ok=true/\Rz env ps):=rfl
theorem YJ{env:A9}{m:Nat}:TS env m none=some m:=rfl
theorem bO{env:A9}{m:Nat}{x:X}:TS env m (some x)=Aai (AZ env x):=by unfold TS AZ;exact PX
theorem Yq{env:A9}{g e:Option X}{l:List UInt8}:Ld env g e (.s l)=(TS env 0 g).bind λa=>(TS env l.length e).bind λb=>if a<=b/\b<=l.length then some (.s ((l.take b).drop a)) else none:=rfl
theorem Sw{env:A9}{g e:Option X}{es:List V}:KY env g e es=(TS env 0 g).bind λa=>(TS env es.length e).bind λb=>if a<=b/\b<=es.length then some (.sl ((es.take b).drop a)) else none:=rfl
theorem By{k s:Nat}{v:V}{r:A9}:get ((k,v)::r) s=if k=s then v else get r s:=rfl
theorem Adn{s:Nat}:get [] s=.any:=rfl
theorem OP{env:A9}:restrict [] env=[]:=rfl
theorem MY{s:Nat}{l:List Nat}{env:A9}:restrict (s::l) env=(s,get env s)::restrict l env:=rfl
section
variable{P:Program}{W0:World}{ep d:Nat}{l:List I}{env:A9}{σ:Aj}{K:A9→Aj→Prop}
theorem AuE{x:X}:Av P W0 ep (⟨some d,.mv x,none,[]⟩::l) env σ K↔Av P W0 ep l ((d,AZ env x)::env) σ K:=AuS
theorem Am6{c a b:X}:Av P W0 ep (⟨some d,.pick c a b,none,[]⟩::l) env σ K↔Su (AZ env c)/\Av P W0 ep l ((d,bif MQ (AZ env c) then AZ env a else AZ env b)::env) σ K:=Aiv
theorem Aq6{op:BinOp}{x y:X}:Av P W0 ep (⟨some d,.bin op x y,none,[]⟩::l) env σ K↔Ng op (AZ env x) (AZ env y)/\Av P W0 ep l ((d,Rt op (AZ env x) (AZ env y))::env) σ K:=AqT
theorem ApQ{e:Bool}{x y:X}:Av P W0 ep (⟨some d,.eqb e x y,none,[]⟩::l) env σ K↔(Su (AZ env x)/\Su (AZ env y))/\Av P W0 ep l ((d,.b (if e then !(MQ (AZ env x)==MQ (AZ env y)) else MQ (AZ env x)==MQ (AZ env y)))::env) σ K:=ApS
theorem AqF{x:X}:Av P W0 ep (⟨some d,.not x,none,[]⟩::l) env σ K↔Su (AZ env x)/\Av P W0 ep l ((d,.b (!(MQ (AZ env x))))::env) σ K:=AsN
theorem ApZ{k:IntKind}{x:X}:Av P W0 ep (⟨some d,.cvi k x,none,[]⟩::l) env σ K↔TW (AZ env x)/\Av P W0 ep l ((d,.i k (k.wrap (LM (AZ env x))))::env) σ K:=Asy
theorem Ac8{x:X}{off:Nat}:Av P W0 ep (⟨some d,.faddr x off,none,[]⟩::l) env σ K↔Uw (AZ env x)/\Av P W0 ep l ((d,Ib (AZ env x) off)::env) σ K:=AaB
theorem Abe{x i:X}{e sz:Nat}:Av P W0 ep (⟨some d,.iaddr x i e sz,none,[]⟩::l) env σ K↔True/\(Em σ sz (AZ env x) (AZ env i)).isSome=true/\Av P W0 ep l ((d,(Em σ sz (AZ env x) (AZ env i)).getD .any)::env) σ K:=AaF
theorem As7{x i:X}:Av P W0 ep (⟨some d,.idx x i,none,[]⟩::l) env σ K↔True/\(Pb (AZ env x) (AZ env i)).isSome=true/\Av P W0 ep l ((d,(Pb (AZ env x) (AZ env i)).getD .any)::env) σ K:=AnD
theorem Alj{x:X}{n:Nat}{e:Bool}:Av P W0 ep (⟨some d,.load x n e,none,[]⟩::l) env σ K↔True/\(FP σ n e (AZ env x)).isSome=true/\Av P W0 ep l ((d,(FP σ n e (AZ env x)).getD .any)::env) σ K:=Ag9
theorem Abv{a x:X}{n:Nat}:Av P W0 ep (⟨none,.store a x n,none,[]⟩::l) env σ K↔(AZ env x).ok=true/\(Ej σ n (AZ env x) (AZ env a)).isSome=true/\Av P W0 ep l env ((Ej σ n (AZ env x) (AZ env a)).getD []) K:=Aa8
theorem Arj{x:X}:Av P W0 ep (⟨some d,.box x,none,[]⟩::l) env σ K↔(AZ env x).ok=true/\Av P W0 ep l ((d,.ref (ep,d) 0)::env) (((ep,d),.box (AZ env x))::σ) K:=Ang
theorem Abf{z:V}:Av P W0 ep (⟨some d,.alloc z,none,[]⟩::l) env σ K↔True/\Av P W0 ep l ((d,.ref (ep,d) 0)::env) (((ep,d),.box z)::σ) K:=zS
theorem Aaq{z:List V}{ps:List (Nat×Nat×X)}:Av P W0 ep (⟨some d,.build z ps,none,[]⟩::l) env σ K↔Rz env ps/\(((Eu z (psE env ps)).map V.agg).isSome=true)/\Av P W0 ep l ((d,((Eu z (psE env ps)).map V.agg).getD .any)::env) σ K:=zC
theorem AiV{e sz:Nat}{xs:List X}:Av P W0 ep (⟨some d,.msl true e sz xs,none,[]⟩::l) env σ K↔GS sz (DP env xs)/\Av P W0 ep l ((d,.arr (ep,d))::env) (((ep,d),.arr e sz (DP env xs))::σ) K:=AgZ
theorem All{e sz:Nat}{xs:List X}:Av P W0 ep (⟨some d,.msl false e sz xs,none,[]⟩::l) env σ K↔GS sz (DP env xs)/\Av P W0 ep l ((d,.sl (DP env xs))::env) σ K:=Amn
theorem AnZ{x:X}{g e:Option X}:Av P W0 ep (⟨some d,.slS x g e,none,[]⟩::l) env σ K↔True/\(Ld env g e (AZ env x)).isSome=true/\Av P W0 ep l ((d,(Ld env g e (AZ env x)).getD .any)::env) σ K:=Aqt
theorem ArF{x:X}{g e:Option X}{sz:Nat}:Av P W0 ep (⟨some d,.slL x g e sz,none,[]⟩::l) env σ K↔isL sz (AZ env x)/\(KY env g e (toL (AZ env x))).isSome=true/\Av P W0 ep l ((d,(KY env g e (toL (AZ env x))).getD .any)::env) σ K:=An5
theorem AiZ{x:X}:Av P W0 ep (⟨some d,.lenS x,none,[]⟩::l) env σ K↔isS (AZ env x)/\Av P W0 ep l ((d,.i .i64 ((toS (AZ env x)).length:Nat))::env) σ K:=AjT
theorem Ajc{x:X}:Av P W0 ep (⟨some d,.lenL x,none,[]⟩::l) env σ K↔(A4 σ (AZ env x)).isSome=true/\Av P W0 ep l ((d,.i .i64 (((A4 σ (AZ env x)).getD []).length:Nat))::env) σ K:=Ahc
theorem ArA{s x:X}{e sz:Nat}:Av P W0 ep (⟨some d,.app s x e sz,none,[]⟩::l) env σ K↔((A4 σ (AZ env x)).isSome=true/\∀y∈(A4 σ (AZ env x)).getD [],(cells y).length=sz)/\(Lz σ (ep,d) e sz ((A4 σ (AZ env x)).getD []) (AZ env s)).isSome=true/\Av P W0 ep l ((d,.arr (ep,d))::env) ((Lz σ (ep,d) e sz ((A4 σ (AZ env x)).getD []) (AZ env s)).getD []) K:=As8
theorem Apm{x:X}{k:Nat}:Av P W0 ep (⟨some d,.ext x k,none,[]⟩::l) env σ K↔True/\(SH k (AZ env x)).isSome=true/\Av P W0 ep l ((d,(SH k (AZ env x)).getD .any)::env) σ K:=AqD
theorem Al5{f:FuncId}{first e:List X}:Av P W0 ep (⟨some d,.mkfn f first e,none,[]⟩::l) env σ K↔True/\Av P W0 ep l ((d,.fn f (DP env first) (DP env e))::env) σ K:=Akd
theorem Auu{e:Bool}{x:X}{xs:List X}:Av P W0 ep (⟨some d,.mx e x xs,none,[]⟩::l) env σ K↔True/\(OG e (AZ env x) (DP env xs)).isSome=true/\Av P W0 ep l ((d,(OG e (AZ env x) (DP env xs)).getD .any)::env) σ K:=AvS
theorem Ac1{x:X}:Av P W0 ep (⟨some d,.nilck x,none,[]⟩::l) env σ K↔isN (AZ env x)/\Av P W0 ep l ((d,AZ env x)::env) σ K:=Abw
theorem AgO{a c:X}{z:V}{e sz:Nat}:Av P W0 ep (⟨some d,.mksl a c z e sz,none,[]⟩::l) env σ K↔(TW (AZ env a)/\TW (AZ env c)/\0<=LM (AZ env a)/\LM (AZ env a)<=LM (AZ env c)/\LM (AZ env c)<=AG)/\Av P W0 ep l ((d,.arr (ep,d))::env) (((ep,d),.arr e sz (List.replicate (LM (AZ env a)).toNat z))::σ) K:=AlR
variable{nt:Nat}{b:IC}{Q:Exit→St→Prop}{st:St}{Inv:Nat→St→Prop}{m k k':Nat}
theorem Li:De k Q .normal st=Q .normal st:=rfl
theorem O1:De k Q (.exit k') st=if k'=k then Q .normal st else Q (.exit k') st:=rfl
theorem Qq:De k Q .ret st=Q .ret st:=rfl
theorem O6:XD Inv m Q .normal st=∃e,e<m/\Inv e st:=rfl
theorem TC:XD Inv m Q (.exit k) st=Q (.exit k) st:=rfl
theorem YS:XD Inv m Q .ret st=Q .ret st:=rfl
end
end Go.Ir
end
section
namespace Go.Ir
open Go.RowKit
variable[F4]
def J(P:Program)(W0:World)(ep:Nat)(live:List Nat)(Q:Exit->St->Prop)(l:List I)(env:A9)(σ:Aj):Prop:=
 Av P W0 ep l env σ λenv σ=>∀k,Q .normal ⟨restrict live env,σ,ep+1+k⟩
def JP(P:Program)(W0:World)(ep:Nat)(live:List Nat)(Q:Exit->St->Prop)(p:Prop)(l:List I)(env:A9)(σ:Aj):Prop:=p/\J P W0 ep live Q l env σ
def JL(P:Program)(W0:World)(ep:Nat)(live:List Nat)(Q:Exit->St->Prop)(p:Prop)(o:Option V)(l:List I)(d:Nat)(env:A9)(σ:Aj):Prop:=p/\o.isSome=true/\J P W0 ep live Q l ((d,o.getD .any)::env) σ
def JT(P:Program)(W0:World)(ep:Nat)(live:List Nat)(Q:Exit->St->Prop)(p:Prop)(o:Option Aj)(l:List I)(env:A9):Prop:=p/\o.isSome=true/\J P W0 ep live Q l env (o.getD [])
def Vt(P:Program)(W0:World)(ep:Nat)(live:List Nat)(Q:Exit->St->Prop)(v:V)(e:Bool)(d:Option Nat)(op:AE)(ap:List X)(l:List I)(env:A9)(σ:Aj):Prop:=
 HY e v (J P W0 ep live Q (⟨d,op,none,ap⟩::l) env σ) (J P W0 ep live Q l (put env d (.tup [])) σ)
def So(P:Program)(W0:World)(ep:Nat)(live:List Nat)(Q:Exit->St->Prop)(f:FuncId)(vs:List V)(l:List I)(d:Nat)(env:A9)(σ:Aj):Prop:=
 ∃v,Al P W0 f vs [] v []/\J P W0 ep live Q l ((d,v)::env) σ
def SY(P:Program)(W0:World)(ep:Nat)(live:List Nat)(Q:Exit->St->Prop)(f:FuncId)(vs:List V)(l:List I)(d:Nat)(env:A9)(σ:Aj):Prop:=
 ∃v σi,Al P W0 f vs σi v σi/\(∀id e,lk σi id=some e->lk σ id=some e)/\J P W0 ep live Q l ((d,v)::env) σ
def Ip(P:Program)(W0:World)(ep:Nat)(live:List Nat)(Q:Exit->St->Prop)(f:FuncId)(vs:List V)(l:List I)(d:Nat)(env:A9)(σ:Aj):Prop:=
 ∃v σi σo,Al P W0 f vs σi v σo/\(∀id e,lk σi id=some e->lk σ id=some e)/\J P W0 ep live Q l ((d,v)::env) (over σi σo σ)
def Uf(P:Program)(W0:World)(ep:Nat)(live:List Nat)(Q:Exit->St->Prop)(f:FuncId)(vs:List V)(l:List I)(d:Nat)(env:A9)(σ:Aj):Prop:=
 ∃x σi σo,J0 P W0 f vs σi x σo/\(∀id e,lk σi id=some e->lk σ id=some e)/\J P W0 ep live Q l ((d,.arr (ep,d))::env) (((ep,d),x)::over σi σo σ)
def AgV(P:Program)(W0:World)(ep:Nat)(live:List Nat)(Q:Exit->St->Prop)(h:V)(vs:List V)(l:List I)(d:Nat)(env:A9)(σ:Aj):Prop:=
 match h with
 | .fn f first e=>So P W0 ep live Q f (first++vs++e) l d env σ
 | _=>False
def KU(P:Program)(W0:World)(ep:Nat)(live:List Nat)(Q:Exit->St->Prop)(h:V)(vs:List V)(l:List I)(d:Nat)(env:A9)(σ:Aj):Prop:=
 match h with
 | .fn f first e=>Ip P W0 ep live Q f (first++vs++e) l d env σ
 | _=>False
def UQ(P:Program)(W0:World)(ep:Nat)(live:List Nat)(Q:Exit->St->Prop)(f:FuncId)(vs g:List V)(l:List I)(d:Nat)(env:A9)(σ:Aj):Prop:=
 ∃v σi σo,Al P W0 f vs σi v σo/\(∀id e,lk σi id=some e->lk σ id=some e)/\(∀y∈g,∀id,BP y=some id->lk σ id≠none->lk (over σi σo σ) id=lk σ id)/\J P W0 ep live Q l ((d,v)::env) (over σi σo σ)
def Ac7(P:Program)(W0:World)(ep:Nat)(live:List Nat)(Q:Exit->St->Prop)(h:V)(vs g:List V)(l:List I)(d:Nat)(env:A9)(σ:Aj):Prop:=
 match h with
 | .fn f first e=>UQ P W0 ep live Q f (first++vs++e) g l d env σ
 | _=>False
def JW(P:Program)(W0:World)(ep:Nat)(live:List Nat)(Q:Exit->St->Prop)(o:Option (Aj×V))(l:List I)(d:Nat)(env:A9):Prop:=∃p,o=some p/\J P W0 ep live Q l ((d,p.2)::env) p.1
def JM(P:Program)(W0:World)(ep:Nat)(live:List Nat)(Q:Exit->St->Prop)(k:MkK)(o:Option A5)(l:List I)(d:Nat)(env:A9)(σ:Aj):Prop:=∃e,o=some e/\J P W0 ep live Q l ((d,yS k (ep,d))::env) (((ep,d),e)::σ)
def Zz(k:RdK)(xs:List V)(e:Option A5):Option V:=e.bind λe=>zV k e xs
def rdV(σ:Aj)(k:RdK)(xs:List V):V->Option V
 | .arr id=>Zz k xs (lk σ id)
 | _=>none
def wrO(σ:Aj)(id:Id)(k:mI)(xs:List V)(e:Option A5):Option (Aj×V):=e.bind λe=>(tD k e xs).map λr=>(upd σ id r.1,r.2)
def wrV(σ:Aj)(k:mI)(xs:List V):V->Option (Aj×V)
 | .arr id=>wrO σ id k xs (lk σ id)
 | _=>none
def cR(σ:Aj)(id:Id)(n:Nat):Option A5->Option (Aj×V)
 | some (.box (.agg cs))=>if cs.length=n/\cs.all (λc=>!Nm c)=true then some (del σ id,.sl cs) else none
 | _=>none
def Aa7(σ:Aj)(n:Nat):V->Option (Aj×V)
 | .ref id 0=>cR σ id n (lk σ id)
 | _=>none
def IF(σ:Aj)(e mid:Id):Option A5->Option (Aj×V)
 | some (.map es)=>some ((e,.mit mid es.length [] es.length)::σ,.arr e)
 | _=>none
def KK(σ:Aj)(e:Id):V->Option (Aj×V)
 | .arr mid=>IF σ e mid (lk σ mid)
 | _=>none
def IQ(i:Option Nat)(e:Nat):Option A5->Option V
 | some (.map es)=>if e=es.length then i.bind λi=>(es[i]?).map λg=>.tup [g.1,g.2] else none
 | _=>none
def Jg(σ:Aj):Option A5->Option V
 | some (.mit mid _ seen e)=>IQ seen.getLast? e (lk σ mid)
 | _=>none
def IG(σ:Aj):V->Option V
 | .arr id=>Jg σ (lk σ id)
 | _=>none
def Rj:Option A5->Nat
 | some (.arr _ _ es)=>es.length
 | _=>0
def M3(σ:Aj):V->Nat
 | .arr id=>Rj (lk σ id)
 | _=>0
def NB:V->Nat
 | .s l=>l.length
 | _=>0
def Q8(σ:Aj)(id g:Id)(e:TypeId)(l:List UInt8):Option A5->Option (Aj×V)
 | some (.arr h sz es)=>if h=e/\sz=1 then some ((g,.arr e 1 (es++Az l))::del σ id,.arr g) else none
 | _=>none
def Oj(σ:Aj)(g:Id)(e:TypeId)(l:List UInt8):V->Option (Aj×V)
 | .nil=>some ((g,.arr e 1 (Az l))::σ,.arr g)
 | .arr id=>Q8 σ id g e l (lk σ id)
 | _=>none
def V5(σ:Aj)(g:Id)(e:TypeId)(s:V):V->Option (Aj×V)
 | .s l=>Oj σ g e l s
 | _=>none
def gL(σ:Aj)(id g:Id)(sz:Nat)(h:V):Option A5->Option (Aj×V)
 | some (.arr e j es)=>if j=sz then(match h with
  | .i _ n=>if 0<=n then(if n.toNat<=es.length then some ((g,.arr e sz (es.take n.toNat))::del σ id,.arr g) else none) else none
  | _=>none) else none
 | _=>none
def Abo(σ:Aj)(e:Id)(sz:Nat)(h:V):V->Option (Aj×V)
 | .arr id=>gL σ id e sz h (lk σ id)
 | _=>none
def JWP(P:Program)(W0:World)(ep:Nat)(live:List Nat)(Q:Exit->St->Prop)(p:Prop)(o:Option (Aj×V))(l:List I)(d:Nat)(env:A9):Prop:=∃q,o=some q/\JP P W0 ep live Q p l ((d,q.2)::env) q.1
def AlF(es:List V):V:=.i .i64 (es.length:Nat)
def yL:List V->List V->Prop
 | [],_=>True
 | x::xs,ys=>(∀y∈ys,∀id,BP x=some id->BP y≠some id)/\yL xs ys
section
variable{P:Program}{W0:World}{ep d:Nat}{live:List Nat}{Q:Exit→St→Prop}{l:List I}{env:A9}{σ:Aj}
theorem AsG:J P W0 ep live Q [] env σ=∀k,Q .normal ⟨restrict live env,σ,ep+1+k⟩:=rfl
theorem AbG:JP P W0 ep live Q True l env σ=J P W0 ep live Q l env σ:=by simp[JP]
theorem Ac4{v:V}:JL P W0 ep live Q True (some v) l d env σ=J P W0 ep live Q l ((d,v)::env) σ:=by simp[JL]
theorem zM{τ:Aj}:JT P W0 ep live Q True (some τ) l env=J P W0 ep live Q l env τ:=by simp[JT]
theorem Aur{x:X}:J P W0 ep live Q (⟨some d,.mv x,none,[]⟩::l) env σ=J P W0 ep live Q l ((d,AZ env x)::env) σ:=by unfold J;exact propext (AuE.trans (by simp))
theorem Aji{c a b:X}:J P W0 ep live Q (⟨some d,.pick c a b,none,[]⟩::l) env σ=JP P W0 ep live Q (Su (AZ env c)) l ((d,bif MQ (AZ env c) then AZ env a else AZ env b)::env) σ:=by unfold J JP;exact propext (Am6.trans (by simp[J]))
theorem Ap6{op:BinOp}{x y:X}:J P W0 ep live Q (⟨some d,.bin op x y,none,[]⟩::l) env σ=JP P W0 ep live Q (Ng op (AZ env x) (AZ env y)) l ((d,Rt op (AZ env x) (AZ env y))::env) σ:=by unfold J JP;exact propext (Aq6.trans (by simp[J]))
theorem ApP{e:Bool}{x y:X}:J P W0 ep live Q (⟨some d,.eqb e x y,none,[]⟩::l) env σ=JP P W0 ep live Q ((Su (AZ env x)/\Su (AZ env y))) l ((d,.b (if e then !(MQ (AZ env x)==MQ (AZ env y)) else MQ (AZ env x)==MQ (AZ env y)))::env) σ:=by unfold J JP;exact propext (ApQ.trans (by simp[J]))
theorem ArE{x:X}:J P W0 ep live Q (⟨some d,.not x,none,[]⟩::l) env σ=JP P W0 ep live Q (Su (AZ env x)) l ((d,.b (!(MQ (AZ env x))))::env) σ:=by unfold J JP;exact propext (AqF.trans (by simp[J]))
theorem AoI{k:IntKind}{x:X}:J P W0 ep live Q (⟨some d,.cvi k x,none,[]⟩::l) env σ=JP P W0 ep live Q (TW (AZ env x)) l ((d,.i k (k.wrap (LM (AZ env x))))::env) σ:=by unfold J JP;exact propext (ApZ.trans (by simp[J]))
theorem AaC{x:X}{off:Nat}:J P W0 ep live Q (⟨some d,.faddr x off,none,[]⟩::l) env σ=JP P W0 ep live Q (Uw (AZ env x)) l ((d,Ib (AZ env x) off)::env) σ:=by unfold J JP;exact propext (Ac8.trans (by simp[J]))
theorem Aal{x i:X}{e sz:Nat}:J P W0 ep live Q (⟨some d,.iaddr x i e sz,none,[]⟩::l) env σ=JL P W0 ep live Q (True) (Em σ sz (AZ env x) (AZ env i)) l d env σ:=by unfold J JL;exact propext (Abe.trans (by simp[J]))
theorem AsB{x i:X}:J P W0 ep live Q (⟨some d,.idx x i,none,[]⟩::l) env σ=JL P W0 ep live Q (True) (Pb (AZ env x) (AZ env i)) l d env σ:=by unfold J JL;exact propext (As7.trans (by simp[J]))
theorem Aky{x:X}{n:Nat}{e:Bool}:J P W0 ep live Q (⟨some d,.load x n e,none,[]⟩::l) env σ=JL P W0 ep live Q (True) (FP σ n e (AZ env x)) l d env σ:=by unfold J JL;exact propext (Alj.trans (by simp[J]))
theorem Adl{a x:X}{n:Nat}:J P W0 ep live Q (⟨none,.store a x n,none,[]⟩::l) env σ=JT P W0 ep live Q ((AZ env x).ok=true) (Ej σ n (AZ env x) (AZ env a)) l env:=by unfold J JT;exact propext (Abv.trans (by simp[J]))
theorem Aoi{x:X}:J P W0 ep live Q (⟨some d,.box x,none,[]⟩::l) env σ=JP P W0 ep live Q ((AZ env x).ok=true) l ((d,.ref (ep,d) 0)::env) (((ep,d),.box (AZ env x))::σ):=by unfold J JP;exact propext (Arj.trans (by simp[J]))
theorem AcV{z:V}:J P W0 ep live Q (⟨some d,.alloc z,none,[]⟩::l) env σ=JP P W0 ep live Q (True) l ((d,.ref (ep,d) 0)::env) (((ep,d),.box z)::σ):=by unfold J JP;exact propext (Abf.trans (by simp[J]))
theorem AaZ{z:List V}{ps:List (Nat×Nat×X)}:J P W0 ep live Q (⟨some d,.build z ps,none,[]⟩::l) env σ=JL P W0 ep live Q (Rz env ps) ((Eu z (psE env ps)).map V.agg) l d env σ:=by unfold J JL;exact propext (Aaq.trans (by simp[J]))
theorem Alc{e sz:Nat}{xs:List X}:J P W0 ep live Q (⟨some d,.msl true e sz xs,none,[]⟩::l) env σ=JP P W0 ep live Q (GS sz (DP env xs)) l ((d,.arr (ep,d))::env) (((ep,d),.arr e sz (DP env xs))::σ):=by unfold J JP;exact propext (AiV.trans (by simp[J]))
theorem Al6{e sz:Nat}{xs:List X}:J P W0 ep live Q (⟨some d,.msl false e sz xs,none,[]⟩::l) env σ=JP P W0 ep live Q (GS sz (DP env xs)) l ((d,.sl (DP env xs))::env) σ:=by unfold J JP;exact propext (All.trans (by simp[J]))
theorem Anx{x:X}{g e:Option X}:J P W0 ep live Q (⟨some d,.slS x g e,none,[]⟩::l) env σ=JL P W0 ep live Q (True) (Ld env g e (AZ env x)) l d env σ:=by unfold J JL;exact propext (AnZ.trans (by simp[J]))
theorem Ap0{x:X}{g e:Option X}{sz:Nat}:J P W0 ep live Q (⟨some d,.slL x g e sz,none,[]⟩::l) env σ=JL P W0 ep live Q (isL sz (AZ env x)) (KY env g e (toL (AZ env x))) l d env σ:=by unfold J JL;exact propext (ArF.trans (by simp[J]))
theorem Akf{x:X}:J P W0 ep live Q (⟨some d,.lenS x,none,[]⟩::l) env σ=JP P W0 ep live Q (isS (AZ env x)) l ((d,.i .i64 ((toS (AZ env x)).length:Nat))::env) σ:=by unfold J JP;exact propext (AiZ.trans (by simp[J]))
theorem AkJ{x:X}:J P W0 ep live Q (⟨some d,.lenL x,none,[]⟩::l) env σ=JL P W0 ep live Q (True) ((A4 σ (AZ env x)).map AlF) l d env σ:=by unfold J JL;refine propext (Ajc.trans ?_);cases A4 σ (AZ env x)<;>simp[AlF,J]
theorem AqH{s x:X}{e sz:Nat}:J P W0 ep live Q (⟨some d,.app s x e sz,none,[]⟩::l) env σ=JT P W0 ep live Q (((A4 σ (AZ env x)).isSome=true/\∀y∈(A4 σ (AZ env x)).getD [],(cells y).length=sz)) (Lz σ (ep,d) e sz ((A4 σ (AZ env x)).getD []) (AZ env s)) l ((d,.arr (ep,d))::env):=by unfold J JT;exact propext (ArA.trans (by simp[J]))
theorem Apa{x:X}{k:Nat}:J P W0 ep live Q (⟨some d,.ext x k,none,[]⟩::l) env σ=JL P W0 ep live Q (True) (SH k (AZ env x)) l d env σ:=by unfold J JL;exact propext (Apm.trans (by simp[J]))
theorem AkL{f:FuncId}{first e:List X}:J P W0 ep live Q (⟨some d,.mkfn f first e,none,[]⟩::l) env σ=J P W0 ep live Q l ((d,.fn f (DP env first) (DP env e))::env) σ:=by unfold J;exact propext (Al5.trans (by simp))
theorem AuD{e:Bool}{x:X}{xs:List X}:J P W0 ep live Q (⟨some d,.mx e x xs,none,[]⟩::l) env σ=JL P W0 ep live Q (True) (OG e (AZ env x) (DP env xs)) l d env σ:=by unfold J JL;exact propext (Auu.trans (by simp[J]))
theorem Aaj{x:X}:J P W0 ep live Q (⟨some d,.nilck x,none,[]⟩::l) env σ=JP P W0 ep live Q (isN (AZ env x)) l ((d,AZ env x)::env) σ:=by unfold J JP;exact propext (Ac1.trans (by simp[J]))
theorem Akl{a c:X}{z:V}{e sz:Nat}:J P W0 ep live Q (⟨some d,.mksl a c z e sz,none,[]⟩::l) env σ=JP P W0 ep live Q ((TW (AZ env a)/\TW (AZ env c)/\0<=LM (AZ env a)/\LM (AZ env a)<=LM (AZ env c)/\LM (AZ env c)<=AG)) l ((d,.arr (ep,d))::env) (((ep,d),.arr e sz (List.replicate (LM (AZ env a)).toNat z))::σ):=by unfold J JP;exact propext (AgO.trans (by simp[J]))
theorem Auo{k:PuK}{xs:List X}:J P W0 ep live Q (⟨some d,.pu k xs,none,[]⟩::l) env σ=JL P W0 ep live Q True (Fw k (DP env xs)) l d env σ:=by
 unfold J JL;refine propext (Cj.trans ?_);simp only[E,put,DP,true_and];cases h:Fw k (xs.map (ev (get env))) with
 | none=>simp
 | some v=>simp only[AmC,Atx,Option.getD_some,true_and];exact⟨λ⟨u,τ,⟨h1,h2⟩,h3⟩=>by subst h1;subst h2;exact h3,λh=>⟨_,_,⟨rfl,rfl⟩,h⟩⟩
theorem AqB{e:Bool}{x y:X}:J P W0 ep live Q (⟨some d,.eqr e x y,none,[]⟩::l) env σ=JL P W0 ep live Q True ((G9 σ (AZ env x) (AZ env y)).map (eqN e)) l d env σ:=by
 unfold J JL;refine propext (Cj.trans ?_);simp only[E,put,AZ,true_and];cases h:(G9 σ (ev (get env) x) (ev (get env) y)).map (eqN e) with
 | none=>simp
 | some v=>simp only[AmC,Atx,Option.getD_some,true_and];exact⟨λ⟨u,τ,⟨h1,h2⟩,h3⟩=>by subst h1;subst h2;exact h3,λh=>⟨_,_,⟨rfl,rfl⟩,h⟩⟩
theorem Ann{r:Bool}:eqN true r=.b (!r):=rfl
theorem Anb{r:Bool}:eqN false r=.b r:=rfl
theorem y7{e:Bool}:Fw (.nilq .p e) [.np]=some (eqN e true):=rfl
theorem Aak{e:Bool}{id:Id}{o:Nat}:Fw (.nilq .p e) [.ref id o]=some (eqN e false):=rfl
theorem Asr{k:RdK}{m:X}{xs:List X}:J P W0 ep live Q (⟨some d,.rdm k m xs,none,[]⟩::l) env σ=JL P W0 ep live Q True (rdV σ k (DP env xs) (AZ env m)) l d env σ:=by
 unfold J JL;refine propext (Cj.trans ?_);simp only[E,put,DP,true_and,AZ];constructor
 .rintro⟨v,σ',⟨⟨id,e,i,j,o⟩,rfl⟩,h⟩;have:rdV σ' k (xs.map (ev (get env))) (ev (get env) m)=some v:=by rw[i];simp[rdV,Zz,j,o]
  rw[this];exact⟨rfl,h⟩
 .rintro⟨i,h⟩;obtain⟨v,g⟩:=AtZ.1 i;rw[g] at h;unfold rdV at g;split at g
  .rename_i id p;unfold Zz at g;obtain⟨e,j,o⟩:=AdT.1 g;exact⟨v,σ,⟨⟨id,e,p,j,o⟩,rfl⟩,h⟩
  .cases g
theorem V1{j:Option Nat}{k:mI}{m:X}{xs:List X}{v:V}{σ':Aj}:E P W0 ep j (.wrm k m xs) (get env) σ v σ'↔wrV σ k (DP env xs) (AZ env m)=some (σ',v):=by
 simp only[E,DP,AZ];constructor
 .rintro⟨id,e,p,o,i,h,rfl⟩;rw[o];simp[wrV,wrO,i,h]
 .intro g;unfold wrV at g;split at g
  .rename_i id t;unfold wrO at g;obtain⟨e,i,h⟩:=AdT.1 g;obtain⟨r,q,s⟩:=AeC.1 h;grind
  .cases g
theorem Ala{k:mI}{m:X}{xs:List X}:J P W0 ep live Q (⟨none,.wrm k m xs,none,[]⟩::l) env σ=JT P W0 ep live Q True ((wrV σ k (DP env xs) (AZ env m)).map (·.1)) l env:=by
 unfold J JT;refine propext (Cj.trans ?_);simp only[V1,put,true_and];cases h:wrV σ k (DP env xs) (AZ env m) with
 | none=>simp
 | some p=>obtain⟨τ,v⟩:=p;simp only[AmC,Ay8,Axy,Atx,Option.getD_some,true_and];exact⟨λ⟨u,ρ,⟨h1,h2⟩,h3⟩=>by subst h1;subst h2;exact h3,λh=>⟨_,_,⟨rfl,rfl⟩,h⟩⟩
theorem Aru{k:mI}{m:X}{xs:List X}:J P W0 ep live Q (⟨some d,.wrm k m xs,none,[]⟩::l) env σ=JW P W0 ep live Q (wrV σ k (DP env xs) (AZ env m)) l d env:=by
 unfold J JW;refine propext (Cj.trans ?_);simp only[V1,put];constructor
 .rintro⟨v,σ',e,g⟩;exact⟨(σ',v),e,g⟩
 .rintro⟨p,e,g⟩;exact⟨p.2,p.1,e,g⟩
theorem Apn{k:MkK}{xs:List X}:J P W0 ep live Q (⟨some d,.mkm k xs,none,[]⟩::l) env σ=JM P W0 ep live Q k (VD k (DP env xs)) l d env σ:=by
 unfold J JM;refine propext (Cj.trans ?_);simp only[E,put,DP];constructor
 .rintro⟨v,σ',⟨j,e,g,i,rfl,rfl⟩,h⟩;cases g;exact⟨e,i,h⟩
 .rintro⟨e,g,h⟩;exact⟨_,_,⟨d,e,rfl,g,rfl,rfl⟩,h⟩
theorem Ajh{s x:X}{e:TypeId}:J P W0 ep live Q (⟨some d,.apps s x e,none,[]⟩::l) env σ=JWP P W0 ep live Q (M3 σ (AZ env s)+NB (AZ env x)<=AG) (V5 σ (ep,d) e (AZ env s) (AZ env x)) l d env:=by
 unfold J JWP;refine propext (Cj.trans ?_);simp only[E,put,AZ];constructor
 .rintro⟨v,σ',⟨z,b,t,u,rfl,j⟩,h⟩;cases t;rw[u];split at j
  .rename_i i;obtain⟨o,rfl⟩:=j;rw[i];exact⟨(((ep,d),.arr e 1 (Az b))::σ,.arr (ep,d)),rfl,by simpa[M3,NB] using o,h⟩
  .rename_i id i;obtain⟨es,o,w,rfl⟩:=j;rw[i];exact⟨(((ep,d),.arr e 1 (es++Az b))::del σ id,.arr (ep,d)),by simp[V5,Oj,o,Q8],by simpa[M3,Rj,NB,o] using w,h⟩
  .exact j.elim
 .rintro⟨q,g,hp,h⟩;unfold V5 at g;split at g
  .rename_i b p;rw[p] at hp;unfold Oj at g;split at g
   .rename_i i;cases g;refine⟨_,_,⟨d,b,rfl,p,rfl,?_⟩,h⟩;rw[i] at hp⊢;exact⟨by simpa[M3,NB] using hp,rfl⟩
   .rename_i id i;unfold Q8 at g;split at g
    .rename_i A sz es r;split at g
     .rename_i y;obtain⟨rfl,rfl⟩:=y;cases g;refine⟨_,_,⟨d,b,rfl,p,rfl,?_⟩,h⟩;rw[i] at hp⊢;exact⟨es,r,by simpa[M3,Rj,NB,r] using hp,rfl⟩
     .cases g
    .cases g
   .cases g
  .cases g
theorem cB{p:Prop}{q:Aj×V}:JWP P W0 ep live Q p (some q) l d env=JP P W0 ep live Q p l ((d,q.2)::env) q.1:=by unfold JWP;grind
theorem Ap8{x j:X}{sz:Nat}:J P W0 ep live Q (⟨some d,.slT x j sz,none,[]⟩::l) env σ=JW P W0 ep live Q (Abo σ (ep,d) sz (AZ env j) (AZ env x)) l d env:=by
 unfold J JW;refine propext (Cj.trans ?_);simp only[E,put,AZ,Ft];constructor
 .rintro⟨v,σ',⟨w,id,e,es,q,i,o,p,z,A,rfl,rfl⟩,h⟩;cases i;refine⟨(((ep,d),.arr e sz (es.take q))::del σ id,.arr (ep,d)),?_,h⟩;rw[o];simp only[Abo,p,gL];grind
 .rintro⟨q,g,h⟩;unfold Abo at g;split at g
  .rename_i id s;unfold gL at g;split at g
   .rename_i e u es r;split at g
    .rename_i t;subst t;split at g
     .rename_i k n B;split at g
      .rename_i y;split at g
       .rename_i i;cases g;exact⟨_,_,⟨d,id,e,es,n.toNat,rfl,s,r,by grind,i,rfl,rfl⟩,h⟩
       .cases g
      .cases g
     .cases g
    .cases g
   .cases g
  .cases g
theorem dV{e id:Id}{sz:Nat}{h:V}:Abo σ e sz h (.arr id)=gL σ id e sz h (lk σ id):=rfl
theorem eC{g id:Id}{sz h:Nat}{k:IntKind}{n:Int}{e:TypeId}{es:List V}:gL σ id g sz (.i k n) (some (.arr e h es))=if h=sz then(if 0<=n then(if n.toNat<=es.length then some ((g,.arr e sz (es.take n.toNat))::del σ id,.arr g) else none) else none) else none:=rfl
theorem Aav{g:Id}{e:TypeId}{s:V}{b:List UInt8}:V5 σ g e s (.s b)=Oj σ g e b s:=rfl
theorem YI{g:Id}{e:TypeId}{b:List UInt8}:Oj σ g e b .nil=some ((g,.arr e 1 (Az b))::σ,.arr g):=rfl
theorem aS{g id:Id}{e:TypeId}{b:List UInt8}:Oj σ g e b (.arr id)=Q8 σ id g e b (lk σ id):=rfl
theorem Zb{g id:Id}{e h:TypeId}{sz:Nat}{es:List V}{b:List UInt8}:Q8 σ id g e b (some (.arr h sz es))=if h=e/\sz=1 then some ((g,.arr e 1 (es++Az b))::del σ id,.arr g) else none:=rfl
theorem bG:M3 σ .nil=0:=rfl
theorem ZI{id:Id}:M3 σ (.arr id)=Rj (lk σ id):=rfl
theorem Yu{e:TypeId}{sz:Nat}{es:List V}:Rj (some (.arr e sz es))=es.length:=rfl
theorem AaH{b:List UInt8}:NB (.s b)=b.length:=rfl
theorem Ns{c:V}:cells c=[c]↔Nm c=false:=by
 cases c<;>simp[cells,Nm];rename_i cs
 match cs with
 | []=>simp
 | [x]=>
  intro h;have e:x=.agg [x]:=by simpa using h
  have g:SizeOf.sizeOf x=SizeOf.sizeOf (V.agg [x]):=by rw[<-e]
  simp at g;omega
 | _::_::_=>simp
theorem ArO{m:X}{k:Nat}:J P W0 ep live Q (⟨some d,.frz m k,none,[]⟩::l) env σ=JW P W0 ep live Q (Aa7 σ k (AZ env m)) l d env:=by
 unfold J JW;refine propext (Cj.trans ?_);simp only[E,put,AZ];constructor
 .rintro⟨v,σ',⟨id,cs,g,i,j,o,rfl,rfl⟩,h⟩;refine⟨(del σ id,.sl cs),?_,h⟩;rw[g];simp only[Aa7,i,cR];rw[if_pos ⟨j,AmF.2 λc e=>by rw[Ns.1 (o c e)];rfl⟩]
 .rintro⟨p,hp,h⟩;unfold Aa7 at hp;split at hp
  .rename_i id s;unfold cR at hp;split at hp
   .rename_i cs r;split at hp
    .rename_i e;cases hp;exact⟨_,_,⟨id,cs,s,r,e.1,λc q=>Ns.2 (by grind),rfl,rfl⟩,h⟩
    .cases hp
   .cases hp
  .cases hp
theorem mO{m:X}:J P W0 ep live Q (⟨some d,.mrange m,none,[]⟩::l) env σ=JW P W0 ep live Q (KK σ (ep,d) (AZ env m)) l d env:=by
 unfold J JW;refine propext (Cj.trans ?_);simp only[E,put,AZ];constructor
 .rintro⟨v,σ',⟨q,mid,es,e,g,i,rfl,rfl⟩,h⟩;cases e;refine⟨(((ep,d),.mit mid es.length [] es.length)::σ,.arr (ep,d)),?_,h⟩;rw[g];simp only[KK,i,IF]
 .rintro⟨p,hp,h⟩;unfold KK at hp;split at hp
  .rename_i mid o;unfold IF at hp;split at hp
   .rename_i es j;cases hp;exact⟨_,_,⟨d,mid,es,rfl,o,j,rfl,rfl⟩,h⟩
   .cases hp
  .cases hp
theorem vN{m:X}:J P W0 ep live Q (⟨some d,.mentry m,none,[]⟩::l) env σ=JL P W0 ep live Q True (IG σ (AZ env m)) l d env σ:=by
 unfold J JL;refine propext (Cj.trans ?_);simp only[E,put,AZ,true_and];constructor
 .rintro⟨v,σ',⟨id,mid,g,seen,i,es,o,p,w,q,r,s,rfl,rfl⟩,h⟩;have:IG σ' (ev (get env) m)=some (.tup [o.1,o.2]):=by rw[p];simp[IG,Jg,IQ,w,q,r,s]
  rw[this];exact⟨rfl,h⟩
 .rintro⟨p,h⟩;obtain⟨v,e⟩:=AtZ.1 p;rw[e] at h;unfold IG at e;split at e
  .rename_i id A;unfold Jg at e;split at e
   .rename_i mid g seen j z;unfold IQ at e;split at e
    .rename_i es t;split at e
     .rename_i u;subst u;obtain⟨i,q,r⟩:=AdT.1 e;obtain⟨o,s,y⟩:=AeC.1 r;subst y;exact⟨_,_,⟨id,mid,g,seen,i,es,o,A,z,q,t,s,rfl,rfl⟩,h⟩
     .cases e
    .cases e
   .cases e
  .cases e
theorem mY{id:Id}{n:Nat}:Aa7 σ n (.ref id 0)=cR σ id n (lk σ id):=rfl
theorem wT{id:Id}{n:Nat}{cs:List V}:cR σ id n (some (.box (.agg cs)))=if cs.length=n/\cs.all (λc=>!Nm c)=true then some (del σ id,.sl cs) else none:=rfl
theorem Qg{e mid:Id}:KK σ e (.arr mid)=IF σ e mid (lk σ mid):=rfl
theorem RD{e mid:Id}{es:List (V×V)}:IF σ e mid (some (.map es))=some ((e,.mit mid es.length [] es.length)::σ,.arr e):=rfl
theorem RX{id:Id}:IG σ (.arr id)=Jg σ (lk σ id):=rfl
theorem Rn{mid:Id}{g e:Nat}{seen:List Nat}:Jg σ (some (.mit mid g seen e))=IQ seen.getLast? e (lk σ mid):=rfl
theorem QA{i:Option Nat}{e:Nat}{es:List (V×V)}:IQ i e (some (.map es))=if e=es.length then i.bind λi=>(es[i]?).map λg=>.tup [g.1,g.2] else none:=rfl
theorem iF{e:Bool}:Fw (.isnil e) [.nil]=some (.b (!e)):=rfl
theorem qY{e:Bool}:Fw (.isnil e) [.sl []]=some .ub:=rfl
theorem qN{e:Bool}{x:V}{xs:List V}:Fw (.isnil e) [.sl (x::xs)]=some (.b e):=rfl
theorem Apl{t:Bool}:Nm (.b t)=false:=rfl
theorem AqU{k:IntKind}{n:Int}:Nm (.i k n)=false:=rfl
theorem AnI{s:List UInt8}:Nm (.s s)=false:=rfl
theorem AcW{τ:Aj}{v:V}:JW P W0 ep live Q (some (τ,v)) l d env=J P W0 ep live Q l ((d,v)::env) τ:=by unfold JW;simp
theorem Abn{k:MkK}{e:A5}:JM P W0 ep live Q k (some e) l d env σ=J P W0 ep live Q l ((d,yS k (ep,d))::env) (((ep,d),e)::σ):=by unfold JM;simp
theorem AaV{k:RdK}{xs:List V}{id:Id}:rdV σ k xs (.arr id)=Zz k xs (lk σ id):=rfl
theorem zB{k:mI}{xs:List V}{id:Id}:wrV σ k xs (.arr id)=wrO σ id k xs (lk σ id):=rfl
theorem eT{e:Cv}{z:V}{ok:Bool}{es:List (V×V)}{k:V}:Zz (.mget e z ok) [k] (some (.map es))=(Bt e k es 0).map λr=>match r with
  | some (_,v)=>if ok then .tup [v,.b true] else v
  | none=>if ok then .tup [z,.b false] else z:=rfl
theorem nF{es:List (V×V)}:Zz .mlen [] (some (.map es))=some (.i .i64 es.length):=rfl
theorem kD{g:Cv}{id:Id}{es:List (V×V)}{k v:V}:wrO σ id (.mput g) [k,v] (some (.map es))=(Bt g k es 0).map λr=>match r with
  | some (i,_)=>(upd σ id (.map (es.modify i λe=>(e.1,v))),.tup [])
  | none=>(upd σ id (.map (es++[(k,v)])),.tup []):=by
 simp only[wrO,tD,AyA,Option.map_map];congr 1;grind
theorem lN{id:Id}{s:List UInt8}{e:Nat}:wrO σ id .next [] (some (.it s e))=if e<s.length then some (upd σ id (.it s (e+(Utf8.decode ⟨s.toArray⟩ e).2)),.tup [.b true,.i .i64 e,.i .i32 (Utf8.decode ⟨s.toArray⟩ e).1]) else some (upd σ id (.it s e),.tup [.b false]):=by simp only[wrO,tD,AyA];split<;>rfl
theorem Aaz{id:Id}:yS .mkmap id=.arr id:=rfl
theorem Ajq{id:Id}:yS .strit id=.arr id:=rfl
theorem iY{t:TypeId}{z:V}{id:Id}:yS (.tnew t z) id=.ref id 0:=rfl
theorem zI{t:TypeId}{id:Id}:yS (.tbx t) id=.ref id 0:=rfl
theorem oK{t:TypeId}{z:V}:VD (.tnew t z) []=some (.tbox t z):=rfl
theorem Adc{t:TypeId}{x:V}:VD (.tbx t) [x]=if x.ok=true then some (.tbox t x) else none:=rfl
theorem Abj:VD .mkmap []=some (.map []):=rfl
theorem AjR{s:List UInt8}:VD .strit [.s s]=some (.it s 0):=rfl
theorem lO{k:IntKind}{n:Int}:Fw .itos [.i k n]=some (.s (Utf8.encode n).data.toList):=rfl
theorem xO{es:List V}:Fw .btos [.sl es]=(EP es).map .s:=rfl
theorem Zy:Fw .btos [.nil]=some (.s []):=rfl
theorem qZ{n sz off:Nat}{id:Id}{k:IntKind}{i:Int}:Fw (.aidx n sz) [.ref id off,.i k i]=if 0<=i/\i<(n:Int) then some (.ref id (off+i.toNat*sz)) else none:=rfl
theorem AvF{d:Option Nat}{op:AE}{s:Nat}{e:Bool}{ap:List X}:J P W0 ep live Q (⟨d,op,some (s,e),ap⟩::l) env σ=Vt P W0 ep live Q (get env s) e d op ap l env σ:=by
 unfold J Vt;simp only[J,Av,Cl,HY];cases get env s with
 | tup l=>cases l<;>rfl
 | _=>rfl
theorem dZ{d:Option Nat}{op:AE}{ap:List X}:Vt P W0 ep live Q (.b true) true d op ap l env σ=J P W0 ep live Q (⟨d,op,none,ap⟩::l) env σ:=by simp[Vt,HY]
theorem iN{d:Option Nat}{op:AE}{ap:List X}:Vt P W0 ep live Q (.b false) false d op ap l env σ=J P W0 ep live Q (⟨d,op,none,ap⟩::l) env σ:=by simp[Vt,HY]
theorem gO{d:Option Nat}{op:AE}{ap:List X}:Vt P W0 ep live Q (.b true) false d op ap l env σ=J P W0 ep live Q l (put env d (.tup [])) σ:=by simp[Vt,HY]
theorem yB{d:Option Nat}{op:AE}{ap:List X}:Vt P W0 ep live Q (.b false) true d op ap l env σ=J P W0 ep live Q l (put env d (.tup [])) σ:=by simp[Vt,HY]
theorem AqL{d:Option Nat}{op:AE}{ap:List X}{w:Bool}:Vt P W0 ep live Q (.tup []) w d op ap l env σ=J P W0 ep live Q l (put env d (.tup [])) σ:=by simp[Vt,HY]
theorem Ah{d:Option Nat}{op:AE}{ap:List X}{t:Bool}(e:t=true->J P W0 ep live Q (⟨d,op,none,ap⟩::l) env σ)(g:t=false->J P W0 ep live Q l (put env d (.tup [])) σ):Vt P W0 ep live Q (.b t) true d op ap l env σ:=by
 cases t
 .rw[yB];exact g rfl
 .rw[dZ];exact e rfl
theorem Ag{d:Option Nat}{op:AE}{ap:List X}{t:Bool}(e:t=false->J P W0 ep live Q (⟨d,op,none,ap⟩::l) env σ)(g:t=true->J P W0 ep live Q l (put env d (.tup [])) σ):Vt P W0 ep live Q (.b t) false d op ap l env σ:=by
 cases t
 .rw[iN];exact e rfl
 .rw[gO];exact g rfl
theorem Vf{g:Nat->V}{ys:List X}:∀{ap:List X},(∀x∈ap,∀y∈ys,∀id,BP (ev g x)=some id->BP (ev g y)≠some id)↔yL (ap.map (ev g)) (ys.map (ev g))
 | []=>by simp[yL]
 | x::ap=>by have:=Vf (g:=g) (ys:=ys) (ap:=ap);simp only[AmB,yL,<-this,AmK,forall_eq_or_imp,AmO,forall_exists_index,and_imp,forall_apply_eq_imp_iff₂]
theorem AnV{d:Option Nat}{op:AE}{x:X}{ap:List X}(e:op.cl=false):J P W0 ep live Q (⟨d,op,none,x::ap⟩::l) env σ=JP P W0 ep live Q (yL (DP env (x::ap)) (DP env op.cs)) (⟨d,op,none,[]⟩::l) env σ:=by unfold J JP;refine propext ((AtY e).trans ?_);rw[show Za ⟨d,op,none,x::ap⟩ (get env)↔yL (DP env (x::ap)) (DP env op.cs) from Vf];rfl
theorem AiQ{f:FuncId}{args:List X}:J P W0 ep live Q (⟨some d,.call f args,none,[]⟩::l) env σ=So P W0 ep live Q f (DP env args) l d env σ:=by unfold J So;refine propext (Cj.trans ?_);simp only[E,put,DP];exact⟨λ⟨v,_,⟨e,rfl⟩,g⟩=>⟨v,e,g⟩,λ⟨v,e,g⟩=>⟨v,_,⟨e,rfl⟩,g⟩⟩
theorem Ac6{f:FuncId}{args:List X}:J P W0 ep live Q (⟨some d,.calls f args,none,[]⟩::l) env σ=Ip P W0 ep live Q f (DP env args) l d env σ:=by unfold J Ip;refine propext (Cj.trans ?_);simp only[E,put,DP];exact⟨λ⟨v,_,⟨σi,σo,e,h,rfl⟩,g⟩=>⟨v,σi,σo,e,h,g⟩,λ⟨v,σi,σo,e,h,g⟩=>⟨v,_,⟨σi,σo,e,h,rfl⟩,g⟩⟩
theorem Aam{f:FuncId}{args:List X}:J P W0 ep live Q (⟨some d,.callr f args,none,[]⟩::l) env σ=SY P W0 ep live Q f (DP env args) l d env σ:=by unfold J SY;refine propext (Cj.trans ?_);simp only[E,put,DP];exact⟨λ⟨v,_,⟨⟨σi,e,h⟩,rfl⟩,g⟩=>⟨v,σi,e,h,g⟩,λ⟨v,σi,e,h,g⟩=>⟨v,_,⟨⟨σi,e,h⟩,rfl⟩,g⟩⟩
theorem Aby{f:FuncId}{args:List X}:J P W0 ep live Q (⟨some d,.calln f args,none,[]⟩::l) env σ=Uf P W0 ep live Q f (DP env args) l d env σ:=by unfold J Uf;refine propext (Cj.trans ?_);simp only[E,put,DP];exact⟨λ⟨v,_,⟨dd,σi,σo,x,hd,e,h,hv,rfl⟩,g⟩=>by cases hd;subst hv;exact⟨x,σi,σo,e,h,g⟩,λ⟨x,σi,σo,e,h,g⟩=>⟨_,_,⟨d,σi,σo,x,rfl,e,h,rfl,rfl⟩,g⟩⟩
theorem iV{x:X}{args:List X}:J P W0 ep live Q (⟨some d,.callvs x args,none,[]⟩::l) env σ=KU P W0 ep live Q (AZ env x) (DP env args) l d env σ:=by
 unfold J;refine propext (Cj.trans ?_);simp only[E,put];constructor
 .rintro⟨v,_,⟨⟨f,first,e,σi,σo,o,g,j,rfl⟩,i⟩⟩;unfold KU AZ;rw[o];exact⟨v,σi,σo,g,j,i⟩
 .intro h;unfold KU AZ at h;split at h
  .rename_i f first e o
   obtain⟨v,σi,σo,g,j,i⟩:=h;exact⟨v,_,⟨f,first,e,σi,σo,o,g,j,rfl⟩,i⟩
  .cases h
theorem yM{d:Option Nat}{x y:X}{n m:Nat}{z:X}{ap:List X}:J P W0 ep live Q (⟨d,.app x y n m,none,z::ap⟩::l) env σ=JP P W0 ep live Q (yL (DP env (z::ap)) (DP env (AE.app x y n m).cs)) (⟨d,.app x y n m,none,[]⟩::l) env σ:=AnV rfl
theorem Ze{d:Option Nat}{x:X}{n:Nat}{b:Bool}{z:X}{ap:List X}:J P W0 ep live Q (⟨d,.load x n b,none,z::ap⟩::l) env σ=JP P W0 ep live Q (yL (DP env (z::ap)) (DP env (AE.load x n b).cs)) (⟨d,.load x n b,none,[]⟩::l) env σ:=AnV rfl
theorem Uh{f:FuncId}{first e vs g:List V}:Ac7 P W0 ep live Q (.fn f first e) vs g l d env σ=UQ P W0 ep live Q f (first++vs++e) g l d env σ:=rfl
theorem YW{f:FuncId}{first e vs:List V}:AgV P W0 ep live Q (.fn f first e) vs l d env σ=So P W0 ep live Q f (first++vs++e) l d env σ:=rfl
theorem SO{f:FuncId}{first e vs:List V}:KU P W0 ep live Q (.fn f first e) vs l d env σ=Ip P W0 ep live Q f (first++vs++e) l d env σ:=rfl
theorem Ac{f:FuncId}{vs:List V}{v:V}(h:Al P W0 f vs [] v [])(e:J P W0 ep live Q l ((d,v)::env) σ):So P W0 ep live Q f vs l d env σ:=⟨v,h,e⟩
theorem Vz{f:FuncId}{vs:List V}{v:V}{σi:Aj}(h:Al P W0 f vs σi v σi)(i:∀id e,lk σi id=some e->lk σ id=some e)(g:J P W0 ep live Q l ((d,v)::env) σ):SY P W0 ep live Q f vs l d env σ:=⟨v,σi,h,i,g⟩
theorem Bx{f:FuncId}{vs:List V}{v:V}{σi σo:Aj}(h:Al P W0 f vs σi v σo)(i:∀id e,lk σi id=some e->lk σ id=some e)(g:J P W0 ep live Q l ((d,v)::env) (over σi σo σ)):Ip P W0 ep live Q f vs l d env σ:=⟨v,σi,σo,h,i,g⟩
theorem KT{f:FuncId}{vs:List V}{x:A5}{σi σo:Aj}(h:J0 P W0 f vs σi x σo)(i:∀id e,lk σi id=some e->lk σ id=some e)(g:J P W0 ep live Q l ((d,.arr (ep,d))::env) (((ep,d),x)::over σi σo σ)):Uf P W0 ep live Q f vs l d env σ:=⟨x,σi,σo,h,i,g⟩
theorem xX{f:FuncId}{vs:List V}{v:V}(h:Al P W0 f vs [] v [])(g:J P W0 ep live Q l ((d,v)::env) σ):Ip P W0 ep live Q f vs l d env σ:=by
 refine⟨v,[],[],h,λid e h=>by simp[lk] at h,?_⟩;have:over [] [] σ=σ:=by simp[over,lk]
 rw[this];exact g
end
@[irreducible] def GW(P:Program)(W0:World)(nt:Nat)(c:IC)(Q:Exit->St->Prop)(st:St):Prop:=Fv P W0 nt (.loop c) Q st
@[irreducible] def Nz(P:Program)(W0:World)(nt:Nat)(e g:Nat)(x:X)(live:List Nat)(Q:Exit->St->Prop)(st:St):Prop:=Fv P W0 nt (.mnext e g x live) Q st
@[irreducible] def WkW(P:Program)(W0:World)(nt:Nat)(c:IC)(Q:Exit->St->Prop)(st:St):Prop:=Fv P W0 nt c Q st
def Ha(P:Program)(W0:World)(n:Nat)(d:Nat)(f:FuncId)(vs:List V)(l2:List I)(live:List Nat)(Q:Exit->St->Prop)(env:A9)(σ:Aj):Prop:=
 J3 P W0 n d f vs env σ λe env σ=>J P W0 e live Q l2 env σ
def MO(P:Program)(W0:World)(d:Nat)(f:FuncId)(args:List X)(l2:List I)(live:List Nat)(Q:Exit->St->Prop):Exit->St->Prop
 | .normal,st=>Ha P W0 st.n d f (DP st.env args) l2 live Q st.env st.σ
 | _,_=>False
def Pj(P:Program)(W0:World)(d g:Nat)(e:Bool)(f:FuncId)(args:List X)(l2:List I)(live:List Nat)(Q:Exit->St->Prop):Exit->St->Prop
 | .normal,st=>yR (get st.env g) e (Ha P W0 st.n d f (DP st.env args) l2 live Q st.env st.σ) (J P W0 st.n live Q l2 ((d,.tup [])::st.env) st.σ)
 | _,_=>False
theorem Ahz{A B:Prop}:yR (.b true) true A B=A:=by simp[yR]
theorem Ako{A B:Prop}:yR (.b false) true A B=B:=by simp[yR]
def Ur(P:Program)(W0:World)(n:Nat)(d:Nat)(vs:List V)(l2:List I)(live:List Nat)(Q:Exit->St->Prop)(env:A9)(σ:Aj):Prop:=
 Ae5 P W0 n d vs env σ λe env σ=>J P W0 e live Q l2 env σ
def Hu(P:Program)(W0:World)(n:Nat)(d:Nat)(h:V)(vs:List V)(l2:List I)(live:List Nat)(Q:Exit->St->Prop)(env:A9)(σ:Aj):Prop:=
 match h with
 | .fn f first e=>Ha P W0 n d f (first++vs++e) l2 live Q env σ
 | .arr id=>Ur P W0 n d (.arr id::vs) l2 live Q env σ
 | _=>False
def PF(P:Program)(W0:World)(d:Nat)(x:X)(args:List X)(l2:List I)(live:List Nat)(Q:Exit->St->Prop):Exit->St->Prop
 | .normal,st=>Hu P W0 st.n d (AZ st.env x) (DP st.env args) l2 live Q st.env st.σ
 | _,_=>False
def AhR(P:Program)(W0:World)(nt:Nat)(g:X)(ps:List Nat)(a b:IC)(e live:List Nat)(Q:Exit->St->Prop)(st:St):Prop:=Fv P W0 nt (.rfn g ps a b e live) Q st
def aW(P:Program)(W0:World)(nt:Nat):IC->(Exit->St->Prop)->St->Prop
 | .ops l live _,Q,st=>J P W0 st.n live Q l st.env st.σ
 | .seqr l live,Q,st=>J P W0 st.n live Q l st.env st.σ
 | .seq a b,Q,st=>aW P W0 nt a (λe s=>match e with|.normal=>aW P W0 nt b Q s|e=>Q e s) st
 | .cond c a b,Q,st=>match AZ st.env c with|.b true=>aW P W0 nt a Q st|.b false=>aW P W0 nt b Q st|.ub=>aW P W0 nt a Q st/\aW P W0 nt b Q st|_=>False
 | .mnext j o x live,Q,st=>Nz P W0 nt j o x live Q st
 | .block id a,Q,st=>aW P W0 nt a (De id Q) st
 | .loop c,Q,st=>GW P W0 nt c Q st
 | .wk c,Q,st=>WkW P W0 nt c Q st
 | .opx l1 h d f args l2 live,Q,st=>J P W0 st.n h (MO P W0 d f args l2 live Q) l1 st.env st.σ
 | .opxq l1 h d g i f args l2 live,Q,st=>J P W0 st.n h (Pj P W0 d g i f args l2 live Q) l1 st.env st.σ
 | .opxd l1 h d f args live _,Q,st=>J P W0 st.n h (MO P W0 d f args [] live Q) l1 st.env st.σ
 | .opxv l1 h d x args l2 live,Q,st=>J P W0 st.n h (PF P W0 d x args l2 live Q) l1 st.env st.σ
 | .opxe ..,Q,st=>False
 | .anyr ..,Q,st=>False
 | .scope _,Q,st=>False
 | .rfn g ps a b p live,Q,st=>AhR P W0 nt g ps a b p live Q st
 | .exit id,Q,st=>Q (.exit id) st
 | .ret,Q,st=>Q .ret st
 | .skip,Q,st=>Q .normal st
def N5(P:Program)(W0:World)(nt:Nat)(b:IC)(Q:Exit->St->Prop)(e:Exit)(s:St):Prop:=match e with|.normal=>aW P W0 nt b Q s|e=>Q e s
def QH(P:Program)(W0:World)(nt:Nat)(v:V)(a b:IC)(Q:Exit->St->Prop)(env:A9)(σ:Aj)(n:Nat):Prop:=match v with|.b true=>aW P W0 nt a Q ⟨env,σ,n⟩|.b false=>aW P W0 nt b Q ⟨env,σ,n⟩|.ub=>aW P W0 nt a Q ⟨env,σ,n⟩/\aW P W0 nt b Q ⟨env,σ,n⟩|_=>False
section
variable{P:Program}{W0:World}{nt n:Nat}{Q Q':Exit→St→Prop}{env:A9}{σ:Aj}{a b c:IC}{st:St}
theorem Ahj{l:List I}{live:List Nat}{paths:List (List Nat)}:aW P W0 nt (.ops l live paths) Q ⟨env,σ,n⟩=J P W0 n live Q l env σ:=rfl
theorem AbD{l:List I}{live:List Nat}:aW P W0 nt (.seqr l live) Q ⟨env,σ,n⟩=J P W0 n live Q l env σ:=rfl
theorem Ami:aW P W0 nt (.seq a b) Q ⟨env,σ,n⟩=aW P W0 nt a (N5 P W0 nt b Q) ⟨env,σ,n⟩:=rfl
theorem Aau{x:X}:aW P W0 nt (.cond x a b) Q ⟨env,σ,n⟩=QH P W0 nt (AZ env x) a b Q env σ n:=rfl
theorem eG{id:Nat}:aW P W0 nt (.block id a) Q ⟨env,σ,n⟩=aW P W0 nt a (De id Q) ⟨env,σ,n⟩:=rfl
theorem Ab5:aW P W0 nt (.loop c) Q ⟨env,σ,n⟩=GW P W0 nt c Q ⟨env,σ,n⟩:=rfl
theorem ApL:aW P W0 nt (.wk c) Q ⟨env,σ,n⟩=WkW P W0 nt c Q ⟨env,σ,n⟩:=rfl
theorem zO{id:Nat}:aW P W0 nt (.exit id) Q ⟨env,σ,n⟩=Q (.exit id) ⟨env,σ,n⟩:=rfl
theorem Ak5:aW P W0 nt .ret Q ⟨env,σ,n⟩=Q .ret ⟨env,σ,n⟩:=rfl
theorem Aaw:aW P W0 nt .skip Q ⟨env,σ,n⟩=Q .normal ⟨env,σ,n⟩:=rfl
theorem Aax:QH P W0 nt (.b true) a b Q env σ n=aW P W0 nt a Q ⟨env,σ,n⟩:=rfl
theorem Abx:QH P W0 nt (.b false) a b Q env σ n=aW P W0 nt b Q ⟨env,σ,n⟩:=rfl
theorem uC:QH P W0 nt .ub a b Q env σ n=(aW P W0 nt a Q ⟨env,σ,n⟩/\aW P W0 nt b Q ⟨env,σ,n⟩):=rfl
theorem kF{e g:Nat}{x:X}{live:List Nat}:aW P W0 nt (.mnext e g x live) Q ⟨env,σ,n⟩=Nz P W0 nt e g x live Q ⟨env,σ,n⟩:=rfl
theorem AjG{g:X}{ps e live:List Nat}:aW P W0 nt (.rfn g ps a b e live) Q ⟨env,σ,n⟩=AhR P W0 nt g ps a b e live Q ⟨env,σ,n⟩:=rfl
theorem Ab{t:Bool}(e:t=true->aW P W0 nt a Q ⟨env,σ,n⟩)(g:t=false->aW P W0 nt b Q ⟨env,σ,n⟩):QH P W0 nt (.b t) a b Q env σ n:=by
 cases t
 .exact g rfl
 .exact e rfl
theorem PD{d:Nat}{f:FuncId}{args:List X}{l2:List I}{live:List Nat}:MO P W0 d f args l2 live Q .normal ⟨env,σ,n⟩=Ha P W0 n d f (DP env args) l2 live Q env σ:=rfl
theorem HK{d g:Nat}{e:Bool}{f:FuncId}{args:List X}{l2:List I}{live:List Nat}:Pj P W0 d g e f args l2 live Q .normal ⟨env,σ,n⟩=yR (get env g) e (Ha P W0 n d f (DP env args) l2 live Q env σ) (J P W0 n live Q l2 ((d,.tup [])::env) σ):=rfl
theorem Nn{d:Nat}{x:X}{args:List X}{l2:List I}{live:List Nat}:PF P W0 d x args l2 live Q .normal ⟨env,σ,n⟩=Hu P W0 n d (AZ env x) (DP env args) l2 live Q env σ:=rfl
theorem U4{d:Nat}{f:FuncId}{first e vs:List V}{l2:List I}{live:List Nat}:Hu P W0 n d (.fn f first e) vs l2 live Q env σ=Ha P W0 n d f (first++vs++e) l2 live Q env σ:=rfl
theorem Re{d:Nat}{id:Id}{vs:List V}{l2:List I}{live:List Nat}:Hu P W0 n d (.arr id) vs l2 live Q env σ=Ur P W0 n d (.arr id::vs) l2 live Q env σ:=rfl
theorem Ads{d:Nat}{vs:List V}{l2:List I}{live:List Nat}{σi:Aj}{R:Nat->Nat->V->Aj->Prop}(h:Ui P W0 vs σi R)(j:∀id e,lk σi id=some e->lk σ id=some e)
  (i:∀g v σo,n<=g->R n g v σo->J P W0 g live Q l2 ((d,v)::env) (over σi σo σ)):Ur P W0 n d vs l2 live Q env σ:=⟨σi,R,h,j,i⟩
theorem Bd{d:Nat}{f:FuncId}{vs:List V}{l2:List I}{live:List Nat}{σi:Aj}{R:Nat->Nat->V->Aj->Prop}(h:Ex P W0 f vs σi R)(j:∀id e,lk σi id=some e->lk σ id=some e)
  (i:∀g v σo,n<=g->R n g v σo->J P W0 g live Q l2 ((d,v)::env) (over σi σo σ)):Ha P W0 n d f vs l2 live Q env σ:=⟨σi,R,h,j,i⟩
theorem OH:N5 P W0 nt b Q .normal st=aW P W0 nt b Q st:=rfl
theorem TF{k:Nat}:N5 P W0 nt b Q (.exit k) st=Q (.exit k) st:=rfl
theorem Zc:N5 P W0 nt b Q .ret st=Q .ret st:=rfl
theorem BT:∀{ic:IC} {Q:Exit->St->Prop} {st:St},aW P W0 nt ic Q st->Fv P W0 nt ic Q st
 | .ops l live paths,Q,st,h=>by refine Wd ?_;refine BJ (λenv σ w n' U=>?_) h;have:=w (n'-(st.n+1));grind
 | .seqr l live,Q,st,h=>by refine sF ?_;refine BJ (λenv σ w n' U=>?_) h;have:=w (n'-(st.n+1));grind
 | .seq a b,Q,st,h=>by
  refine Acl (Ls (BT h) λe s N=>?_);cases e with
  | normal=>exact BT (ic:=b) N
  | _=>exact N
 | .cond c a b,Q,st,h=>by
  simp only[aW] at h;split at h
  .rename_i F;exact Sh F (λ_=>BT h) (λh=>by cases h)
  .rename_i F;exact Sh F (λh=>by cases h) (λ_=>BT h)
  .rename_i F;exact Yt F (BT h.1) (BT h.2)
  .cases h
 | .mnext O S x live,Q,st,h=>by have h:Nz P W0 nt O S x live Q st:=h;unfold Nz at h;exact h
 | .block id a,Q,st,h=>aJ (BT (ic:=a) h)
 | .loop c,Q,st,h=>by have h:GW P W0 nt c Q st:=h;unfold GW at h;exact h
 | .scope c,Q,st,h=>False.elim h
 | .rfn g ps a b W live,Q,st,h=>h
 | .wk c,Q,st,h=>by have h:WkW P W0 nt c Q st:=h;unfold WkW at h;exact Ak9 h
 | .opx l1 i d f args l2 live,Q,st,h=>by refine AaE ?_;refine BJ (λenv σ w u q=>?_) (show J P W0 st.n i (MO P W0 d f args l2 live Q) l1 st.env st.σ from h);have j:=w (u-(st.n+1));rw[Az4 q] at j;obtain⟨σi,R,y,z,A⟩:=j;refine⟨σi,R,y,z,λp v σo o B=>?_⟩;refine BJ (λenv σ D r C=>?_) (A p v σo o B);have:=D (r-(p+1));grind
 | .opxq l1 i d g H f args l2 live,Q,st,h=>by
  refine oY ?_;refine BJ (λenv σ w u q=>?_) (show J P W0 st.n i (Pj P W0 d g H f args l2 live Q) l1 st.env st.σ from h);have j:=w (u-(st.n+1));rw[Az4 q] at j;rw[HK] at j;unfold yR at j⊢;have G:∀{env:A9} {σ:Aj},J P W0 u live Q l2 env σ->Av P W0 u l2 env σ λenv σ=>∀r,u<r->Q .normal ⟨restrict live env,σ,r⟩:=λh=>BJ (λenv σ D r C=>by have:=D (r-(u+1));grind) h;split at j
  .rename_i t Y;refine⟨λL=>?_,λL=>G (j.2 L)⟩;obtain⟨σi,R,y,z,A⟩:=j.1 L;refine⟨σi,R,y,z,λp v σo o B=>?_⟩;refine BJ (λenv σ D r C=>?_) (A p v σo o B);have:=D (r-(p+1));grind
  .exact G j
  .exact j.elim
 | .opxd l1 i d f args live paths,Q,st,h=>by refine vZ ?_;refine BJ (λenv σ w u q=>?_) (show J P W0 st.n i (MO P W0 d f args [] live Q) l1 st.env st.σ from h);have j:Ha P W0 (st.n+1+(u-(st.n+1))) d f (DP (restrict i env) args) [] live Q (restrict i env) σ:=w (u-(st.n+1));rw[Az4 q] at j;obtain⟨σi,R,y,z,A⟩:=j;refine⟨σi,R,y,z,λp v σo o B r C=>?_⟩;have T:∀k,Q .normal ⟨restrict live ((d,v)::restrict i env),over σi σo σ,p+1+k⟩:=A p v σo o B;have:=T (r-(p+1));grind
 | .opxv l1 i d x args l2 live,Q,st,h=>by
  refine fT ?_;refine BJ (λenv σ w u q=>?_) (show J P W0 st.n i (PF P W0 d x args l2 live Q) l1 st.env st.σ from h);have j:Hu P W0 (st.n+1+(u-(st.n+1))) d (AZ (restrict i env) x) (DP (restrict i env) args) l2 live Q (restrict i env) σ:=w (u-(st.n+1));rw[Az4 q] at j;have G:∀{p:Nat} {env:A9} {σ:Aj},J P W0 p live Q l2 env σ->Av P W0 p l2 env σ λenv σ=>∀r,p<r->Q .normal ⟨restrict live env,σ,r⟩:=fun{p} _ _ h=>BJ (λenv σ D r C=>by have:=D (r-(p+1));grind) h;unfold Hu at j;split at j
  .rename_i f first E M
   obtain⟨σi,R,y,z,A⟩:=j;exact .inl ⟨f,first,E,M,σi,R,y,z,λp v σo o B=>G (A p v σo o B)⟩
  .rename_i id M;obtain⟨σi,R,y,z,A⟩:=j;exact .inr ⟨id,M,σi,R,y,z,λp v σo o B=>G (A p v σo o B)⟩
  .exact j.elim
 | .opxe ..,Q,st,h=>False.elim h
 | .anyr ..,Q,st,h=>False.elim h
 | .exit id,Q,st,h=>fO h
 | .ret,Q,st,h=>AcT h
 | .skip,Q,st,h=>w9 h
theorem VO{j h s:Nat}{live:List Nat}{id mid:Id}{es:List (V×V)}{seen:List Nat}(u:get env s=.arr id)(r:lk σ id=some (.mit mid es.length seen es.length))(p:lk σ mid=some (.map es))(o:j∉live)(q:j≠h)
  (e:∀i w,es[i]?=some w->i∉seen->Q .normal ⟨restrict live ((h,.b true)::env),upd σ id (.mit mid es.length (seen++[i]) es.length),n+1⟩)
  (g:(∀i,i<es.length->i∈seen)->Q .normal ⟨restrict live ((h,.b false)::env),σ,n+1⟩):Nz P W0 nt j h (.t s) live Q ⟨env,σ,n⟩:=by
 unfold Nz;exact YQ u r p e g o q
def Ak(W0:World)(nt:Nat)(st e:St):Prop:=∀B a w,At W0 nt B st a w->At W0 nt B e a w
theorem Ak.refl:Ak W0 nt st st:=λ_ _ _ h=>h
theorem Ak.trans{e g i:St}(h:Ak W0 nt e g)(k:Ak W0 nt g i):Ak W0 nt e i:=λB a w x=>k B a w (h B a w x)
theorem T8{ic:IC}{g:St}(h:Ak W0 nt st g)(k:Fv P W0 nt ic Q g):Fv P W0 nt ic Q st:=λe j B a w o i=>k e j B a w o (h B a w i)
def QW(W0:World)(nt:Nat)(Q:Exit->St->Prop)(e:Exit)(st:St):Prop:=∃g,Ak W0 nt st g/\Q e g
theorem ME{ic:IC}(h:Fv P W0 nt ic (QW W0 nt Q) st):Fv P W0 nt ic Q st:=by intro g q B a w t i;refine Be (h g q B a w t i) λe a w r=>?_;obtain⟨o,y,s,⟨z,j,u⟩,p⟩:=r;exact⟨o,y,z,u,j o a w p⟩
def P4(W0:World)(nt:Nat)(Inv:Nat->St->Prop)(m:Nat)(Q:Exit->St->Prop):Exit->St->Prop
 | .normal,st=>∃h g,h<m/\Ak W0 nt st g/\Inv h g
 | e,st=>Q e st
theorem Nl{Inv:Nat->St->Prop}{m:Nat}:P4 W0 nt Inv m Q .normal st=∃g e,g<m/\Ak W0 nt st e/\Inv g e:=rfl
theorem Rb{Inv:Nat->St->Prop}{m k:Nat}:P4 W0 nt Inv m Q (.exit k) st=Q (.exit k) st:=rfl
theorem TP{Inv:Nat->St->Prop}{m:Nat}:P4 W0 nt Inv m Q .ret st=Q .ret st:=rfl
theorem Am{Inv:Nat->St->Prop}(m:Nat)(h:∃i,Ak W0 nt st i/\Inv m i)(g:∀m st,Inv m st->aW P W0 nt c (P4 W0 nt Inv m Q) st):GW P W0 nt c Q st:=by
 unfold GW;obtain⟨i,o,j⟩:=h;refine T8 o (uR (Inv:=Inv) (λm st u=>?_) m j);refine ME (Ls (BT (g m st u)) λe s p=>?_);cases e with
 | normal=>obtain⟨w,y,q,r,t⟩:=p;exact⟨y,r,w,q,t⟩
 | _=>exact⟨s,Ak.refl,p⟩
theorem KC{e:St}(h:Ak W0 nt st e)(k:aW P W0 nt c Q e):WkW P W0 nt c Q st:=by unfold WkW;exact T8 h (BT k)
def KH(W0:World)(nt:Nat)(e:List R)(vs:List V)(σ':Aj):Exit->St->Prop:=QW W0 nt (Fin e vs σ')
def Ad1(W0:World)(nt s:Nat)(x:A5)(σ':Aj):Exit->St->Prop:=QW W0 nt (Are s x σ')
theorem Ae{f:FuncId}{ic:IC}{o:List R}(j:Au P f nt ic o=true){args:List V}(g:args.length<=nt){σ σ':Aj}{vs:List V}(i:∀id,lk σ' id≠none->lk σ id≠none)
  (h:∀n,(∀id e,lk σ id=some e->id.1<n)->aW P W0 nt ic (KH W0 nt o vs σ') ⟨params 0 args,σ,n⟩):Al P W0 f args σ (Lx vs) σ':=
 Ahs j g i λn p=>ME (BT (h n p))
def AeI(W0:World)(nt:Nat)(e:List R)(R:Nat->Nat->V->Aj->Prop)(n0:Nat):Exit->St->Prop:=QW W0 nt (Arx e R n0)
theorem BK{f:FuncId}{ic:IC}{j:List R}(i:Au P f nt ic j=true){args:List V}(g:args.length<=nt){σ:Aj}{R:Nat->Nat->V->Aj->Prop}
  (h:∀n,(∀id e,lk σ id=some e->id.1<n)->aW P W0 nt ic (AeI W0 nt j R n) ⟨params 0 args,σ,n⟩):Ex P W0 f args σ R:=
 Aab i g λn o=>ME (BT (h n o))
theorem W5{f:FuncId}{ic:IC}{s:Nat}(j:Au P f nt ic [.t s]=true){args:List V}(g:args.length<=nt){σ σ':Aj}{x:A5}(i:∀id,lk σ' id≠none->lk σ id≠none)
  (h:∀n,(∀id e,lk σ id=some e->id.1<n)->aW P W0 nt ic (Ad1 W0 nt s x σ') ⟨params 0 args,σ,n⟩):J0 P W0 f args σ x σ':=
 Ah7 j g i λn o=>ME (BT (h n o))
theorem Af{s:Nat}{v:V}(h:get env s=v):KH W0 nt [.t s] [v] [] .ret ⟨env,σ,n⟩:=⟨_,Ak.refl,⟨h,trivial⟩,λid e h=>by simp[lk] at h⟩
theorem Bm{s:Nat}{v:V}{σ':Aj}(h:get env s=v)(g:∀id e,lk σ' id=some e->lk σ id=some e):KH W0 nt [.t s] [v] σ' .ret ⟨env,σ,n⟩:=⟨_,Ak.refl,⟨h,trivial⟩,g⟩
theorem C6(σ:Aj):over σ σ σ=σ:=by
 have:∀(p:Id×A5),p∈σ->(lk σ p.1).isNone=false:=by
  intro p hp
  induction σ with
  | nil=>cases hp
  | cons q σ e=>grind[lk]
 unfold over;rw[AyH.2 (λp hp=>by simp[this p hp]),ApV]
theorem Ak.weak(φ:Id->Option (List V)){env':A9}{σ':Aj}{n':Nat}
  (j:∀id es,φ id=some es->(∃e sz,lk σ id=some (.arr e sz es))/\lk σ' id=none)
  (g:∀s,J4 φ (get env s) (get env' s))(i:∀id o,lk σ' id=some o->∃e,lk σ id=some e/\K3 φ e o)(p:n<=n'):Ak W0 nt ⟨env,σ,n⟩ ⟨env',σ',n'⟩:=
 λB a w h=>h.weak φ j g i p
theorem Ak.own{s e sz k:Nat}(C:get env s=.nil):Ak W0 nt ⟨env,σ,n⟩ ⟨(s,.arr (n,k))::env,((n,k),.arr e sz [])::σ,n+1⟩:=by
 intro B a w r;obtain⟨μ,H,y,hp,A,p,o,t⟩:=r;have g:μ (n,k)=none:=hp.bd _ (A0d _);have j:=Bn (v:=.slice none 0 0) g;have i:=(hp.more (AmJ n)).new_ (n':=n+1) (w':=w) (R:=λ_=>False) ⟨rfl,rfl,rfl,A0d _,λ_ _ _=>rfl⟩ (λ_ h=>h.elim) (σ1:=σ) (λid e h=>⟨h,λ_ _ h=>h⟩) (id:=(n,k)) (e:=.arr e sz []) (val:=.slice none 0 0) g (A0e _) (A0d _) (λF z=>by simp[BC] at z)
  ⟨.slice none 0 0,[],Aq _ _ _,rfl,Azu w _ e sz,ArM _,(λx D=>by cases D),AK.nil_⟩
 refine⟨_,H,⟨y.size,λE=>?_⟩,i.1,A.trans i.2,λid u q=>?_,AmH o (AmJ _),t⟩
 .simp only[get];split
  .rename_i q;subst q;have:=y.at_ s;simp only[C] at this;rw[this.nil_inv];exact .arr _ _ (Aq _ _ _) rfl
  .exact(y.at_ E).mono j (λ_ _ h=>h)
 .simp only at o;rw[B0 _ _ (by grind)];exact p id u q
theorem Ak.drop{σ':Aj}{n':Nat}(h:∀id e,lk σ' id=some e->lk σ id=some e)(j:n<=n'):Ak W0 nt ⟨env,σ,n⟩ ⟨env,σ',n'⟩:=
 Ak.weak (λ_=>none) (λ_ _ h=>by cases h) (λ_=>.refl _) (λid g i=>⟨g,h id g i,.refl _⟩) j
end
end Go.Ir
end
section
namespace Go.Ir
variable[F4]
theorem AbQ{ys:List V}:yL [] ys=True:=rfl
theorem cV{x:V}{xs ys:List V}:yL (x::xs) ys=((∀y∈ys,∀id,BP x=some id->BP y≠some id)/\yL xs ys):=rfl
def o1(d:Nat)(op:AE):I:=⟨some d,op,none,[]⟩
def o0(op:AE):I:=⟨none,op,none,[]⟩
def m1(d x:Nat):I:=⟨some d,.mv (.t x),none,[]⟩
def ci(z:Int):X:=.c (.i .i64 z)
def mZ(d:Nat)(z:Int):I:=⟨some d,.mv (.c (.i .i64 z)),none,[]⟩
def mC(d:Nat)(v:V):I:=⟨some d,.mv (.c v),none,[]⟩
def l1(d s:Nat):I:=⟨some d,.load (.t s) 1 false,none,[]⟩
def lA(d s n:Nat):I:=⟨some d,.load (.t s) n true,none,[]⟩
def fA(d s k:Nat):I:=⟨some d,.faddr (.t s) k,none,[]⟩
def xT(d s k:Nat):I:=⟨some d,.ext (.t s) k,none,[]⟩
def bT(d:Nat)(o:BinOp)(a b:Nat):I:=⟨some d,.bin o (.t a) (.t b),none,[]⟩
def bZ(d:Nat)(o:BinOp)(a:Nat)(z:Int):I:=⟨some d,.bin o (.t a) (.c (.i .i64 z)),none,[]⟩
def bC(d:Nat)(o:BinOp)(a:Nat)(v:V):I:=⟨some d,.bin o (.t a) (.c v),none,[]⟩
def q1(d f a:Nat):I:=⟨some d,.call f [.t a],none,[]⟩
def q2(d f a b:Nat):I:=⟨some d,.call f [.t a,.t b],none,[]⟩
def q3(d f a b c:Nat):I:=⟨some d,.call f [.t a,.t b,.t c],none,[]⟩
def pO(d a b:Nat):I:=⟨some d,.pick (.t a) (.c (.b true)) (.t b),none,[]⟩
def pA(d a b:Nat):I:=⟨some d,.pick (.t a) (.t b) (.c (.b false)),none,[]⟩
def nL(d s:Nat):I:=⟨some d,.lenL (.t s),none,[]⟩
def nS(d s:Nat):I:=⟨some d,.lenS (.t s),none,[]⟩
def nT(d s:Nat):I:=⟨some d,.not (.t s),none,[]⟩
def nC(d s:Nat):I:=⟨some d,.nilck (.t s),none,[]⟩
def bX(d s:Nat):I:=⟨some d,.box (.t s),none,[]⟩
def iA(d a b e z:Nat):I:=⟨some d,.iaddr (.t a) (.t b) e z,none,[]⟩
def sT(a b n:Nat):I:=⟨none,.store (.t a) (.t b) n,none,[]⟩
def gT(d g:Nat)(o:AE):I:=⟨some d,o,some (g,true),[]⟩
def gF(d g:Nat)(o:AE):I:=⟨some d,o,some (g,false),[]⟩
def B4(d g s:Nat):I:=⟨some d,.mv (.t s),some (g,true),[]⟩
def Br(d g s:Nat):I:=⟨some d,.mv (.t s),some (g,false),[]⟩
def Dr(d g s:Nat):I:=⟨some d,.load (.t s) 1 false,some (g,true),[]⟩
def Du(d g s:Nat):I:=⟨some d,.load (.t s) 1 false,some (g,false),[]⟩
def Dv(d g s k:Nat):I:=⟨some d,.faddr (.t s) k,some (g,true),[]⟩
def DA(d g s k:Nat):I:=⟨some d,.faddr (.t s) k,some (g,false),[]⟩
def CH(d g:Nat)(o:BinOp)(a:Nat)(z:Int):I:=⟨some d,.bin o (.t a) (.c (.i .i64 z)),some (g,true),[]⟩
def Dw(d g:Nat)(o:BinOp)(a:Nat)(z:Int):I:=⟨some d,.bin o (.t a) (.c (.i .i64 z)),some (g,false),[]⟩
def oP(l:List I)(v:List Nat):IC:=.ops l v []
def oR(l:List I)(v:List Nat):IC:=.seq (.ops l v []) .ret
def oS(l:List I)(v:List Nat)(b:IC):IC:=.seq (.ops l v []) b
def rS(l:List I)(v:List Nat)(b:IC):IC:=.seq (.seqr l v) b
def sQ(a b:IC):IC:=.seq a b
def cD(n:Nat)(a b:IC):IC:=.cond (.t n) a b
theorem bq:(!true)=false/\(!false)=true/\(∀b,(true||b)=true)/\(∀b,(false||b)=b)/\(∀b,(b||true)=true)/\(∀b,(b||false)=b)/\(∀b,(true&&b)=b)/\(∀b,(false&&b)=false)/\(∀b,(b&&true)=b)/\(∀b,(b&&false)=false)/\((false=true)=False):=by simp
theorem AM{c d:IC}(h:c=d)(P:Program)(W0:World)(nt:Nat)(Q:Exit->St->Prop)(env:A9)(σ:Aj)(n:Nat):aW P W0 nt c Q ⟨env,σ,n⟩=aW P W0 nt d Q ⟨env,σ,n⟩:=by rw[h]
theorem Ap{c d:IC}{p:Prop}(h:c=d)(q:p):(∀P W0 nt Q env σ n,aW P W0 nt c Q ⟨env,σ,n⟩=aW P W0 nt d Q ⟨env,σ,n⟩)/\p:=⟨AM h,q⟩
section
variable{P:Program}{W0:World}{nt n d f:Nat}{Q:Exit→St→Prop}{env:A9}{σ:Aj}{l1 l2:List I}{v1 v:List Nat}{x:X}{args:List X}{ps:List (List Nat)}
theorem Ajz:aW P W0 nt (.opx l1 v1 d f args l2 v) Q ⟨env,σ,n⟩=J P W0 n v1 (MO P W0 d f args l2 v Q) l1 env σ:=rfl
theorem Acz{g:Nat}{e:Bool}:aW P W0 nt (.opxq l1 v1 d g e f args l2 v) Q ⟨env,σ,n⟩=J P W0 n v1 (Pj P W0 d g e f args l2 v Q) l1 env σ:=rfl
theorem Adq:aW P W0 nt (.opxv l1 v1 d x args l2 v) Q ⟨env,σ,n⟩=J P W0 n v1 (PF P W0 d x args l2 v Q) l1 env σ:=rfl
theorem z8:aW P W0 nt (.opxd l1 v1 d f args v ps) Q ⟨env,σ,n⟩=J P W0 n v1 (MO P W0 d f args [] v Q) l1 env σ:=rfl
end
attribute [push_cast] put params AmB Art if_true if_false Axh AyQ jX wQ lW tW GS lk upd del Eu Db sub Xr Atx Option.getD_some AyA Axy and_true true_and AxM Int.natCast_nonneg Int.zero_le_ofNat Ayr Axn Aj0 An0 cond_true cond_false Adx Avo AvM Adj Aq3 Ay8 and_self and_false false_and AwJ AvL Au8 Awk Awp AtX ApV Abt AuA AbK AvW AbM Au7 a7 AjE rM Ap7 ZT AiD aQ AhX ZH AlG T4 Abr oE AmY jB ApB iG AqK sK Aps r5 Apq AaL Arv AoQ ArJ Ar5 Aob AqS AsD kK TJ Aa1 aO QT tS AaW Zm Al3 Akv aK U3 Sz Zq Y5 T2 Ub Z9 pI SN Tl Rp Rc SP Aid jG Aht AaI Am1 AaK kM rI gX fF SF Q4 QF T7 Ahh Aje AjO AjK xJ PX AgN Ar0 Apx Acf wF AaY pD ZJ T3 YJ bO Yq Sw By Adn OP MY Li O1 Qq O6 TC YS Aur Aji Ap6 ApP ArE AoI AaC Aal AsB Aky Adl Aoi AcV AaZ Alc Al6 Anx Ap0 Akf AkJ AqH Apa AkL AuD Aaj Akl AsG AbG Ac4 zM AcW Abn AvF dZ iN gO yB AqL yM Ze AiQ Ac6 Aam Aby iV Uh YW SO Auo AqB Ann Anb y7 Aak Asr Ala Aru Apn AaV zB eT nF kD lN Abj AjR Aaz Ajq iY zI oK Adc lO xO Zy qZ iF qY qN Apl AqU AnI ArO Ajh Ap8 dV eC cB Aav YI aS Zb bG ZI Yu AaH mO vN mY wT Qg RD RX Rn QA uC kF Azq List.all_nil Bool.and_self AxN Ahj Ami Aau eG Ab5 ApL zO Ak5 Aaw Aax Abx PD Nn U4 Re AjG OH TF Zc Nl Rb TP AlF AE.cs AbQ cV o1 o0 m1 ci mZ mC l1 lA fA xT bT bZ bC q1 q2 q3 pO pA nL nS nT nC bX iA sT gT gF B4 Br Dr Du Dv DA CH Dw oP oR oS rS sQ cD Ajz Acz HK Ahz Ako Adq z8 AbD decide_true decide_false
end Go.Ir
end
section
namespace Go.Ir
open Go.Proofs Go.RowKit
section
variable{P:Program}{W0:World}
theorem HI{G:FuncId}{T:TypeId}{u t:V}{id:Id}{off:Nat}(y:callable P G=true)(hc:(cells u)[off]?=some .np)(E:Db u off 1 (.ref id off)=some t)
  (p:∀(b:Nat) (w:World),w.cell? ⟨b,off,none⟩=some (.pointer none)->w.shape? b=some (T,(cells u).length)->w.frozen? ⟨b,off,none⟩=false->off<(cells u).length->
   Calls P G #[.pointer (some ⟨b,off,none⟩)] w λe w'=>e=.returned (.tuple #[])/\w'=w.setCell ⟨b,off,none⟩ (.pointer (some ⟨b,off,none⟩))) :
  Al P W0 G [.ref id off] [(id,.tbox T u)] (.tup []) [(id,.tbox T t)] where
 callable:=y
 dom:=λi hi=>by simp only[lk] at hi⊢;grind
 run:=by
  intro n w μ H vals hp q;have R:lk [(id,A5.tbox T u)] id=some (.tbox T u):=by simp[lk]
  obtain⟨ac,O,j⟩:=HS E;have D:off<(cells u).length:=by omega
  have U:∀{μ:Id->Option Value} {H:Addr->Option Value},Ao μ H (.tup []) (.tuple #[]):=.tup [] [] rfl (λk c v L=>by simp at L);obtain⟨x,rfl,hx⟩:=q.one_;obtain⟨g,F,rfl⟩:=hx.ref_inv;obtain⟨Y,o,C,hB,z,h⟩:=hp.ents _ _ R;rw[F] at C;cases C;obtain⟨x0,N,M⟩:=h.toVRels.get hc;rw[M.np_inv'] at N;have B:(cells u).length=o.size:=by rw[h.len];simp
  have A:off<o.size:=by omega
  have J:o[off]=.pointer none:=by grind
  refine Ax5 (p g w (by simp[World.cell?,z,A,J]) (by simp[World.shape?,z,B]) (by simp[World.frozen?,z]) D) ?_;rintro e w' ⟨rfl,rfl⟩;have s:w.setCell ⟨g,off,none⟩ (.pointer (some ⟨g,off,none⟩))=w.setRow g (o.setIfInBounds off (.pointer (some ⟨g,off,none⟩))):=setCell_eq_setRow w g off o T (0,0) _ z;rw[s];have r:AK μ H (cells t) (o.setIfInBounds off (.pointer (some ⟨g,off,none⟩))).toList:=by
   have Z:AK μ H (cells (V.ref id off)) [.pointer (some ⟨g,off,none⟩)]:=⟨VRels.nil_.cons (.ref id off g F),λv W=>by simp at W;subst W;rfl⟩
   have:=Ed h Z off (off+1);rw[j,Az2,AzF,if_pos (by simpa using A)];simpa using this
  have S:=hp.set_ (e:=.tbox T t) R ((AR.setRow w g _).to (λk L=>by subst L;simp[F,BC])) ⟨g,_,F,hB,setRow_heap w g o _ T (0,0) z,r⟩;have ad:upd [(id,A5.tbox T u)] id (.tbox T t)=[(id,.tbox T t)]:=by simp[upd]
  grind
theorem Jf{t:FuncId}{T:TypeId}{u:V}{id:Id}{off:Nat}(j:callable P t=true)(G:(cells u)[off]?=some (.ref id off))
  (s:∀(b:Nat) (w:World),w.cell? ⟨b,off,none⟩=some (.pointer (some ⟨b,off,none⟩))->Calls P t #[.pointer (some ⟨b,off,none⟩)] w λe w'=>e=.returned (.tuple #[])/\w'=w) :
  Al P W0 t [.ref id off] [(id,.tbox T u)] (.tup []) [(id,.tbox T u)] where
 callable:=j
 dom:=λi L=>L
 run:=by
  intro n w μ H vals hp g;have N:lk [(id,A5.tbox T u)] id=some (.tbox T u):=by simp[lk]
  have r:∀{μ:Id->Option Value} {H:Addr->Option Value},Ao μ H (.tup []) (.tuple #[]):=.tup [] [] rfl (λk c v M=>by simp at M);obtain⟨x,rfl,O⟩:=g.one_;obtain⟨B,D,rfl⟩:=O.ref_inv;obtain⟨E,C,o,hB,J,q⟩:=hp.ents _ _ N;rw[D] at o;cases o;obtain⟨S,R,A⟩:=q.toVRels.get G;obtain⟨F,p,rfl⟩:=A.ref_inv;rw[D] at p;cases p;have z:off<C.size:=by grind
  have y:C[off]=.pointer (some ⟨B,off,none⟩):=by grind
  refine Ax5 (s B w (by simp[World.cell?,J,z,y])) ?_;rintro e w' ⟨rfl,rfl⟩;exact⟨_,μ,H,n,rfl,r,hp,A0d _,Fr.refl _ _ _ _,λ_ _ h=>h⟩
theorem K6{O:FuncId}{e:TypeId}{T:TypeId}{u:V}{id g:Id}{off:Nat}{l:List UInt8}(C:callable P O=true)(hc:(cells u)[Nat.succ off]?=some (.arr g))(p:g≠id)(E:l.length<=AJ)
  (M:∀(b:Nat) (v:Value) (B:Nat) (w:World),w.cell? ⟨b,Nat.succ off,none⟩=some v->w.ownsRow B e 1 v l.length (Lib.byteCells l)->
   Calls P O #[.pointer (some ⟨b,off,none⟩)] w λe w'=>e=.returned (.string ⟨l.toArray⟩)/\w.grownBy w' v.ownBlock) :
  Al P W0 O [.ref id off] [(id,.tbox T u),(g,.arr e 1 (Az l))] (.s l) [(id,.tbox T u)] where
 callable:=C
 dom:=λi hi=>by simp only[lk] at hi⊢;grind
 run:=by
  intro n w μ H vals hp q;have hl:lk [(id,A5.tbox T u),(g,.arr e 1 (Az l))] id=some (.tbox T u):=by simp[lk]
  have t:lk [(id,A5.tbox T u),(g,.arr e 1 (Az l))] g=some (.arr e 1 (Az l)):=by simp[lk,AeS p]
  obtain⟨y,rfl,hy⟩:=q.one_;obtain⟨Z,hm,rfl⟩:=hy.ref_inv;obtain⟨ab,cv,F,hB,hg,L⟩:=hp.ents _ _ hl;rw[hm] at F;cases F;obtain⟨val,A,hr⟩:=L.toVRels.get hc;have r:w.cell? ⟨Z,Nat.succ off,none⟩=some val:=by
   have o:=(AfJ.1 A).1;have o:Nat.succ off<cv.size:=by simpa using o
   rw[Ayz,AvX o] at A;simp only[World.cell?,hg,AvX o];exact A
  obtain⟨G,ae⟩:=hr.arr_inv;obtain⟨N,_,j,U,an,z⟩:=Do hp t G;rw[L7 z,show(Az l).length=l.length by simp[Az]] at j;refine Ax5 (M Z val W0.heap.size w r j) ?_;rintro ad w' ⟨rfl,S⟩;have J:∀k,some k=val.ownBlock->BC (μ g)=some k:=by
   intro k D;rw[G];obtain⟨Y,aa,W⟩:=BX j;rw[W] at D⊢;cases Y with
   | none=>simp[Value.ownBlock] at D
   | some Y=>simpa[Value.ownBlock,BC] using D.symm
  have hd:del [(id,A5.tbox T u),(g,.arr e 1 (Az l))] g=[(id,.tbox T u)]:=by simp[del,AeS p]
  have:=hp.lose (σ1:=del [(id,A5.tbox T u),(g,.arr e 1 (Az l))] g) (AR.of_grown S) (λk D=>⟨g,_,t,J k D⟩) (λap e' h=>by
   rw[CC] at h;split at h
   .cases h
   .rename_i p;exact⟨h,λb hb R=>p (hp.sep _ _ _ _ b t h (J b R) hb)⟩)
  rw[hd] at this;exact⟨_,μ,H,n,rfl,.s l E,this.1,A0d _,this.2,λ_ _ h=>h⟩
end
variable(W0:World)
theorem AcA{T:TypeId}{id:Id}{r:List V}(e:liesAt π π.depth T ((r.length+1) / π.cellsOf T) 0 98 1=true) :
  Al π W0 180 [.ref id 0] [(id,.tbox T (.agg (.np::r)))] (.tup []) [(id,.tbox T (.agg (.ref id 0::r)))]:=
 HI (by kernel_rfl) rfl (by simp[Db,cells,Nm]) λb w j i h g=>Mh T (r.length+1) 0 e b w j i h g
theorem Adi{T:TypeId}{id:Id}{r:List V}:Al π W0 180 [.ref id 0] [(id,.tbox T (.agg (.ref id 0::r)))] (.tup []) [(id,.tbox T (.agg (.ref id 0::r)))]:=
 Jf (by kernel_rfl) rfl λb w e=>N3 b 0 w e
theorem ZD{T:TypeId}{id e:Id}{l:List UInt8}{a:V}{r:List V}(g:e≠id)(i:l.length<=AJ) :
  Al π W0 45 [.ref id 0] [(id,.tbox T (.agg (a :: .arr e::r))),(e,.arr 5 1 (Az l))] (.s l) [(id,.tbox T (.agg (a :: .arr e::r)))]:=
 K6 (by kernel_rfl) rfl g i λb v B w h j=>Ks b 0 l v B w h j
end Go.Ir
end
section
namespace Go.Ir
abbrev Aa:=List UInt8
structure Aw where
 kind:Int
 text:Aa
 name:Aa
 style:Aa
 cases:List (Aa×List Aw)
 parts:List Aw
abbrev DX:=Aa×List Aw
mutual
def Aw.enc:Aw->V
 | ⟨k,t,n,s,cs,ps⟩=>.agg [.i .i64 k,.s t,.s n,.s s,.sl (QD cs),.sl (M7 ps)]
def M7:List Aw->List V
 | []=>[]
 | p::ps=>p.enc::M7 ps
def QD:List (Aa×List Aw)->List V
 | []=>[]
 | (k,ps)::cs=>.agg [.s k,.sl (M7 ps)]::QD cs
end
mutual
def Aw.wt:Aw->Nat
 | ⟨_,t,n,s,cs,ps⟩=>1+t.length+n.length+s.length+Ih cs+Eo ps
def Eo:List Aw->Nat
 | []=>0
 | p::ps=>p.wt+Eo ps
def Ih:List (Aa×List Aw)->Nat
 | []=>0
 | (k,ps)::cs=>1+k.length+Eo ps+Ih cs
end
def DX.enc(c:DX):V:=.agg [.s c.1,.sl (M7 c.2)]
theorem JF:∀ps,M7 ps=ps.map Aw.enc
 | []=>by simp[M7]
 | p::ps=>by simp[M7,JF ps]
theorem NI:∀cs,QD cs=cs.map DX.enc
 | []=>by simp[QD]
 | (k,ps)::cs=>by simp[QD,NI cs,DX.enc]
@[push_cast] theorem Aw.enc_eq(p:Aw):p.enc=.agg [.i .i64 p.kind,.s p.text,.s p.name,.s p.style,.sl (p.cases.map DX.enc),.sl (p.parts.map Aw.enc)]:=by cases p;simp[Aw.enc,JF,NI]
@[push_cast] theorem DX.enc_eq(c:DX):DX.enc c=.agg [.s c.1,.sl (c.2.map Aw.enc)]:=by simp[DX.enc,JF]
theorem Aw.wt_eq(p:Aw):p.wt=1+p.text.length+p.name.length+p.style.length+Ih p.cases+Eo p.parts:=by cases p;simp[Aw.wt]
theorem FJ(p:Aw)(ps:List Aw):Eo (p::ps)=p.wt+Eo ps:=by simp[Eo]
theorem E7(c:DX)(cs:List DX):Ih (c::cs)=1+c.1.length+Eo c.2+Ih cs:=by obtain⟨k,ps⟩:=c;simp[Ih]
theorem wW:Ih []=0:=by simp[Ih]
theorem bW{ps:List Aw}{p:Aw}(h:p∈ps):p.wt<=Eo ps:=by
 induction ps with
 | nil=>cases h
 | cons d ps e=>rw[FJ];grind
theorem gC{cs:List DX}{c:DX}(h:c∈cs):1+c.1.length+Eo c.2<=Ih cs:=by
 induction cs with
 | nil=>cases h
 | cons d cs e=>rw[E7];grind
theorem cX(ps:List Aw):ps.length<=Eo ps:=by
 induction ps with
 | nil=>simp
 | cons p ps e=>rw[FJ,Aj0,p.wt_eq];omega
theorem t8(cs:List DX):cs.length<=Ih cs:=by
 induction cs with
 | nil=>simp
 | cons p ps e=>rw[E7,Aj0];omega
section zip
variable{α β:Type}{f:α→β}{dn rest:List α}{x:α}
@[push_cast] theorem Avy:decide ((dn.length:Int)<((dn++x::rest).length:Int))=true:=by simp;omega
@[push_cast] theorem Ato:(List.map f (dn++x::rest))[dn.length]?=some (f x):=by simp
@[push_cast] theorem Anj:(dn++x::rest)[dn.length]?=some x:=by simp
@[push_cast] theorem Atn(n:Int):decide (n<n)=false:=by simp
theorem Ai(x:α){dn:List α}(h:dn.length<2^62):IntKind.i64.wrap ((dn.length:Int)+1)=((dn++[x]).length:Int):=by rw[wrap64 (by omega) (by omega)];simp
theorem AL{xs:List α}(h:xs=dn++x::rest):dn.length<xs.length:=by rw[h];simp
end zip
attribute [push_cast] Adp
@[push_cast] theorem AmL{c:UInt8}{r:List UInt8}:(c::r==[])=false:=rfl
@[push_cast] theorem AmA:(([]:List UInt8)==[])=true:=rfl
@[push_cast] theorem ep1(a k:Nat):(a+1+k=a)=False:=by simp;omega
@[push_cast] theorem AyJ(a k:Nat):(a=a+1+k)=False:=by simp;omega
@[push_cast] theorem ep2(a k j:Nat):(a+1+k+1+j=a)=False:=by simp;omega
@[push_cast] theorem AyM(a k j:Nat):(a=a+1+k+1+j)=False:=by simp;omega
@[push_cast] theorem ep3(a k j i:Nat):(a+1+k+1+j+1+i=a)=False:=by simp;omega
@[push_cast] theorem Aze(a k j i:Nat):(a=a+1+k+1+j+1+i)=False:=by simp;omega
@[push_cast] theorem ep4(a k j i h:Nat):(a+1+k+1+j+1+i+1+h=a)=False:=by simp;omega
@[push_cast] theorem Ayu(a k j i h:Nat):(a=a+1+k+1+j+1+i+1+h)=False:=by simp;omega
@[push_cast] theorem ep5(a k j i h g:Nat):(a+1+k+1+j+1+i+1+h+1+g=a)=False:=by simp;omega
@[push_cast] theorem AyT(a k j i h g:Nat):(a=a+1+k+1+j+1+i+1+h+1+g)=False:=by simp;omega
@[push_cast] theorem Ap4(l:List V):BP (.sl l)=none:=rfl
@[push_cast] theorem AmE:BP .nil=none:=rfl
@[push_cast] theorem Aqf(v:V)(k:Nat):BP (v.ep k)=none:=rfl
@[push_cast] theorem Atp(l:Aa):BP (.s l)=none:=rfl
@[push_cast] theorem Ats(l:Bool):BP (.b l)=none:=rfl
@[push_cast] theorem Atz(k:IntKind)(l:Int):BP (.i k l)=none:=rfl
@[push_cast] theorem AmM(l:List V):BP (.agg l)=none:=rfl
@[push_cast] theorem AmN(id:Id)(o:Nat):BP (.ref id o)=some id:=rfl
@[push_cast] theorem AmG(id:Id):BP (.arr id)=some id:=rfl
attribute [push_cast] List.forall_mem_cons AxX false_imp_iff implies_true AmC forall_eq' ne_eq not_false_eq_true
def Aw.v(p:Aw):V:=.agg [.i .i64 p.kind,.s p.text,.s p.name,.s p.style,.sl (p.cases.map DX.enc),.sl (p.parts.map Aw.enc)]
def DX.v(c:DX):V:=.agg [.s c.1,.sl (c.2.map Aw.enc)]
theorem Ke(x:UInt8){dn:List UInt8}(h:dn.length<AJ):IntKind.i64.wrap ((dn.length:Int)+1)=((dn++[x]).length:Int):=Ai x (by unfold AJ at h;omega)
@[push_cast] theorem Av9(w r:Aa):(if 0<=w.length/\w.length<=(w++r).length then some (V.s (List.take w.length (w++r))) else none)=some (V.s w):=by grind
@[push_cast] theorem Avr(w r:Aa):(if w.length<=(w++r).length/\(w++r).length<=(w++r).length then some (V.s (List.drop w.length (List.take (w++r).length (w++r)))) else none)=some (V.s r):=by grind
@[push_cast] theorem Atl(w r:Aa)(c:UInt8):(if(w++[c]).length<=(w++c::r).length/\(w++c::r).length<=(w++c::r).length then some (V.s (List.drop (w++[c]).length (List.take (w++c::r).length (w++c::r)))) else none)=some (V.s r):=by rw[if_pos ⟨by simp,A0d _⟩,AmI,show w++c::r=(w++[c])++r by simp];simp only[AzT]
@[push_cast] theorem Atf(w:Aa):(if 0<=w.length/\w.length<=w.length then some (V.s (List.take w.length w)) else none)=some (V.s w):=by grind
@[push_cast] theorem AvV{α:Type}(f:α->V)(w r:List α):(if 0<=w.length/\w.length<=(w++r).length then some (V.sl (List.take w.length (List.map f (w++r)))) else none)=some (V.sl (List.map f w)):=by grind
end Go.Ir
end
namespace Go.Ir
open Go.Proofs
variable{P:Program}{W0:World}{nt n:Nat}{Q:Exit→St→Prop}{env:A9}{σ:Aj}
end Go.Ir

namespace Go.Ir
open Go.Proofs
end Go.Ir

namespace Go.Ir
open Go.Proofs
variable{P:Program}{W0:World}{nt n:Nat}{Q:Exit→St→Prop}{env:A9}{σ:Aj}
def AeT:IC:=oR [m1 3 0,bC 4 .geq 3 (.i .u8 97),m1 5 4,B4 6 5 0,gT 7 5 (.bin .leq (.t 6) (.c (.i .u8 122))),pA 8 5 7,m1 9 8,Br 10 9 0,gF 11 9 (.bin .geq (.t 10) (.c (.i .u8 65))),Br 12 9 11,B4 13 12 0,gT 14 12 (.bin .leq (.t 13) (.c (.i .u8 90))),gF 15 9 (.pick (.t 12) (.t 14) (.c (.b false))),pO 16 9 15,m1 17 16,Br 18 17 0,gF 19 17 (.bin .geq (.t 18) (.c (.i .u8 48))),Br 20 17 19,B4 21 20 0,gT 22 20 (.bin .leq (.t 21) (.c (.i .u8 57))),gF 23 17 (.pick (.t 20) (.t 22) (.c (.b false))),pO 24 17 23,m1 2 24] [2]
def AeO:IC:=oS [mC 2 (.b false)] [0] AeT
@[push_cast]def Avp:List R:=[.t 2]
@[push_cast]def Ayf:=Ap AeT.eq_1<|AM AeO.eq_1
theorem Aow:Au π 97 25 AeO Avp=true:=by kernel_rfl
def rU:IC:=oS [m1 26 0,m1 27 3,o1 28 (.idx (.t 26) (.t 27)),q1 29 97 28,nT 30 29,m1 31 30,B4 32 31 0,B4 33 31 3,gT 34 31 (.idx (.t 32) (.t 33)),gT 35 31 (.bin .neq (.t 34) (.c (.i .u8 95))),pA 36 31 35,m1 37 36,B4 38 37 0,B4 39 37 3,gT 40 37 (.idx (.t 38) (.t 39)),gT 41 37 (.bin .neq (.t 40) (.c (.i .u8 45))),pA 42 37 41] [0,22,23,42] (cD 42 (oR [mC 2 (.b false)] [2]) .skip)
def cU:IC:=oS [bT 24 .lss 23 22] [0,22,23,24] (sQ (cD 24 .skip (.exit 0)) (sQ (.block 1 (oS [m1 25 23,m1 3 25] [0,3,22,23] rU)) (oP [bZ 43 .add 23 1,m1 23 43] [0,22,23])))
def AeN:IC:=sQ (oS [m1 4 0,bC 5 .eql 4 (.s []),m1 6 5,Br 7 6 0,gF 8 6 (.lenS (.t 7)),Dw 9 6 .gtr 8 40,pO 10 6 9,m1 11 10,Br 12 11 0,gF 13 11 (.idx (.t 12) (ci 0)),gF 14 11 (.bin .lss (.t 13) (.c (.i .u8 97))),pO 15 11 14,m1 16 15,Br 17 16 0,gF 18 16 (.idx (.t 17) (ci 0)),gF 19 16 (.bin .gtr (.t 18) (.c (.i .u8 122))),pO 20 16 19] [0,20] (cD 20 (oR [mC 2 (.b false)] [2]) .skip)) (sQ (oS [m1 21 0,nS 22 21,mZ 23 0] [0,22,23] (.block 0 (.loop cU))) (oR [mC 2 (.b true)] [2]))
def Ae1:IC:=oS [mC 2 (.b false)] [0] AeN
@[push_cast]def AuR:List R:=[.t 2]
@[push_cast]def Aya:=Ap rU.eq_1<|Ap cU.eq_1<|Ap AeN.eq_1<|AM Ae1.eq_1
theorem Aqe:Au π 62 44 Ae1 AuR=true:=by kernel_rfl
def AeK:IC:=oS [mC 2 (.b false)] [0] (oR [m1 3 0,bZ 4 .geq 3 7,m1 5 4,B4 6 5 0,CH 7 5 .leq 6 9,pA 8 5 7,m1 2 8] [2])
@[push_cast]def Avv:List R:=[.t 2]
@[push_cast]def AxZ:=AM AeK.eq_1
theorem Ar9:Au π 79 9 AeK Avv=true:=by kernel_rfl
end Go.Ir

namespace Go.Ir
theorem Ad{W0:World}{nt n:Nat}{g:List R}{vs:List V}{env:A9}{σ:Aj}(h:Dd ⟨env,σ,n⟩ g vs):KH W0 nt g vs [] .ret ⟨env,σ,n⟩:=
 ⟨_,Ak.refl,h,λid e h=>by simp[lk] at h⟩
def zT(o:Option A5)(off k:Nat)(e:Bool)(v:V):Prop:=∃u,o=some (.box u)/\sub u off k e=some v
def AhD(x:V)(σ:Aj)(k:Nat)(e:Bool)(v:V):Prop:=∃id off u,x=.ref id off/\lk σ id=some (.box u)/\sub u off k e=some v
@[push_cast] theorem AnL{u v:V}{off k:Nat}{e:Bool}:zT (some (.box u)) off k e v=(sub u off k e=some v):=by simp[zT]
@[push_cast] theorem Arq{id:Id}{off k:Nat}{σ:Aj}{e:Bool}{v:V}:AhD (.ref id off) σ k e v=zT (lk σ id) off k e v:=by unfold AhD zT;grind
@[push_cast] theorem ArH{env:A9}{σ:Aj}{n s k:Nat}{e:Bool}{g:List R}{v:V}{vs:List V}:Dd ⟨env,σ,n⟩ (.c s k e::g) (v::vs)=(AhD (get env s) σ k e v/\Dd ⟨env,σ,n⟩ g vs):=rfl
@[push_cast] theorem AnQ{env:A9}{σ:Aj}{n s:Nat}{e:List R}{v:V}{vs:List V}:Dd ⟨env,σ,n⟩ (.t s::e) (v::vs)=(get env s=v/\Dd ⟨env,σ,n⟩ e vs):=rfl
@[push_cast] theorem Alm{st:St}:Dd st [] []=True:=rfl
theorem Ak.drop1{W0:World}{nt n n':Nat}{env:A9}{σ:Aj}{id:Id}{x:A5}(h:lk σ id=none)(i:n<=n'):Ak W0 nt ⟨env,(id,x)::σ,n⟩ ⟨env,σ,n'⟩:=by
 refine Ak.drop (λj e g=>?_) i;simp only[lk];rw[if_neg]
 .exact g
 grind
theorem Cz{σ:Aj}{g:Id}{x:A5}(h:lk σ g=none):∀id e,lk σ id=some e->lk ((g,x)::σ) id=some e:=by
 intro id e i;simp only[lk];rw[if_neg]
 .exact i
 grind
end Go.Ir
section
namespace Go.Ir
theorem Ar{P:Program}{W0:World}{ep:Nat}{live:List Nat}{Q:Exit->St->Prop}{p:Prop}{l:List I}{env:A9}{σ:Aj}(h:p)(k:J P W0 ep live Q l env σ):JP P W0 ep live Q p l env σ:=⟨h,k⟩
section
variable{P:Program}{W0:World}{ep d:Nat}{live:List Nat}{Q:Exit→St→Prop}{l:List I}{env:A9}{σ:Aj}
theorem IU{id:Id}{e g:A5}(h:∀p∈σ,p.1≠id):over [(id,e)] [(id,g)] ((id,e)::σ)=(id,g)::σ:=by
 have:List.filter (λp:Id×A5=>(lk [(id,e)] p.1).isNone) σ=σ:=by rw[AzR];intro p hp;have:=h p hp;simp[lk,AeS this]
 unfold over;rw[List.filter_cons_of_neg (by simp[lk]),this];rfl
theorem LZ{f:FuncId}{vs:List V}{v:V}{id:Id}{e j:A5}(h:Al P W0 f vs [(id,e)] v [(id,j)])(g:∀p∈σ,p.1≠id)
  (o:J P W0 ep live Q l ((d,v)::env) ((id,j)::σ)):Ip P W0 ep live Q f vs l d env ((id,e)::σ):=by
 refine Bx h (λi y q=>?_) (by rw[IU g];exact o);simp only[lk] at q⊢;grind
end
end Go.Ir
end
namespace Go.Ir
open Go.Proofs
variable(W0:World)
def IL(n:Int):Bool:=decide (n>=97)&&decide (n<=122)||decide (n>=65)&&decide (n<=90)||decide (n>=48)&&decide (n<=57)
theorem bJ(n:Int):Al π W0 97 [.i .u8 n] [] (.b (IL n)) []:=by
 refine Ae (vs:=[.b (IL n)]) Aow (by simp) (by simp) λn0 e=>?_;clear e;simp only[push_cast,reduceEqDiff]
 repeat' (first|(((first|apply Ab|apply Ah|apply Ag)<;>intro _h)<;>(simp only[push_cast,reduceEqDiff,_h];try (have _g:=_h;simp at _g)))|intro _)
 all_goals (first|(refine Af ?_;simp[IL, *]<;>(intros;omega);done)|(refine Ad ?_;simp[push_cast,IL, *];done)|skip)
def Dh(n:Int):Bool:=decide (n>=7)&&decide (n<=9)
theorem Uu(n:Int):Al π W0 79 [.i .i64 n] [] (.b (Dh n)) []:=by
 refine Ae (vs:=[.b (Dh n)]) Ar9 (by simp) (by simp) λn0 e=>?_;clear e;simp only[push_cast,reduceEqDiff]
 repeat' (first|(((first|apply Ab|apply Ah|apply Ag)<;>intro _h)<;>(simp only[push_cast,reduceEqDiff,_h];try (have _g:=_h;simp at _g)))|intro _)
 all_goals (first|(refine Af ?_;simp[Dh, *]<;>(intros;omega);done)|(refine Ad ?_;simp[push_cast,Dh, *];done)|skip)
def Qd(n:Int):Bool:=n==123||n==125||n==60||n==62||n==35||n==92
def J9(s:Aa):Bool:=s==[122,101,114,111]||s==[111,110,101]||s==[116,119,111]||s==[102,101,119]||s==[109,97,110,121]||s==[111,116,104,101,114]
def Lp(n:Int):Bool:=decide (n>=97)&&decide (n<=122)
def Mx(n:Int):Bool:=IL n||n==95||n==45
def LW(f:Int->Bool):Aa->Bool
 | []=>true
 | c::r=>f c.toNat&&LW f r
def Dq:Aa->Bool
 | []=>false
 | c::r=>decide (((c::r).length:Int)<=40)&&Lp c.toNat&&LW Mx (c::r)
theorem Gg(s:Aa)(r:s.length<AJ):Al π W0 62 [.s s] [] (.b (Dq s)) []:=by
 generalize hS:Dq s=S;refine Ae (vs:=[.b S]) Aqe (by simp) (by simp) λn0 o=>?_;clear o;simp only[push_cast,seval,reduceEqDiff];cases s with
 | nil=>
  simp only[push_cast,seval,reduceEqDiff]
  repeat' (first|(((first|apply Ab|apply Ah|apply Ag)<;>intro _h)<;>(simp only[push_cast,seval,reduceEqDiff,_h];try (have _g:=_h;simp at _g)))|intro _)
  all_goals exact Af (by simp[get,<-hS,Dq])
 | cons e h=>
  unfold Dq at hS;simp only at hS;simp only[push_cast,seval,reduceEqDiff]
  repeat' (first|(((first|apply Ab|apply Ah|apply Ag)<;>intro _h)<;>(simp only[push_cast,seval,reduceEqDiff,_h];try (have _g:=_h;simp at _g)))|intro _)
  all_goals (first|(refine Af ?_;simp[get,<-hS,Lp, *]<;>(intros;omega);done)|(refine Ad ?_;simp[push_cast,get,<-hS,Lp, *];done)|skip)
  have p:(decide (((e::h).length:Int)<=40)&&Lp e.toNat)=true:=by simp[Lp];omega
  rw[p,Avi] at hS;refine Am (e::h).length (Inv:=λm st=>∃dn rest n,e::h=dn++rest/\m=rest.length/\LW Mx rest=S/\st=⟨[(0,.s (e::h)),(22,.i .i64 (e::h).length),(23,.i .i64 dn.length)],[],n⟩) ⟨_,Ak.refl,[],_,_,rfl,rfl,hS,by simp;rfl⟩ ?_;clear hS;rintro m _ ⟨dn,rest,n,j,rfl,g,rfl⟩;cases rest with
  | nil=>
   simp only[push_cast,seval,reduceEqDiff,j]
   repeat' (first|(((first|apply Ab|apply Ah|apply Ag)<;>intro _h)<;>(simp only[push_cast,seval,reduceEqDiff,_h];try (have _g:=_h;simp at _g)))|intro _)
   all_goals (first|(refine Af ?_;simp[get,<-g,LW, *]<;>(intros;omega);done)|(refine Ad ?_;simp[push_cast,get,<-g,LW, *];done)|skip)
  | cons c rest=>
   have q:=AL j;simp only[push_cast,seval,reduceEqDiff,j,Ke c (dn:=dn) (by omega)];have _h:=trivial;repeat' (first|(first|((first|apply Ab|apply Ah|apply Ag)<;>intro _h)|refine Ac (bJ W0 _) ?_)<;>(simp only[push_cast,seval,reduceEqDiff,_h,j,Ke c (dn:=dn) (by omega)];try (have _g:=_h;simp at _g))|intro _)
   all_goals (first|(refine Af ?_;simp[get,<-g,LW,Mx, *]<;>(intros;omega);done)|(refine Ad ?_;simp[push_cast,get,<-g,LW,Mx, *];done)|skip)
   all_goals (first|(refine⟨_,_,A0e _,Ak.refl,dn++[c],rest,_,?_,rfl,?_,rfl⟩<;>first|rfl|assumption|(simp[*];done)|(simp[<-g,LW,Mx, *]<;>(intros;omega);done))|skip)
def Qa(n:Int):Bool:=decide (n>=97)&&decide (n<=122)||decide (n>=65)&&decide (n<=90)
def E6(s:Aa):Bool:=LW Qa s&&(decide ((s.length:Int)>=1)&&decide ((s.length:Int)<=40))
end Go.Ir

namespace Go.Ir
variable{P:Program}{W0:World}{nt n:Nat}{Q:Exit→St→Prop}{env:A9}{σ:Aj}
def Adv(e sz:Nat)(g:Bool):IC:=.ops [o1 4 (.mv (ci 0))] [0,1] []
def AfB(e sz:Nat)(g:Bool):IC:=.ops [m1 6 0,o1 7 (.lenL (.t 6)),o1 8 (.mv (ci 0))] [0,1,7,8] []
def AdJ(e sz:Nat)(g:Bool):IC:=.ops [o1 9 (.bin .lss (.t 8) (.t 7))] [0,1,7,8,9] []
def m4(e sz:Nat)(g:Bool):IC:=.cond (.t 9) .skip (.exit 0)
def qG(e sz:Nat)(g:Bool):IC:=.ops [m1 10 8,m1 5 10] [0,1,5,7,8] []
def jN(e sz:Nat)(g:Bool):IC:=.ops [m1 11 1,m1 12 0,m1 13 5,o1 14 (.iaddr (.t 12) (.t 13) e sz),o1 15 (.load (.t 14) sz g),o1 16 (.callvs (.t 11) [(.t 15)])] [0,1,5,7,8,16] []
def sD(e sz:Nat)(g:Bool):IC:=.ops [m1 17 5,m1 4 17] [4] []
def wI(e sz:Nat)(g:Bool):IC:=.seq (sD e sz g) .ret
def tB(e sz:Nat)(g:Bool):IC:=.cond (.t 16) (wI e sz g) .skip
def gR(e sz:Nat)(g:Bool):IC:=.seq (jN e sz g) (tB e sz g)
def mS(e sz:Nat)(g:Bool):IC:=.seq (qG e sz g) (gR e sz g)
def m6(e sz:Nat)(g:Bool):IC:=.block 1 (mS e sz g)
def jS(e sz:Nat)(g:Bool):IC:=.ops [o1 18 (.bin .add (.t 8) (ci 1)),m1 8 18] [0,1,7,8] []
def rE(e sz:Nat)(g:Bool):IC:=.seq (m6 e sz g) (jS e sz g)
def Afb(e sz:Nat)(g:Bool):IC:=.seq (m4 e sz g) (rE e sz g)
def AfH(e sz:Nat)(g:Bool):IC:=.seq (AdJ e sz g) (Afb e sz g)
def Aey(e sz:Nat)(g:Bool):IC:=.loop (AfH e sz g)
def Agx(e sz:Nat)(g:Bool):IC:=.block 0 (Aey e sz g)
def Agb(e sz:Nat)(g:Bool):IC:=.seq (AfB e sz g) (Agx e sz g)
def nZ(e sz:Nat)(g:Bool):IC:=.ops [o1 4 (.mv (ci (-1)))] [4] []
def n9(e sz:Nat)(g:Bool):IC:=.seq (nZ e sz g) .ret
def Ae3(e sz:Nat)(g:Bool):IC:=.seq (Agb e sz g) (n9 e sz g)
def Mz(e sz:Nat)(g:Bool):IC:=.seq (Adv e sz g) (Ae3 e sz g)
def YC:List R:=[.t 4]
@[push_cast]def AvI(e sz:Nat)(g:Bool):=AM (Adv.eq_1 e sz g)
@[push_cast]def Awa(e sz:Nat)(g:Bool):=AM (AfB.eq_1 e sz g)
@[push_cast]def Avj(e sz:Nat)(g:Bool):=AM (AdJ.eq_1 e sz g)
@[push_cast]def At0(e sz:Nat)(g:Bool):=AM (m4.eq_1 e sz g)
@[push_cast]def AtA(e sz:Nat)(g:Bool):=AM (qG.eq_1 e sz g)
@[push_cast]def Atg(e sz:Nat)(g:Bool):=AM (jN.eq_1 e sz g)
@[push_cast]def Ata(e sz:Nat)(g:Bool):=AM (sD.eq_1 e sz g)
@[push_cast]def At2(e sz:Nat)(g:Bool):=AM (wI.eq_1 e sz g)
@[push_cast]def Atd(e sz:Nat)(g:Bool):=AM (tB.eq_1 e sz g)
@[push_cast]def Atm(e sz:Nat)(g:Bool):=AM (gR.eq_1 e sz g)
@[push_cast]def Atu(e sz:Nat)(g:Bool):=AM (mS.eq_1 e sz g)
@[push_cast]def Atv(e sz:Nat)(g:Bool):=AM (m6.eq_1 e sz g)
@[push_cast]def Atc(e sz:Nat)(g:Bool):=AM (jS.eq_1 e sz g)
@[push_cast]def At6(e sz:Nat)(g:Bool):=AM (rE.eq_1 e sz g)
@[push_cast]def AtW(e sz:Nat)(g:Bool):=AM (Afb.eq_1 e sz g)
@[push_cast]def Avb(e sz:Nat)(g:Bool):=AM (AfH.eq_1 e sz g)
@[push_cast]def AuI(e sz:Nat)(g:Bool):=AM (Aey.eq_1 e sz g)
@[push_cast]def AvD(e sz:Nat)(g:Bool):=AM (Agx.eq_1 e sz g)
@[push_cast]def AtD(e sz:Nat)(g:Bool):=AM (Agb.eq_1 e sz g)
@[push_cast]def At5(e sz:Nat)(g:Bool):=AM (nZ.eq_1 e sz g)
@[push_cast]def At1(e sz:Nat)(g:Bool):=AM (n9.eq_1 e sz g)
@[push_cast]def AuU(e sz:Nat)(g:Bool):=AM (Ae3.eq_1 e sz g)
@[push_cast]def Av0(e sz:Nat)(g:Bool):=AM (Mz.eq_1 e sz g)
def Ae0(g:Nat):IC:=.ops [o1 4 (.mv (.c (.b false)))] [0,1] []
def Aep(g:Nat):IC:=.ops [m1 5 0,m1 6 1,o1 7 (.calls g [(.t 5),(.t 6)]),o1 8 (.bin .geq (.t 7) (ci 0)),m1 4 8] [4] []
def Afw(g:Nat):IC:=.seq (Aep g) .ret
def NE(g:Nat):IC:=.seq (Ae0 g) (Afw g)
def tL:List R:=[.t 4]
@[push_cast]def AtI(g:Nat):=AM (Ae0.eq_1 g)
@[push_cast]def AtN(g:Nat):=AM (Aep.eq_1 g)
@[push_cast]def Avt(g:Nat):=AM (Afw.eq_1 g)
@[push_cast]def Au3(g:Nat):=AM (NE.eq_1 g)
def Adw(e:Nat):IC:=.ops [o1 4 (.mv (ci 0))] [0,1] []
def AfQ(e:Nat):IC:=.ops [m1 6 0,o1 7 (.lenL (.t 6)),o1 8 (.mv (ci 0))] [0,1,7,8] []
def AeW(e:Nat):IC:=.ops [o1 9 (.bin .lss (.t 8) (.t 7))] [0,1,7,8,9] []
def mF(e:Nat):IC:=.cond (.t 9) .skip (.exit 0)
def sU(e:Nat):IC:=.ops [m1 10 8,m1 5 10] [0,1,5,7,8] []
def wM(e:Nat):IC:=.ops [m1 11 1,m1 12 0,m1 13 5,o1 14 (.iaddr (.t 12) (.t 13) e 1),o1 15 (.load (.t 14) 1 false),o1 16 (.bin .eql (.t 11) (.t 15))] [0,1,5,7,8,16] []
def nV(e:Nat):IC:=.ops [m1 17 5,m1 4 17] [4] []
def fW(e:Nat):IC:=.seq (nV e) .ret
def xW(e:Nat):IC:=.cond (.t 16) (fW e) .skip
def cH(e:Nat):IC:=.seq (wM e) (xW e)
def jJ(e:Nat):IC:=.seq (sU e) (cH e)
def uZ(e:Nat):IC:=.block 1 (jJ e)
def wO(e:Nat):IC:=.ops [o1 18 (.bin .add (.t 8) (ci 1)),m1 8 18] [0,1,7,8] []
def nG(e:Nat):IC:=.seq (uZ e) (wO e)
def Ae7(e:Nat):IC:=.seq (mF e) (nG e)
def Af6(e:Nat):IC:=.seq (AeW e) (Ae7 e)
def Afl(e:Nat):IC:=.loop (Af6 e)
def Ad5(e:Nat):IC:=.block 0 (Afl e)
def AfL(e:Nat):IC:=.seq (AfQ e) (Ad5 e)
def nB(e:Nat):IC:=.ops [o1 4 (.mv (ci (-1)))] [4] []
def iZ(e:Nat):IC:=.seq (nB e) .ret
def Afy(e:Nat):IC:=.seq (AfL e) (iZ e)
def Rr(e:Nat):IC:=.seq (Adw e) (Afy e)
def Abg:List R:=[.t 4]
@[push_cast]def AvK(e:Nat):=AM (Adw.eq_1 e)
@[push_cast]def Ave(e:Nat):=AM (AfQ.eq_1 e)
@[push_cast]def AtE(e:Nat):=AM (AeW.eq_1 e)
@[push_cast]def Atq(e:Nat):=AM (mF.eq_1 e)
@[push_cast]def Ath(e:Nat):=AM (sU.eq_1 e)
@[push_cast]def At4(e:Nat):=AM (wM.eq_1 e)
@[push_cast]def Aty(e:Nat):=AM (nV.eq_1 e)
@[push_cast]def At7(e:Nat):=AM (fW.eq_1 e)
@[push_cast]def Atr(e:Nat):=AM (xW.eq_1 e)
@[push_cast]def At3(e:Nat):=AM (cH.eq_1 e)
@[push_cast]def At8(e:Nat):=AM (jJ.eq_1 e)
@[push_cast]def Ati(e:Nat):=AM (uZ.eq_1 e)
@[push_cast]def Ate(e:Nat):=AM (wO.eq_1 e)
@[push_cast]def Atw(e:Nat):=AM (nG.eq_1 e)
@[push_cast]def Avl(e:Nat):=AM (Ae7.eq_1 e)
@[push_cast]def AtR(e:Nat):=AM (Af6.eq_1 e)
@[push_cast]def Aux(e:Nat):=AM (Afl.eq_1 e)
@[push_cast]def AtC(e:Nat):=AM (Ad5.eq_1 e)
@[push_cast]def AvU(e:Nat):=AM (AfL.eq_1 e)
@[push_cast]def At9(e:Nat):=AM (nB.eq_1 e)
@[push_cast]def Att(e:Nat):=AM (iZ.eq_1 e)
@[push_cast]def Av6(e:Nat):=AM (Afy.eq_1 e)
@[push_cast]def Ava(e:Nat):=AM (Rr.eq_1 e)
def Aec(g:Nat):IC:=.ops [o1 4 (.mv (.c (.b false)))] [0,1] []
def AdU(g:Nat):IC:=.ops [m1 5 0,m1 6 1,o1 7 (.call g [(.t 5),(.t 6)]),o1 8 (.bin .geq (.t 7) (ci 0)),m1 4 8] [4] []
def Agg(g:Nat):IC:=.seq (AdU g) .ret
def Yh(g:Nat):IC:=.seq (Aec g) (Agg g)
def Ai2:List R:=[.t 4]
@[push_cast]def Aua(g:Nat):=AM (Aec.eq_1 g)
@[push_cast]def AtG(g:Nat):=AM (AdU.eq_1 g)
@[push_cast]def AvB(g:Nat):=AM (Agg.eq_1 g)
@[push_cast]def AvT(g:Nat):=AM (Yh.eq_1 g)
end Go.Ir

namespace Go.Ir
open Go.Proofs
variable{P:Program}(W0:World){α:Type}
def B7(p:α->Bool):List α->Int
 | []=>-1
 | x::xs=>bif p x then 0 else if B7 p xs<0 then -1 else B7 p xs+1
theorem Gl(p:α->Bool):∀xs,decide (B7 p xs>=0)=xs.any p
 | []=>by simp[B7]
 | x::xs=>by
  have e:=Gl p xs;rw[AzG,<-e];rcases Ay3 (p x) with hp|hp
  .simp[B7,hp]
  .simp only[B7,hp,cond_false,Axu];grind
theorem Gj(p:α->Bool):∀xs,-1<=B7 p xs
 | []=>by simp[B7]
 | x::xs=>by have e:=Gj p xs;simp only[B7];cases p x<;>simp;split<;>omega
def Rv(e:Bool)(sz:Nat)(v:V):Prop:=(cells v).length=sz/\sub v 0 sz e=some v
theorem Jm{sz:Nat}{cs:List V}(h:cs.length=sz):Rv true sz (.agg cs):=by subst h;simp[Rv,cells,sub,Xr]
theorem Rv.get{e:Bool}{sz:Nat}{v:V}(h:Rv e sz v):(if e=true then some (V.agg (cells v)) else(cells v)[0]?)=some v:=by have:=h.2;unfold sub at this;simpa[h.1,Xr] using this
theorem oA{v:V}(h:cells v=[v]):Rv false 1 v:=by simp[Rv,h,sub]
theorem CM{f e sz:Nat}{t:Bool}(q:Au P f 19 (Mz e sz t) YC=true)(enc:α->V)(xs:List α)(p:α->Bool)(g:FuncId)(first j:List V)(σ:Aj)
  (u:∀x∈xs,Rv t sz (enc x))(A:∀x∈xs,Al P W0 g (first++[enc x]++j) σ (.b (p x)) σ)(w:xs.length<2^62) :
  Al P W0 f [.sl (xs.map enc),.fn g first j] σ (.i .i64 (B7 p xs)) σ:=by
 generalize hS:B7 p xs=S;refine Ae (vs:=[.i .i64 S]) q (by simp) (λ_ h=>h) λn0 C=>?_;simp only[push_cast,reduceEqDiff];intro _ _;refine Am xs.length (Inv:=λm st=>∃dn rest n,xs=dn++rest/\m=rest.length/\(if B7 p rest<0 then -1 else B7 p rest+dn.length)=S/\st=⟨[(0,.sl (xs.map enc)),(1,.fn g first j),(7,.i .i64 xs.length),(8,.i .i64 dn.length)],σ,n⟩) ⟨_,Ak.refl,[],_,_,rfl,rfl,?_,rfl⟩ ?_
 .have:=Gj p xs;rw[<-hS];simp;omega
 clear hS;rintro m _ ⟨dn,rest,n,o,rfl,r,rfl⟩;cases rest with
 | nil=>simp only[push_cast,reduceEqDiff,o];intro _ _;refine Bm ?_ (λ_ _ h=>h);rw[<-r];simp[B7,get]
 | cons x rest=>
  have D:=AL o;have s:x∈xs:=by rw[o];simp
  have y:=(u x s).1;have z:=(u x s).get;simp only[push_cast,reduceEqDiff,o,y,z];intro _ _;refine Bx (σi:=σ) (σo:=σ) (A x s) (λ_ _ h=>h) ?_;rw[C6];simp only[push_cast,reduceEqDiff];intro _
  ((first|apply Ab|apply Ah|apply Ag)<;>intro hp)<;>simp only[push_cast,reduceEqDiff,Ai x (dn:=dn) (by omega)]
  .intro _;refine Bm ?_ (λ_ _ h=>h);rw[<-r];simp[B7,hp,get]
  .intro _;refine⟨_,_,A0e _,Ak.refl,dn++[x],rest,_,by simp ,rfl,?_,rfl⟩;rw[<-r];have B:=Gj p rest;simp only[B7,hp,cond_false];grind
theorem C8{f g:Nat}(e:Au P f 9 (NE g) tL=true)(v w:V)(i:Int)(σ:Aj)(h:Al P W0 g [v,w] σ (.i .i64 i) σ):Al P W0 f [v,w] σ (.b (decide (i>=0))) σ:=by refine Ae (vs:=[.b (decide (i>=0))]) e (by simp) (λ_ h=>h) λn0 j=>?_;simp only[push_cast];intro _;refine Bx (σi:=σ) (σo:=σ) h (λ_ _ h=>h) ?_;rw[C6];simp only[push_cast];intro _;exact Bm (by simp[get]) (λ_ _ h=>h)
theorem vW{n d:Nat}{e x:A5}{id:Id}{σ:Aj}(g:id.1<n)(h:lk σ id=some e):lk (((n,d),x)::σ) id=some e:=by simp only[lk];grind
theorem If{f e:Nat}(g:Au P f 19 (Rr e) Abg=true)(xs:List Aa)(v:Aa)(o:xs.length<2^62):Al P W0 f [.sl (xs.map V.s),.s v] [] (.i .i64 (B7 (λx=>v==x) xs)) []:=by
 generalize hS:B7 (λx=>v==x) xs=S;refine Ae (vs:=[.i .i64 S]) g (by simp) (by simp) λn0 q=>?_;simp only[push_cast,reduceEqDiff];intro _ _;refine Am xs.length (Inv:=λm st=>∃dn rest n,xs=dn++rest/\m=rest.length/\(if B7 (λx=>v==x) rest<0 then -1 else B7 (λx=>v==x) rest+dn.length)=S/\st=⟨[(0,.sl (xs.map V.s)),(1,.s v),(7,.i .i64 xs.length),(8,.i .i64 dn.length)],[],n⟩) ⟨_,Ak.refl,[],_,_,rfl,rfl,?_,rfl⟩ ?_
 .have:=Gj (λx=>v==x) xs;rw[<-hS];simp;omega
 clear hS;rintro m _ ⟨dn,rest,n,j,rfl,h,rfl⟩;cases rest with
 | nil=>simp only[push_cast,reduceEqDiff,j];intro _ _;refine Af ?_;rw[<-h];simp[B7,get]
 | cons x rest=>
  have r:=AL j;simp only[push_cast,reduceEqDiff,j];intro _ _ _
  ((first|apply Ab|apply Ah|apply Ag)<;>intro hp)<;>simp only[push_cast,reduceEqDiff,Ai x (dn:=dn) (by omega)]
  .intro _;refine Af ?_;rw[<-h];simp[B7,hp,get]
  .intro _;refine⟨_,_,A0e _,Ak.refl,dn++[x],rest,_,by simp ,rfl,?_,rfl⟩;rw[<-h];have p:=Gj (λx=>v==x) rest;simp only[B7,hp,cond_false];grind
theorem TL{f e:Nat}(g:Au P f 19 (Rr e) Abg=true)(xs:List Int)(v:Int)(o:xs.length<2^62):Al P W0 f [.sl (xs.map (V.i .i64)),.i .i64 v] [] (.i .i64 (B7 (λx=>v==x) xs)) []:=by
 generalize hS:B7 (λx=>v==x) xs=S;refine Ae (vs:=[.i .i64 S]) g (by simp) (by simp) λn0 q=>?_;simp only[push_cast,reduceEqDiff];intro _ _;refine Am xs.length (Inv:=λm st=>∃dn rest n,xs=dn++rest/\m=rest.length/\(if B7 (λx=>v==x) rest<0 then -1 else B7 (λx=>v==x) rest+dn.length)=S/\st=⟨[(0,.sl (xs.map (V.i .i64))),(1,.i .i64 v),(7,.i .i64 xs.length),(8,.i .i64 dn.length)],[],n⟩) ⟨_,Ak.refl,[],_,_,rfl,rfl,?_,rfl⟩ ?_
 .have:=Gj (λx=>v==x) xs;rw[<-hS];simp;omega
 clear hS;rintro m _ ⟨dn,rest,n,j,rfl,h,rfl⟩;cases rest with
 | nil=>simp only[push_cast,reduceEqDiff,j];intro _ _;refine Af ?_;rw[<-h];simp[B7,get]
 | cons x rest=>
  have r:=AL j;simp only[push_cast,reduceEqDiff,j];intro _ _ _
  ((first|apply Ab|apply Ah|apply Ag)<;>intro hp)<;>simp only[push_cast,reduceEqDiff,Ai x (dn:=dn) (by omega)]
  .intro _;refine Af ?_;rw[<-h];simp[B7,hp,get]
  .intro _;refine⟨_,_,A0e _,Ak.refl,dn++[x],rest,_,by simp ,rfl,?_,rfl⟩;rw[<-h];have p:=Gj (λx=>v==x) rest;simp only[B7,hp,cond_false];grind
theorem HJ{f g:Nat}(e:Au P f 9 (Yh g) Ai2=true)(v w:V)(i:Int)(h:Al P W0 g [v,w] [] (.i .i64 i) []):Al P W0 f [v,w] [] (.b (decide (i>=0))) []:=by
 refine Ae (vs:=[.b (decide (i>=0))]) e (by simp) (by simp) λn0 j=>?_;simp only[push_cast];have _h:=trivial;repeat' (first|(first|((first|apply Ab|apply Ah|apply Ag)<;>intro _h)|refine Ac h ?_)<;>(simp only[push_cast];try (have _g:=_h;simp at _g))|intro _)
 all_goals (first|(refine Af ?_;simp[get]<;>(intros;omega);done)|(refine Ad ?_;simp[push_cast,get];done)|skip)
end Go.Ir
section
namespace Go.Ir
open Go.Proofs
variable{P:Program}(W0:World){α:Type}
section
variable{P:Program}{W0:World}{nt n:Nat}{Q:Exit→St→Prop}{env:A9}{σ:Aj}
@[push_cast] def AeD(g:Nat):List I:=[⟨some 4,.mv (.c (.b false)),none,[]⟩]
def fJ(g:Nat):IC:=.ops (AeD g) [0,1] []
@[push_cast] theorem Avw{g:Nat}:aW P W0 nt (fJ g) Q ⟨env,σ,n⟩=J P W0 n [0,1] Q (AeD g) env σ:=rfl
@[push_cast] def AeG(g:Nat):List I:=[⟨some 5,.mv (.t 0),none,[]⟩,
 ⟨some 6,.mv (.t 1),none,[]⟩,
 ⟨some 7,.calls g [(.t 5),(.t 6)],none,[]⟩,
 ⟨some 8,.bin .geq (.t 7) (.c (.i .i64 0)),none,[]⟩,
 ⟨some 4,.mv (.t 8),none,[]⟩]
def uF(g:Nat):IC:=.ops (AeG g) [4] []
@[push_cast] theorem AtS{g:Nat}:aW P W0 nt (uF g) Q ⟨env,σ,n⟩=J P W0 n [4] Q (AeG g) env σ:=rfl
def kO(g:Nat):IC:=.seq (uF g) .ret
@[push_cast] theorem Av2{g:Nat}:aW P W0 nt (kO g) Q ⟨env,σ,n⟩=aW P W0 nt (uF g) (N5 P W0 nt .ret Q) ⟨env,σ,n⟩:=rfl
def AoW(g:Nat):IC:=.seq (fJ g) (kO g)
@[push_cast] theorem AtM{g:Nat}:aW P W0 nt (AoW g) Q ⟨env,σ,n⟩=aW P W0 nt (fJ g) (N5 P W0 nt (kO g) Q) ⟨env,σ,n⟩:=rfl
end
end Go.Ir
end
namespace Go.Ir
open Go.Proofs
variable{P:Program}{W0:World}{nt n:Nat}{Q:Exit→St→Prop}{env:A9}{σ:Aj}
def s8:IC:=sQ (.block 3 (oP [m1 21 3,m1 22 0,m1 23 4,iA 24 22 23 172 1,l1 25 24,m1 26 5,iA 27 25 26 175 4,fA 28 27 3,l1 29 28,nL 30 29,o1 31 (.bin .add (ci 1) (.t 30)),bT 32 .add 21 31,m1 3 32] [0,3,4,5])) (oP [m1 19 5,bZ 20 .add 19 1,m1 5 20] [0,3,4,5])
def tE:IC:=sQ (.block 1 (sQ (oS [mZ 5 0] [0,3,4,5] (.block 2 (.loop (sQ (oS [m1 12 5,m1 13 0,m1 14 4,iA 15 13 14 172 1,l1 16 15,nL 17 16,bT 18 .lss 12 17] [0,3,4,5,18] (cD 18 .skip (.exit 2))) s8)))) (oS [m1 33 3,bZ 34 .gtr 33 80] [0,3,4,34] (cD 34 (oR [mC 2 (.b false)] [2]) .skip)))) (oP [m1 10 4,bZ 11 .add 10 1,m1 4 11] [0,3,4])
def Age:IC:=oS [mZ 3 0] [0,3] (sQ (oS [mZ 4 0] [0,3,4] (.block 0 (.loop (sQ (oS [m1 6 4,m1 7 0,nL 8 7,bT 9 .lss 6 8] [0,3,4,9] (cD 9 .skip (.exit 0))) tE)))) (oR [m1 35 0,nL 36 35,bZ 37 .leq 36 30,m1 2 37] [2]))
def Aga:IC:=oS [mC 2 (.b false)] [0] Age
@[push_cast]def AuG:List R:=[.t 2]
@[push_cast]def Azg:=Ap s8.eq_1<|Ap tE.eq_1<|Ap Age.eq_1<|AM Aga.eq_1
theorem AqZ:Au π 53 38 Aga AuG=true:=by kernel_rfl
end Go.Ir
section
namespace Go.Ir
open Go.Proofs
variable(W0:World)
mutual
def Aw.solid:Aw->Bool
 | ⟨k,_,_,_,cs,ps⟩=>!Dh k&&KP ps&&X3 cs
def KP:List Aw->Bool
 | []=>true
 | p::ps=>p.solid&&KP ps
def X3:List (Aa×List Aw)->Bool
 | []=>true
 | (_,ps)::cs=>KP ps&&X3 cs
end
end Go.Ir
end
namespace Go.Ir
open Go.Proofs
variable(W0:World)
end Go.Ir
section
namespace Go.Ir
open Go.Proofs
variable(W0:World)
mutual
def Aw.depth:Aw->Nat
 | ⟨_,_,_,_,cs,ps⟩=>max (max 1 (1+PS ps)) (Wb cs)
def PS:List Aw->Nat
 | []=>0
 | p::ps=>max p.depth (PS ps)
def Wb:List (Aa×List Aw)->Nat
 | []=>0
 | (_,ps)::cs=>max (1+PS ps) (Wb cs)
end
mutual
def Aw.size:Aw->Nat
 | ⟨_,t,_,_,cs,ps⟩=>1+OZ ps+t.length / 20+TQ cs
def OZ:List Aw->Nat
 | []=>0
 | p::ps=>p.size+OZ ps
def TQ:List (Aa×List Aw)->Nat
 | []=>0
 | (_,ps)::cs=>1+OZ ps+TQ cs
end
theorem Aw.size_eq(p:Aw):p.size=1+OZ p.parts+p.text.length / 20+TQ p.cases:=by cases p;simp[Aw.size]
end Go.Ir
end
namespace Go.Ir
open Go.Proofs
variable(W0:World)
end Go.Ir

namespace Go.Ir
structure FT where
 lo:Int
 hi:Int
structure CI where
 op:Int
 mod:Int
 neg:Bool
 spans:List FT
structure AH where
 cls:Aa
 cond:List (List CI)
def FT.enc(s:FT):V:=.agg [.i .i64 s.lo,.i .i64 s.hi]
def CI.enc(r:CI):V:=.agg [.i .i64 r.op,.i .i64 r.mod,.b r.neg,.sl (r.spans.map FT.enc)]
def EF(l:List CI):V:=.sl (l.map CI.enc)
def AH.enc(r:AH):V:=.agg [.s r.cls,.sl (r.cond.map EF)]
@[push_cast] theorem FT.enc_eq(s:FT):s.enc=.agg [.i .i64 s.lo,.i .i64 s.hi]:=rfl
@[push_cast] theorem CI.enc_eq(r:CI):r.enc=.agg [.i .i64 r.op,.i .i64 r.mod,.b r.neg,.sl (r.spans.map FT.enc)]:=rfl
@[push_cast] theorem Q0(l:List CI):EF l=.sl (l.map CI.enc):=rfl
@[push_cast] theorem AH.enc_eq(r:AH):r.enc=.agg [.s r.cls,.sl (r.cond.map EF)]:=rfl
def CI.wt(r:CI):Nat:=1+r.spans.length
def Cy:List CI->Nat
 | []=>1
 | r::e=>r.wt+Cy e
def Dl:List (List CI)->Nat
 | []=>0
 | r::e=>Cy r+Dl e
def AH.wt(r:AH):Nat:=1+r.cls.length+Dl r.cond
def A8:List AH->Nat
 | []=>0
 | r::e=>r.wt+A8 e
theorem HP{l:List CI}{r:CI}(h:r∈l):r.wt<=Cy l:=by
 induction l with
 | nil=>cases h
 | cons d l e=>rw[Cy];grind
theorem Iu{l:List (List CI)}{r:List CI}(h:r∈l):Cy r<=Dl l:=by
 induction l with
 | nil=>cases h
 | cons d l e=>rw[Dl];grind
theorem Fc{l:List AH}{r:AH}(h:r∈l):r.wt<=A8 l:=by
 induction l with
 | nil=>cases h
 | cons d l e=>rw[A8];grind
theorem ES(l:List CI):l.length<Cy l:=by
 induction l with
 | nil=>simp[Cy]
 | cons d l e=>rw[Cy,Aj0,CI.wt];omega
theorem HW(l:List (List CI)):l.length<=Dl l:=by
 induction l with
 | nil=>simp
 | cons d l e=>rw[Dl,Aj0];have:=ES d;omega
theorem Fl(l:List AH):l.length<=A8 l:=by
 induction l with
 | nil=>simp
 | cons d l e=>rw[A8,Aj0,AH.wt];omega
structure Loc where
 tag:Aa
 parent:Aa
 dir:Aa
 card:List AH
 ord:List AH
 rest:List V
def Loc.enc(l:Loc):V:=.agg (.s l.tag :: .s l.parent :: .s l.dir :: .sl (l.card.map AH.enc) :: .sl (l.ord.map AH.enc)::l.rest)
@[push_cast] theorem Loc.enc_eq(l:Loc):l.enc=.agg (.s l.tag :: .s l.parent :: .s l.dir :: .sl (l.card.map AH.enc) :: .sl (l.ord.map AH.enc)::l.rest):=rfl
end Go.Ir
section
namespace Go.Ir
structure CN where
 style:Aa
 two:Aa
 start:Aa
 mid:Aa
 fin:Aa
structure DG where
 unit:Aa
 cls:Aa
 pat:Aa
structure CX where
 skel:Aa
 pat:Aa
structure BQ where
 tag:Aa
 parent:Aa
 dir:Aa
 card:List AH
 ord:List AH
 dec:Aa
 grp:Aa
 minus:Aa
 perc:Aa
 prim:Int
 sec:Int
 lists:List CN
 units:List DG
 dates:List CX
 months:List Aa
 days:List Aa
def CN.enc(x:CN):V:=.agg [.s x.style,.s x.two,.s x.start,.s x.mid,.s x.fin]
def DG.enc(x:DG):V:=.agg [.s x.unit,.s x.cls,.s x.pat]
def CX.enc(x:CX):V:=.agg [.s x.skel,.s x.pat]
@[push_cast] theorem CN.enc_eq(x:CN):x.enc=.agg [.s x.style,.s x.two,.s x.start,.s x.mid,.s x.fin]:=rfl
@[push_cast] theorem DG.enc_eq(x:DG):x.enc=.agg [.s x.unit,.s x.cls,.s x.pat]:=rfl
@[push_cast] theorem CX.enc_eq(x:CX):x.enc=.agg [.s x.skel,.s x.pat]:=rfl
def BQ.enc(l:BQ):V:=.agg [.s l.tag,.s l.parent,.s l.dir,.sl (l.card.map AH.enc),.sl (l.ord.map AH.enc),.s l.dec,.s l.grp,.s l.minus,.s l.perc,.i .i64 l.prim,.i .i64 l.sec,.sl (l.lists.map CN.enc),.sl (l.units.map DG.enc),.sl (l.dates.map CX.enc),.sl (l.months.map V.s),.sl (l.days.map V.s)]
@[push_cast] theorem BQ.enc_eq(l:BQ):l.enc=.agg [.s l.tag,.s l.parent,.s l.dir,.sl (l.card.map AH.enc),.sl (l.ord.map AH.enc),.s l.dec,.s l.grp,.s l.minus,.s l.perc,.i .i64 l.prim,.i .i64 l.sec,.sl (l.lists.map CN.enc),.sl (l.units.map DG.enc),.sl (l.dates.map CX.enc),.sl (l.months.map V.s),.sl (l.days.map V.s)]:=rfl
def CN.wt(x:CN):Nat:=1+x.style.length+x.two.length+x.start.length+x.mid.length+x.fin.length
def DG.wt(x:DG):Nat:=1+x.unit.length+x.cls.length+x.pat.length
def CX.wt(x:CX):Nat:=1+x.skel.length+x.pat.length
def B5{α:Type}(f:α->Nat):List α->Nat
 | []=>0
 | x::l=>f x+B5 f l
theorem EB{α:Type}{f:α->Nat}(e:∀x,1<=f x)(l:List α):l.length<=B5 f l:=by
 induction l with
 | nil=>simp
 | cons d l g=>rw[B5,Aj0];have:=e d;omega
def swt(s:Aa):Nat:=1+s.length
def BQ.wt(l:BQ):Nat:=1+l.tag.length+l.parent.length+l.dir.length+A8 l.card+A8 l.ord+l.dec.length+l.grp.length+l.minus.length+l.perc.length+B5 CN.wt l.lists+B5 DG.wt l.units+B5 CX.wt l.dates+B5 swt l.months+B5 swt l.days
mutual
def Aw.bare:Aw->Bool
 | ⟨k,_,_,_,_,ps⟩=>(k==1||k==11)&&nA ps
def nA:List Aw->Bool
 | []=>true
 | p::ps=>p.bare&&nA ps
end
mutual
def Aw.out:Aw->Aa
 | ⟨k,t,e,_,_,ps⟩=>if k==1 then t else([60]++e++[62])++AfX ps++([60,47]++e++[62])
def AfX:List Aw->Aa
 | []=>[]
 | p::ps=>p.out++AfX ps
end
end Go.Ir
end
namespace Go.Ir
def BZ(s:Aa):Bool:=s.all λc=>!(decide (c<48)||decide (c>57))
def D6(s:Aa):Bool:=s.all λc=>c==48
def Jk(s:Aa):Bool:=match s with
 | 45::_=>true
 | _=>false
def GB(s:Aa):Aa:=if Jk s then s.tail else s
def AO(s:Aa):Aa:=(GB s).takeWhile (· != 46)
def PR(s:Aa):Aa:=(GB s).dropWhile (· != 46)
def Bo(s:Aa):Aa:=(PR s).tail
def nJ(s:Aa):Bool:=match s[0]? with
 | some c=>(c.toNat:Int)==48
 | none=>false
def DL(s:Aa):Bool:=
 !(decide (((AO s).length:Int)<1)||decide (((AO s).length:Int)>15)||!BZ (AO s)||decide (((AO s).length:Int)>1)&&nJ (AO s))
  && !((!(PR s).isEmpty&&((Bo s).length:Int)==0)||decide (((Bo s).length:Int)>6)||!BZ (Bo s))&&(!Jk s||!(D6 (AO s)&&D6 (Bo s)))
theorem II(s:Aa):GB s=AO s++PR s:=(List.takeWhile_append_dropWhile).symm
theorem QS(s:Aa):(GB s).length<=s.length:=by unfold GB;split<;>simp
theorem Ko(s:Aa):(AO s).length<=s.length:=by have:=QS s;rw[II,Ai8] at this;omega
theorem RJ(s:Aa):(AO s).length+(Bo s).length<=s.length:=by have:=QS s;rw[II,Ai8] at this;unfold Bo;grind
theorem AbC{w t:Aa}{c:UInt8}(h:∀x∈w,(x !=c)=true):Lib.indexByte (w++c::t) c=w.length:=by
 induction w with
 | nil=>simp[Lib.indexByte]
 | cons x w g=>have i:=h x (by simp);have:=g (λy e=>h y (by simp[e]));simp only[AtX,Lib.indexByte,this];grind
theorem tG{w:Aa}{c:UInt8}(h:∀x∈w,(x !=c)=true):Lib.indexByte w c=-1:=by
 induction w with
 | nil=>simp[Lib.indexByte]
 | cons x w g=>have i:=h x (by simp);have:=g (λy e=>h y (by simp[e]));simp only[Lib.indexByte,this];grind
theorem Nj{α:Type}{p:α->Bool}(l:List α):∀x∈l.takeWhile p,p x=true:=by intro x e;exact AmF.1 List.all_takeWhile x e
theorem GV{α:Type}{p:α->Bool}{l t:List α}{c:α}(h:l.dropWhile p=c::t):p c=false:=by
 induction l with
 | nil=>simp at h
 | cons x l e=>rw[List.dropWhile_cons] at h;grind
theorem oT{α:Type}{p:α->Bool}{w r:List α}(h:∀x∈w,p x=true)(e:∀x∈r.head?,p x=false):(w++r).takeWhile p=w/\(w++r).dropWhile p=r:=by
 induction w with
 | nil=>
  cases r with
  | nil=>simp
  | cons x r=>simp_all
 | cons x w g=>simp_all
def Aqm(d:Nat)(c:UInt8):Nat:=10*d+(c.toNat-48)
def L5(d:Nat)(s:Aa):Nat:=s.foldl Aqm d
theorem i7(d:Nat):L5 d []=d:=rfl
theorem Ou(d:Nat)(c:UInt8)(s:Aa):L5 d (c::s)=L5 (10*d+(c.toNat-48)) s:=Awh ..
theorem RQ(s:Aa):∀d,BZ s=true->Lib.decFrom d s=some (L5 d s):=by
 induction s with
 | nil=>intro d _;rw[i7,Lib.decFrom]
 | cons c s i=>
  intro d h;simp only[BZ,Azq,A0b] at h;have e:=h.1;simp[UInt8.lt_iff_toNat_lt] at e;have g:Lib.digitVal c=some (c.toNat-48):=by unfold Lib.digitVal;simp;omega
  rw[Lib.decFrom,g];simp only[Ou];rw[Nat.mul_comm 10 d];exact i _ h.2
theorem dN(s:Aa)(h:BZ s=true):Lib.atoi (48::s)=some (L5 0 s:Int):=by have:=RQ (48::s) 0 (by simpa[BZ] using h);simp[Lib.atoi,Lib.decNat,this,Ou]
def J2(s:Aa):Aa:=Lib.trimRightS s [48]
theorem Fz{α:Type}{p:α->Bool}{l:List α}:l.dropWhile p=[]↔∀x∈l,p x=true:=by
 induction l with
 | nil=>simp
 | cons x l e=>rw[List.dropWhile_cons];grind
theorem NL(s cs:Aa):(Lib.trimS s cs==[])=s.all (λc=>cs.contains c):=by
 rcases Ay3 (s.all (λc=>cs.contains c)) with h|h
 .rw[h];have:s.reverse.dropWhile (λc=>cs.contains c)=[]:=by rw[Fz];grind
  unfold Lib.trimS Lib.trimLeftS Lib.trimRightS;rw[this];rfl
 .rw[h];rw[List.all_eq_false] at h;obtain⟨x,j,hp⟩:=h;rw[beq_eq_false_iff_ne];intro e;unfold Lib.trimS Lib.trimLeftS Lib.trimRightS at e;rw[Fz] at e;cases g:s.reverse.dropWhile (λc=>cs.contains c) with
  | nil=>rw[Fz] at g;grind
  | cons d t=>have i:=GV g;grind
theorem O2(s:Aa):(Lib.trimS s [48,49,50,51,52,53,54,55,56,57]==[])=BZ s:=by rw[NL];unfold BZ;congr 1;funext c;rw[AtK];simp[UInt8.lt_iff_toNat_lt,<-AzN];omega
theorem U1(s:Aa):(Lib.trimS s [48]==[])=D6 s:=by rw[NL];unfold D6;grind
theorem DU(s:Aa):Lib.hasPrefix s [45]=Jk s:=by
 unfold Lib.hasPrefix Jk;split
 .simp 
 .rename_i h;cases s with
  | nil=>simp 
  | cons c s=>simp only[List.isPrefixOf,AxN,beq_eq_false_iff_ne];intro e;exact h s (by rw[<-e])
theorem EO(s:Aa):Lib.trimPrefix s [45]=GB s:=by unfold Lib.trimPrefix GB;rw[DU];split<;>simp
theorem xQ(s:Aa):∀x∈(PR s).head?,(x !=46)=false:=by
 intro x e;cases h:PR s with
 | nil=>rw[h] at e;simp at e
 | cons c t=>rw[h] at e;simp at e;subst e;exact GV (p:=(· != 46)) h
theorem OA{s:Aa}(h:BZ s=true):BZ (J2 s)=true:=by unfold BZ at *;rw[AmF] at *;intro x e;refine h x ?_;unfold J2 Lib.trimRightS at e;have:=(AyL (l:=s.reverse) (λc=>List.contains [48] c)).mem (by simpa using e);simpa using this
theorem wH(s:Aa):(J2 s).length<=s.length:=by unfold J2 Lib.trimRightS;rw[AzS];exact AmH (AyL _).length_le (by simp)
def opV(s:Aa)(op:Int):Int×Int:=
 if DL s then
  if op=1 then(if J2 (Bo s)==[] then(L5 0 (AO s),0) else(0,8))
  else if op=2 then(L5 0 (AO s),0)
  else if op=3 then((Bo s).length,0)
  else if op=4 then((J2 (Bo s)).length,0)
  else if op=5 then(L5 0 (Bo s),0)
  else if op=6 then(L5 0 (J2 (Bo s)),0)
  else(0,1)
 else(0,1)
theorem FU{s:Aa}(h:DL s=true):BZ (AO s)=true/\BZ (Bo s)=true/\(AO s).length<=15/\(Bo s).length<=6:=by unfold DL at h;grind
abbrev Dt:=List (Aa×Int)
def AV:Dt->Aa->Option Int
 | [],_=>none
 | e::m,n=>if e.1==n then some e.2 else AV m n
def Er:Dt->Aa->Int->Dt
 | [],n,k=>[(n,k)]
 | e::m,n,k=>if e.1==n then(e.1,k)::m else e::Er m n k
end Go.Ir
