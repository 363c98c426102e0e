/- Parts of the proof: the calculus of walks, contracts of functions, plain laws; each theorem states its conditions. -/
import Derived.Test.YtalbicndcfmbnaaGreatDoorTab
import Derived.Lib.UnsafeStr
import Derived.Shelf.Strings.Builder1
import Derived.KernelRfl
import Derived.Lib.SlTrimSet
import Derived.Lib.Bytealg
import Derived.Lib.Atoi
set_option linter.all false
open Nat (reduceEqDiff)
section
namespace Go.Ir
open Go.RowKit
noncomputable section
variable[F2]
def Nu(m:Nat)(v:V):Bool:=V.rec (motive_1:=λ_=>Bool) (motive_2:=λ_=>Bool) (λ_=>true) (λ_ _=>true) (λ_=>true) true (λ_ h=>h) (λ_ h=>h) (λ_ h=>h) (λid _=>Nat.blt id.1 m) (λid=>Nat.blt id.1 m) (λid _ _ _=>Nat.blt id.1 m) (λ_ _ h=>h) (λ_ _ _ e g=>e&&g) true true true true true true true true (λ_ _ e g=>e&&g) v
def Kg(m:Nat):List V->Bool
 | []=>true
 | v::vs=>Nu m v&&Kg m vs
theorem Mc{a m:Nat}(h:Nat.blt a m=true):a<m:=AzB ▸ h
def Ao5(m:Nat)(vs:List V):Bool:=V.rec_1 (motive_1:=λ_=>Bool) (motive_2:=λ_=>Bool) (λ_=>true) (λ_ _=>true) (λ_=>true) true (λ_ h=>h) (λ_ h=>h) (λ_ h=>h) (λid _=>Nat.blt id.1 m) (λid=>Nat.blt id.1 m) (λid _ _ _=>Nat.blt id.1 m) (λ_ _ h=>h) (λ_ _ _ e g=>e&&g) true true true true true true true true (λ_ _ e g=>e&&g) vs
theorem Hf(m:Nat):∀vs:List V,Ao5 m vs=Kg m vs
 | []=>rfl
 | v::vs=>by show(Nu m v&&Ao5 m vs)=_;rw[Hf m vs];rfl
theorem Akp{m:Nat}{es:List V}:Nu m (.sl es)=Kg m es:=Hf m es
theorem Aaf{m:Nat}{es:List V}:Nu m (.agg es)=Kg m es:=Hf m es
theorem Ack{m:Nat}{es:List V}:Nu m (.tup es)=Kg m es:=Hf m es
theorem Amu{m:Nat}{f:FuncId}{a c:List V}:Nu m (.fn f a c)=(Kg m a&&Kg m c):=by rw[<-Hf,<-Hf];rfl
theorem DC{m:Nat}:(∀v:V,Nu m v=true->Bb (Lt m) v)/\∀vs:List V,Kg m vs=true->∀v∈vs,Bb (Lt m) v:=by
 have key:∀n:Nat,(∀v:V,SizeOf.sizeOf v<n->Nu m v=true->Bb (Lt m) v)/\∀vs:List V,SizeOf.sizeOf vs<n->Kg m vs=true->∀v∈vs,Bb (Lt m) v:=by
  intro n
  induction n with
  | zero=>grind
  | succ n j=>
   refine⟨λv g h=>?_,λvs g h=>?_⟩
   .cases v with
    | sl es=>simp at g;exact .sl _ (j.2 es (by omega) (by rw[<-Akp];exact h))
    | agg es=>simp at g;exact .agg _ (j.2 es (by omega) (by rw[<-Aaf];exact h))
    | tup es=>simp at g;exact .tup _ (j.2 es (by omega) (by rw[<-Ack];exact h))
    | fn f a c=>simp at g;rw[Amu,AzP] at h;exact .fn _ _ _ (j.2 a (by omega) h.1) (j.2 c (by omega) h.2)
    | b x=>exact .b x
    | i k n=>exact .i k n
    | s l=>exact .s l
    | nil=>exact .nil
    | np=>exact .np
    | nf=>exact .nf
    | ni=>exact .ni
    | nm=>exact .nm
    | ub=>exact .ub
    | iv=>exact .iv
    | any=>exact .any
    | ref=>exact .ref _ _ (Mc h)
    | arr=>exact .arr _ (Mc h)
    | aref=>exact .aref _ _ _ _ (Mc h)
    | ep e o=>simp at g;exact .ep _ _ (j.1 e (by omega) h)
   .cases vs with
    | nil=>intro v p;cases p
    | cons x xs=>simp at g;simp only[Kg,AzP] at h;grind
 exact⟨λv=>(key (SizeOf.sizeOf v+1)).1 v (AzS _),λvs=>(key (SizeOf.sizeOf vs+1)).2 vs (AzS _)⟩
def elt(m:Nat):A5->Bool
 | .box v=>Nu m v
 | .tbox _ v=>Nu m v
 | .arr _ _ es=>Kg m es
 | .map es=>es.all λp=>Nu m p.1&&Nu m p.2
 | .it _ _=>true
 | .mit mid _ _ _=>Nat.blt mid.1 m
 | .loop _ env _ a b _ _=>((a.cl&&b.cl)&&(a.nr&&b.nr))&&env.all λp=>Nu m p.2
theorem Vb{S:Id->Prop}:∀{env:A9},(∀p∈env,Bb S p.2)->∀s,Bb S (get env s)
 | [],_,s=>.any
 | (k,v)::env,h,s=>by
  simp only[get];split
  .simp_all
  .exact Vb (λp hp=>h p (by simp[hp])) s
theorem jE{m:Nat}{e:A5}(h:elt m e=true):IA (Lt m) e:=by
 cases e with
 | box v=>exact .box _ (DC.1 v h)
 | tbox t v=>exact .tbox _ _ (DC.1 v h)
 | arr a b es=>exact .arr _ _ _ (DC.2 es h)
 | map es=>refine .map _ λx g=>?_;have:=Am3.1 h x g;simp only[AzP] at this;exact⟨DC.1 _ this.1,DC.1 _ this.2⟩
 | it l p=>exact .it _ _
 | mit mid s j st=>exact .mit _ _ _ _ (Mc h)
 | loop nt env ps a b st i=>
  have h:=(Bool.and_eq_true_iff.1 h)
  exact .loop _ _ _ _ _ _ _ (Vb λp hp=>DC.1 _ (Am3.1 h.2 p hp)) h.1
def slt(m:Nat)(σ:Aj):Bool:=σ.all λp=>Nat.blt p.1.1 m&&elt m p.2
theorem JK:∀{σ:Aj} {id:Id} {e:A5},lk σ id=some e->(id,e)∈σ
 | [],_,_,h=>by cases h
 | (k,x)::σ,id,e,h=>by
  simp only[lk] at h;split at h
  .grind
  .exact AzQ _ (JK h)
theorem rY{m:Nat}{σ:Aj}(h:slt m σ=true):BV (Lt m) σ:=by intro id e g;have:=Am3.1 h _ (JK g);simp only[AzP] at this;exact⟨Mc this.1,jE this.2⟩
def Z6(v:V)(a:List Id):List Id:=V.rec (motive_1:=λ_=>List Id->List Id) (motive_2:=λ_=>List Id->List Id) (λ_ a=>a) (λ_ _ a=>a) (λ_ a=>a) (λa=>a) (λ_ h=>h) (λ_ h=>h) (λ_ h=>h) (λid _ a=>id::a) (λid a=>id::a) (λid _ _ _ a=>id::a) (λ_ _ h=>h) (λ_ _ _ e g a=>e (g a)) (λa=>a) (λa=>a) (λa=>a) (λa=>a) (λa=>a) (λa=>a) (λa=>a) (λa=>a) (λ_ _ e g a=>e (g a)) v a
def V1(vs:List V)(a:List Id):List Id:=List.rec (motive:=λ_=>List Id) a (λv _ e=>Z6 v e) vs
def Au6:A5->List Id->List Id
 | .box v,a=>Z6 v a
 | .tbox _ v,a=>Z6 v a
 | .arr _ _ es,a=>V1 es a
 | .map es,a=>es.foldr (λp a=>Z6 p.1 (Z6 p.2 a)) a
 | .it _ _,a=>a
 | .mit mid _ _ _,a=>mid::a
 | .loop _ env _ _ _ _ _,a=>env.foldr (λp a=>Z6 p.2 a) a
def Aq9(id:Id)(l:List Id):Bool:=List.rec (motive:=λ_=>Bool) false (λk _ e=>Bool.rec (motive:=λ_=>Bool) e true (So k id)) l
def Ty(σ:Aj)(k:Nat):List Id->List Id->List Id:=Nat.rec (motive:=λ_=>List Id->List Id->List Id) (λ_ seen=>seen) (λ_ h g seen=>match g with
 | []=>seen
 | id::g=>Bool.rec (motive:=λ_=>List Id) (match He σ id with
  | some e=>h (Au6 e g) (id::seen)
  | none=>h g seen) (h g seen) (Aq9 id seen)) k
def MQ(q:Id->Bool)(σ:Aj):Aj:=List.rec (motive:=λ_=>Aj) [] (λp _ e=>Bool.rec (motive:=λ_=>Aj) e (p::e) (q p.1)) σ
theorem Ox(q:Id->Bool):∀σ:Aj,MQ q σ=σ.filter λp=>q p.1
 | []=>rfl
 | p::σ=>by
  have e:MQ q (p::σ)=Bool.rec (motive:=λ_=>Aj) (MQ q σ) (p::MQ q σ) (q p.1):=rfl;rw[e,Ox q σ];cases g:q p.1 with
  | false=>grind
  | true=>grind
theorem KH(q:Id->Bool)(σ:Aj)(k:Id):lk (MQ q σ) k=if q k then lk σ k else none:=by rw[Ox,Ob]
def KP(o:Option A5):Bool:=Option.rec (motive:=λ_=>Bool) false (λ_=>true) o
theorem MF(o:Option A5):KP o=o.isSome:=by cases o<;>rfl
def Lj(σ τ:Aj):Aj:=MQ (λid=>KP (He σ id)) τ
theorem Jq{σ τ:Aj}(id:Id):lk (Lj σ τ) id=if(lk σ id).isSome then lk τ id else none:=by unfold Lj;rw[KH,MF,B4]
section
variable{P:Program}{W0:World}
def LR(s:List Id)(σ:Aj):Aj:=MQ (λid=>Aq9 id s) σ
def HR(args:List V)(σ:Aj):Aj:=LR (Ty σ 1000 (V1 args []) []) σ
theorem LN(args:List V)(σ:Aj):∀id e,lk (HR args σ) id=some e->lk σ id=some e:=by intro id e h;unfold HR LR at h;rw[KH] at h;grind
def MG(f:V->Option V):List V->Option (List V)
 | []=>some []
 | v::vs=>match f v with
  | some w=>match MG f vs with
   | some e=>some (w::e)
   | none=>none
  | none=>none
theorem DK{f:V->Option V}:∀{l e:List V},MG f l=some e->l.length=e.length/\∀(k:Nat) (c i:V),l[k]?=some c->e[k]?=some i->f c=some i
 | [],e,h=>by cases h;grind
 | v::vs,e,h=>by
  rw[MG] at h;split at h
  .rename_i w p;split at h
   .rename_i q g;cases h;obtain⟨j,o⟩:=DK g;grind
   .cases h
  .cases h
def Ku(f:V->Option V)(c:V):Option V:=match f c with
 | some e=>chk (c.ok&&e.ok&&Nat.beq (cells e).length (cells c).length) (some e)
 | none=>none
def frz(σ:Aj)(q:Id->Bool):Nat->V->Option V
 | 0=>λ_=>none
 | k+1=>λv=>match v with
  | .arr id=>bif q id then(match He σ id with
   | some (.arr _ _ es)=>(MG (Ku (frz σ q k)) es).map .sl
   | _=>none) else some (.arr id)
  | .sl es=>(MG (Ku (frz σ q k)) es).map .sl
  | .agg cs=>(MG (frz σ q k) cs).map .agg
  | .tup cs=>(MG (frz σ q k) cs).map .tup
  | v=>some v
def MS(σ:Aj)(q:Id->Bool):Id->Option (List V):=λid=>if q id=true then(match lk σ id with
 | some (.arr _ _ es)=>some es
 | _=>none) else none
theorem BM{f:V->Option V}{c e:V}(h:Ku f c=some e):f c=some e/\(cells e).length=(cells c).length/\c.ok=true/\e.ok=true:=by
 unfold Ku at h;split at h
 .rename_i g o;obtain⟨i,j⟩:=AD.1 h;simp_all
 .cases h
theorem FQ{σ:Aj}{q:Id->Bool}:∀{k:Nat} {v t:V},frz σ q k v=some t->Jw (MS σ q) v t
 | 0,v,t,h=>by cases h
 | k+1,v,t,h=>by
  have s:∀{es es':List V},MG (Ku (frz σ q k)) es=some es'->es.length=es'.length/\(∀(j:Nat) (c g:V),es[j]?=some c->es'[j]?=some g->Jw (MS σ q) c g)/\∀(j:Nat) (c g:V),es[j]?=some c->es'[j]?=some g->(cells g).length=(cells c).length/\c.ok=true/\g.ok=true:=by intro es es' z;obtain⟨o,i⟩:=DK z;exact⟨o,λj c g a b=>FQ (BM (i j c g a b)).1,λj c g a b=>(BM (i j c g a b)).2⟩
  cases v with
  | arr id=>
   simp only[frz] at h;cases w:q id with
   | false=>rw[w] at h;cases h;exact .refl _
   | true=>
    rw[w] at h;simp only[cond_true] at h;split at h
    .rename_i e sz es y;rw[B4] at y;obtain⟨es',o,rfl⟩:=AeM.1 h;obtain⟨i,r,u⟩:=s o;exact .arr id es es' (by unfold MS;rw[if_pos w,y]) i r u
    .cases h
  | sl es=>obtain⟨es',o,rfl⟩:=AeM.1 h;obtain⟨i,r,u⟩:=s o;exact .sl es es' i r u
  | agg cs=>obtain⟨p,o,rfl⟩:=AeM.1 h;obtain⟨i,r⟩:=DK o;exact .agg cs p i λj c g a b=>FQ (r j c g a b)
  | tup cs=>obtain⟨p,o,rfl⟩:=AeM.1 h;obtain⟨i,r⟩:=DK o;exact .tup cs p i λj c g a b=>FQ (r j c g a b)
  | _=>cases h;exact .refl _
theorem GH{f:V->Option V}{l i:List V}(h:MG f l=some i){g:V}(o:g∈i):∃c∈l,f c=some g:=by
 obtain⟨q,j⟩:=DK h;obtain⟨k,p⟩:=At5.1 o;have e:k<l.length:=by grind
 exact⟨l[k],Azm e,j k _ _ (Afb e) p⟩
theorem G7{S:Id->Prop}{σ:Aj}{q:Id->Bool}(p:BV S σ):∀{k:Nat} {v s:V},frz σ q k v=some s->Bb S v->Bb S s
 | 0,v,s,h,_=>by cases h
 | k+1,v,s,h,r=>by
  cases v with
  | arr id=>
   simp only[frz] at h;cases y:q id with
   | false=>grind
   | true=>
    rw[y] at h;simp only[cond_true] at h;split at h
    .rename_i e sz es w;rw[B4] at w;obtain⟨es',i,rfl⟩:=AeM.1 h;refine .sl _ λt g=>?_;obtain⟨c,j,o⟩:=GH i g;exact G7 p (BM o).1 ((p _ _ w).2.arr_inv c j)
    .cases h
  | sl es=>obtain⟨es',i,rfl⟩:=AeM.1 h;refine .sl _ λt g=>?_;obtain⟨c,j,o⟩:=GH i g;exact G7 p (BM o).1 (r.sl_inv c j)
  | agg cs=>obtain⟨u,i,rfl⟩:=AeM.1 h;refine .agg _ λt g=>?_;obtain⟨c,j,o⟩:=GH i g;exact G7 p o (r.agg_inv c j)
  | tup cs=>obtain⟨u,i,rfl⟩:=AeM.1 h;refine .tup _ λt g=>?_;obtain⟨c,j,o⟩:=GH i g;exact G7 p o (r.tup_inv c j)
  | _=>cases h;exact r
def P5(σ:Aj)(q:Id->Bool)(k:Nat):A5->Option A5
 | .box v=>(Ku (frz σ q k) v).map .box
 | .tbox t v=>(Ku (frz σ q k) v).map (.tbox t)
 | .arr e sz es=>(MG (Ku (frz σ q k)) es).map (.arr e sz)
 | e=>some e
theorem Yp{σ:Aj}{q:Id->Bool}{k:Nat}{e y:A5}(h:P5 σ q k e=some y):Ks (MS σ q) e y:=by
 cases e with
 | box v=>obtain⟨u,i,rfl⟩:=AeM.1 h;obtain⟨o,g,r,s⟩:=BM i;exact .box v u (FQ o) g r s
 | tbox t v=>obtain⟨u,i,rfl⟩:=AeM.1 h;obtain⟨o,g,r,s⟩:=BM i;exact .tbox t v u (FQ o) g r s
 | arr a b es=>obtain⟨es',i,rfl⟩:=AeM.1 h;obtain⟨o,g⟩:=DK i;exact .arr a b es es' o λj c w p q=>⟨FQ (BM (g j c w p q)).1,(BM (g j c w p q)).2⟩
 | _=>cases h;exact .refl _
theorem ZH{S:Id->Prop}{σ:Aj}{q:Id->Bool}{k:Nat}{e p:A5}(o:BV S σ)(h:P5 σ q k e=some p)(i:IA S e):IA S p:=by
 cases e with
 | box v=>obtain⟨u,g,rfl⟩:=AeM.1 h;exact .box _ (G7 o (BM g).1 i.box_inv)
 | tbox t v=>obtain⟨u,g,rfl⟩:=AeM.1 h;exact .tbox _ _ (G7 o (BM g).1 i.tbox_inv)
 | arr a b es=>obtain⟨es',g,rfl⟩:=AeM.1 h;refine .arr _ _ _ λw j=>?_;obtain⟨c,r,s⟩:=GH g j;exact G7 o (BM s).1 (i.arr_inv c r)
 | _=>cases h;exact i
def Aah(σ:Aj)(q:Id->Bool)(k:Nat):Aj->Option Aj
 | []=>some []
 | (id,e)::r=>match Aah σ q k r with
  | some g=>bif q id then some g else match P5 σ q k e with
   | some h=>some ((id,h)::g)
   | none=>none
  | none=>none
theorem IJ{σ:Aj}{q:Id->Bool}{k:Nat}:∀{τ g:Aj},Aah σ q k τ=some g->∀id i,lk g id=some i->q id=false/\∃e,lk τ id=some e/\P5 σ q k e=some i
 | [],g,h,id,i,o=>by cases h;cases o
 | (j,x)::r,g,h,id,i,o=>by
  rw[Aah] at h;split at h
  .rename_i A s;cases p:q j with
   | true=>rw[p] at h;cases h;obtain⟨t,e,u,w⟩:=IJ s id i o;grind[lk]
   | false=>
    rw[p] at h;simp only[cond_false] at h;split at h
    .rename_i x' z;cases h;simp only[lk] at o⊢;split at o
     .grind
     .rename_i y;obtain⟨t,e,u,w⟩:=IJ s id i o;grind
    .cases h
  .cases h
def O1(σ:Aj)(q:Id->Bool)(k:Nat):A9->Option A9
 | []=>some []
 | (s,v)::r=>match frz σ q k v with
  | some g=>match O1 σ q k r with
   | some e=>some ((s,g)::e)
   | none=>none
  | none=>none
theorem HZ{σ:Aj}{q:Id->Bool}{k:Nat}:∀{env env':A9},O1 σ q k env=some env'->∀s,(get env s=.any/\get env' s=.any)\/frz σ q k (get env s)=some (get env' s)
 | [],env',h,s=>by cases h;grind[get]
 | (j,v)::r,env',h,s=>by
  rw[O1] at h;split at h
  .rename_i p i;split at h
   .rename_i o g;cases h;simp only[get];by_cases e:j=s
    .grind
    .rw[if_neg e,if_neg e];exact HZ g s
   .cases h
  .cases h
def kM(id:Id)(st:St):Option St:=
 let q:=λj=>decide (j=id)
 match He st.σ id with
 | some (.arr _ _ _)=>match O1 st.σ q 60 st.env with
  | some env=>match Aah st.σ q 60 st.σ with
   | some σ=>some ⟨env,σ,st.n⟩
   | none=>none
  | none=>none
 | _=>none
def XLe(W0:World)(nt:Nat)(st e:St):Prop:=∀B a w,Tl W0 nt B st a w->Tl W0 nt B e a w
theorem dU{W0:World}{nt:Nat}{id:Id}{st i:St}(h:kM id st=some i):XLe W0 nt st i/\i.n=st.n/\∀S,Bt S st.env->BV S st.σ->Bt S i.env/\BV S i.σ:=by
 unfold kM at h;simp only at h;split at h
 .rename_i e sz es M;rw[B4] at M;split at h
  .rename_i env E;split at h
   .rename_i σ p;cases h;have r:∀S,Bt S st.env->BV S st.σ->Bt S env/\BV S σ:=by
     intro S z q;refine⟨λs=>?_,λj x t=>?_⟩
     .rcases HZ E s with⟨_,h⟩|h
      .rw[h];exact .any
      .exact G7 q h (z s)
     .obtain⟨_,y,u,A⟩:=IJ p j x t;exact⟨(q _ _ u).1,ZH q A (q _ _ u).2⟩
    refine⟨λB a w o=>?_,rfl,r⟩;obtain⟨o,z,q,L⟩:=o;obtain⟨H,J⟩:=r _ z q;refine⟨o.weak (MS st.σ λj=>decide (j=id)) (λj es' g=>?_) (λs=>?_) (λj x t=>?_) (AzR _),H,J,L⟩
    .unfold MS at g;split at g
     .rename_i t;split at g
      .rename_i F D G C;cases g;refine⟨⟨F,D,C⟩,?_⟩;cases N:lk σ j with
       | none=>rfl
       | some x=>have:=(IJ p j x N).1;grind
      .cases g
     .cases g
    .rcases HZ E s with⟨h5,h6⟩|h5
     .rw[h6];exact .any _
     .exact FQ h5
    .obtain⟨_,y,u,A⟩:=IJ p j x t;exact⟨y,u,Yp A⟩
   .cases h
  .cases h
 .cases h
def geN(m:Nat):Id->Bool:=λid=>Nat.ble m id.1
def ltS(m:Nat)(σ:Aj):Aj:=MQ (λid=>Nat.blt id.1 m) σ
theorem SM{m:Nat}{σ:Aj}(id:Id):lk (ltS m σ) id=if Nat.blt id.1 m=true then lk σ id else none:=by unfold ltS;rw[KH]
theorem Fd.frz{f:FuncId}{args:List V}{σ σ1:Aj}{m n' k:Nat}{v q:V}(h:Fd P W0 f args σ m v σ1 n')(G:Go.Ir.frz σ1 (geN m) k v=some q)(L:Nu m q=true):Fd P W0 f args σ m q (ltS m σ1) n' where
 callable:=h.callable
 le:=h.le
 vin:=(DC.1 _ L).mono (Lt.mono h.le)
 sin:=by
  intro id e i;rw[SM] at i;split at i
  .exact h.sin id e i
  .cases i
 run:=by
  intro w μ H vals hp o;refine EI.mono (h.run w μ H vals hp o) ?_;rintro e w' ⟨val,C,E,rfl,B,y,u,j⟩;have r:At W0 1 ⟨μ,H,σ,w,m,none,[]⟩ ⟨[(0,v)],σ1,n'⟩ { tmps:=#[val],defers:=[] } w':=by
   refine⟨C,E,⟨rfl,λs=>?_⟩,y,u,j,h.le,rfl⟩;cases s with
   | zero=>exact B
   | succ s=>exact .any _
  have M:=r.weak (MS σ1 (geN m)) (env':=[(0,q)]) (σ':=ltS m σ1) (n':=n') (λid es g=>?_) (λs=>?_) (λid e i=>?_) (AzR _)
  .obtain⟨D,F,A,z,t,p,_⟩:=M;exact⟨val,D,F,rfl,A.at_ 0,z,t,p⟩
  .unfold MS at g;split at g
   .rename_i J;split at g
    .rename_i e sz es' i;cases g;refine⟨⟨e,sz,i⟩,?_⟩;rw[SM,if_neg];rw[AzB];exact AzA.2 (AxV J)
    .cases g
   .cases g
  .cases s with
   | zero=>exact FQ G
   | succ s=>exact .refl _
  .rw[SM] at i;split at i
   .exact⟨e,i,.refl _⟩
   .cases i
def xE(C:AV):AV:=λf args σ m=>match C f args σ m with
 | some (v,σ1,n')=>match frz σ1 (geN m) 60 v with
  | some e=>chk (Nu m e) (some (e,ltS m σ1,n'))
  | none=>none
 | none=>none
theorem OL{C:AV}(o:AX P W0 C):AX P W0 (xE C):=by
 intro f args σ m v σ' n' h p q;unfold xE at h;split at h
 .rename_i v1 σ1 r e;split at h
  .rename_i v2 g;obtain⟨i,j⟩:=AD.1 h;cases j;exact(o _ _ _ _ _ _ _ e p q).frz g i
  .cases h
 .cases h
def cN(σi σo σ:Aj):Aj:=List.rec (motive:=λ_=>Aj) (MQ (λid=>Bool.rec (motive:=λ_=>Bool) true false (KP (He σi id))) σ) (λp _ e=>p::e) σo
theorem QJ(σi σo σ:Aj):cN σi σo σ=over σi σo σ:=by
 have e:MQ (λid=>Bool.rec (motive:=λ_=>Bool) true false (KP (He σi id))) σ=σ.filter λp=>(lk σi p.1).isNone:=by rw[Ox];congr 1;funext p;rw[MF,B4];cases lk σi p.1<;>rfl
 unfold cN over
 induction σo with
 | nil=>simpa using e
 | cons p σo g=>grind
def cW(f:FuncId):Bool:=Bool.rec (motive:=λ_=>Bool) true false (Nat.beq f HE)
theorem KZ{f:FuncId}(h:cW f=true):f≠HE:=by rintro rfl;cases h
def Px(C:AV)(m:Nat)(f:FuncId)(args:List V):Option V:=
 match xE C f args [] m with
 | some (v,_,_)=>chk (Nu m v&&cW f) (some v)
 | none=>none
theorem I5{C:AV}(q:AX P W0 C){m:Nat}{f:FuncId}{args:List V}{v:V}(h:Px C m f args=some v)(i:∀a∈args,Bb (Lt m) a):Al P W0 f args [] v []/\Bb (Lt m) v:=by
 unfold Px at h;split at h
 .rename_i v1 σ1 t o;obtain⟨g,p⟩:=AD.1 h;cases p;rw[AzP] at g;have j:=DC.1 v g.1;exact⟨Al.of_at (KZ g.2) (OL q _ _ _ _ _ _ _ o i BV.nil) i BV.nil (λid e r=>by cases r) (λid s=>absurd rfl s) j BV.nil,j⟩
 .cases h
def tY(C:AV)(m:Nat)(σi σ:Aj)(f:FuncId)(args:List V):Option (V×Aj):=
 match xE C f args σi m with
 | some (v,σ1,_)=>chk ((Nu m v&&slt m (Lj σi σ1))&&cW f) (some (v,cN σi (Lj σi σ1) σ))
 | none=>none
def We(C:AV)(m:Nat)(σ:Aj)(f:FuncId)(args:List V):Option (V×Aj):=tY C m (HR args σ) σ f args
theorem Kz{C:AV}(A:AX P W0 C){m:Nat}{σ σ':Aj}{f:FuncId}{args:List V}{v:V}(h:We C m σ f args=some (v,σ'))(r:∀a∈args,Bb (Lt m) a)(t:BV (Lt m) σ):(∃σi σo,Al P W0 f args σi v σo/\(∀id e,lk σi id=some e->lk σ id=some e)/\σ'=over σi σo σ)/\Bb (Lt m) v/\BV (Lt m) σ':=by
 unfold We tY at h;have g:=LN args σ;generalize HR args σ=σi at h g;have j:BV (Lt m) σi:=λid e p=>t id e (g _ _ p);split at h
 .rename_i v1 σ1 B y;obtain⟨i,z⟩:=AD.1 h;cases z;simp only[AzP] at i;have q:=KZ i.2;have i:=i.1;have u:=DC.1 v i.1;have o:=rY i.2;refine⟨⟨σi,Lj σi σ1,Al.of_at q (OL A _ _ _ _ _ _ _ y r j) r j (λid e p=>?_) (λid s=>?_) u o,g,QJ _ _ _⟩,u,?_⟩
  .rw[Jq] at p;grind
  .intro w;rw[Jq,w] at s;exact s rfl
  .rw[QJ];exact t.over o
 .cases h
def Ub(C:AV)(m:Nat)(σ:Aj)(f:FuncId)(args:List V):Option (A5×Aj):=
 match C f args σ m with
 | some (.arr id,σ1,_)=>match lk σ1 id with
  | some x=>chk ((Nat.ble m id.1&&elt m x&&slt m (Lj σ σ1))&&cW f) (some (x,Lj σ σ1))
  | none=>none
 | _=>none
theorem Pq{C:AV}(y:AX P W0 C){m:Nat}{σ τ:Aj}{f:FuncId}{args:List V}{x:A5}(h:Ub C m σ f args=some (x,τ))(p:∀a∈args,Bb (Lt m) a)(r:BV (Lt m) σ):Iu P W0 f args σ x τ/\IA (Lt m) x/\BV (Lt m) τ:=by
 unfold Ub at h;split at h
 .rename_i id σ1 z u;split at h
  .rename_i x' j;obtain⟨g,w⟩:=AD.1 h;cases w;simp only[AzP,Azo] at g;have o:=KZ g.2;have g:=g.1;have s:=jE g.1.2;have i:=rY g.2;refine⟨Iu.of_at o (y _ _ _ _ _ _ _ u p r) p r j (λid e j=>?_) (λid q=>?_) s i g.1.1,s,i⟩
   .rw[Jq] at j;grind
   .intro t;rw[Jq,t] at q;exact q rfl
  .cases h
 .cases h
mutual
def PG:V->V->Bool
 | .b x,.b y=>x==y
 | .i k a,.i k' b=>decide (k=k')&&yI a b
 | .s a,.s b=>Pc a b
 | .nil,.nil=>true
 | .sl a,.sl b=>Ju a b
 | .agg a,.agg b=>Ju a b
 | .tup a,.tup b=>Ju a b
 | .ref i o,.ref j p=>decide (i=j)&&Nat.beq o p
 | .arr i,.arr j=>decide (i=j)
 | .aref i a b c,.aref j e h q=>decide (i=j)&&Nat.beq a e&&Nat.beq b h&&Nat.beq c q
 | .ep a o,.ep b p=>PG a b&&Nat.beq o p
 | .fn f a c,.fn g b d=>decide (f=g)&&Ju a b&&Ju c d
 | .np,.np|.nf,.nf|.ni,.ni|.nm,.nm|.ub,.ub|.iv,.iv|.any,.any=>true
 | _,_=>false
def Ju:List V->List V->Bool
 | [],[]=>true
 | a::x,b::y=>PG a b&&Ju x y
 | _,_=>false
end
theorem Hs:∀n:Nat,(∀a b:V,SizeOf.sizeOf a<n->PG a b=true->a=b)/\∀a b:List V,SizeOf.sizeOf a<n->Ju a b=true->a=b:=by
 intro n
 induction n with
 | zero=>grind
 | succ n g=>
  refine⟨λa b e h=>?_,λa b e h=>?_⟩
  .unfold PG at h;split at h
   .grind
   .simp only[AzP,decide_eq_true_eq,KU] at h;rw[h.1,h.2]
   .rw[FU,beq_iff_eq] at h;rw[h]
   .rfl
   .grind
   .grind
   .grind
   .simp_all
   .grind
   .simp_all
   .simp at e;simp only[AzP,Ayb] at h;grind
   .grind
   all_goals first|rfl|cases h
  .unfold Ju at h;grind
def XP:List (V×V)->List (V×V)->Bool
 | [],[]=>true
 | a::x,b::y=>PG a.1 b.1&&PG a.2 b.2&&XP x y
 | _,_=>false
theorem PX:∀{a b:List (V×V)},XP a b=true->a=b
 | [],[],_=>rfl
 | a::x,b::y,h=>by simp only[XP,AzP] at h;rw[PX h.2,Prod.ext ((Hs _).1 _ _ (AzS _) h.1.1) ((Hs _).1 _ _ (AzS _) h.1.2)]
 | [],_::_,h=>by cases h
 | _::_,[],h=>by cases h
def AcS:A5->A5->Bool
 | .box a,.box b=>PG a b
 | .tbox t a,.tbox e b=>Nat.beq t e&&PG a b
 | .arr t s a,.arr e h b=>Nat.beq t e&&Nat.beq s h&&Ju a b
 | .map a,.map b=>XP a b
 | .it l p,.it g p'=>Pc l g&&Nat.beq p p'
 | _,_=>false
theorem Wp{a b:A5}(h:AcS a b=true):a=b:=by
 unfold AcS at h;split at h
 .rw[(Hs _).1 _ _ (AzS _) h]
 .simp only[AzP,Ayb] at h;rw[h.1,(Hs _).1 _ _ (AzS _) h.2]
 .simp only[AzP,Ayb] at h;rw[h.1.1,h.1.2,(Hs _).2 _ _ (AzS _) h.2]
 .rw[PX h]
 .simp only[AzP,Ayb] at h;rw[FU,beq_iff_eq] at h;rw[h.1,h.2]
 .cases h
def Vm(σ τ:Aj):Bool:=σ.all λp=>match lk σ p.1,lk τ p.1 with
 | some a,some b=>AcS a b
 | _,_=>false
theorem J9{σ τ:Aj}(h:Vm σ τ=true):∀id e,lk σ id=some e->lk τ id=some e:=by
 intro id e g;have:=Am3.1 h _ (JK g);simp only[g] at this;split at this
 .rename_i a b i j;cases i;rw[j,Wp this]
 .cases this
def TF(C:AV)(m:Nat)(σ:Aj)(f:FuncId)(args:List V):Option V:=
 match xE C f args (HR args σ) m with
 | some (v,σ1,_)=>chk ((Nu m v&&Vm (HR args σ) σ1)&&cW f) (some v)
 | none=>none
theorem Oz{C:AV}(t:AX P W0 C){m:Nat}{σ:Aj}{f:FuncId}{args:List V}{v:V}(h:TF C m σ f args=some v)(p:∀a∈args,Bb (Lt m) a)(y:BV (Lt m) σ):(∃σi,Al P W0 f args σi v σi/\∀id e,lk σi id=some e->lk σ id=some e)/\Bb (Lt m) v:=by
 unfold TF at h;split at h
 .rename_i v1 σ1 z r;obtain⟨j,s⟩:=AD.1 h;cases s;simp only[AzP] at j;have o:=KZ j.2;have j:=j.1;have q:=DC.1 v j.1;have g:=LN args σ;have i:BV (Lt m) (HR args σ):=λid e u=>y id e (g _ _ u);exact⟨⟨_,Al.of_at o (OL t _ _ _ _ _ _ _ r p i) p i (J9 j.2) (λid w=>w) q i,g⟩,q⟩
 .cases h
def yE(C:AV)(ep:Nat)(d:Option Nat)(op:AE)(g:Nat->V)(σ:Aj):Option (V×Aj):=
 match op with
 | .call f xs=>(Px C (ep+1) f (xs.map (ev g))).map λv=>(v,σ)
 | .calls f xs=>We C (ep+1) σ f (xs.map (ev g))
 | .callv x xs=>match ev g x with
  | .fn f a c=>(Px C (ep+1) f (a++xs.map (ev g)++c)).map λv=>(v,σ)
  | _=>none
 | .callvs x xs=>match ev g x with
  | .fn f a c=>We C (ep+1) σ f (a++xs.map (ev g)++c)
  | _=>none
 | .calln f xs=>match d with
  | some e=>(Ub C (ep+1) σ f (xs.map (ev g))).map λr=>(.arr (ep,e),((ep,e),r.1)::over σ r.2 σ)
  | none=>none
 | .callr f xs=>(TF C (ep+1) σ f (xs.map (ev g))).map λv=>(v,σ)
 | op=>fE ep d op g σ
def apB(i:I)(g:Nat->V):Bool:=
 i.ap.isEmpty||i.ap.all λx=>i.op.cs.all λy=>match BP (ev g x),BP (ev g y) with
  | some a,some b=>!(a==b)
  | _,_=>true
def apQ(i:I):Bool:=i.op.cl&&!i.ap.isEmpty
def apK(i:I)(g:Nat->V)(σ τ:Aj):Bool:=i.ap.all λx=>match BP (ev g x) with
 | some id=>(match He σ id with
  | some a=>(match He τ id with
   | some b=>AcS a b
   | none=>false)
  | none=>true)
 | none=>true
def apE(i:I)(g:Nat->V)(σ:Aj)(o:Option (V×Aj)):Option (V×Aj):=bif apQ i then(match o with
 | some (v,τ)=>chk (apK i g σ τ) (some (v,τ))
 | none=>none) else o
theorem aH{i:I}{g:Nat->V}(h:apB i g=true):aB i g:=by
 unfold apB at h;rw[AxU] at h;rcases h with h|h
 .have p:i.ap=[]:=Ay8.1 h;exact λx e=>(by grind)
 .intro x e y q id j o;grind
theorem Yx{i:I}{g:Nat->V}{σ τ:Aj}{o:Option (V×Aj)}{v:V}(h:apE i g σ o=some (v,τ)):o=some (v,τ)/\Ki i g σ τ:=by
 unfold apE at h;cases e:apQ i with
 | false=>rw[e] at h;refine⟨h,λu x p=>?_⟩;unfold apQ at e;grind
 | true=>
  rw[e] at h;simp only[cond_true] at h;split at h
  .rename_i v1 y;obtain⟨q,r⟩:=AD.1 h;cases r;refine⟨rfl,λ_ x p id j w=>?_⟩;have:=Am3.1 q x p;rw[j] at this;simp only[B4] at this;split at this
   .rename_i a s;split at this
    .rename_i b t;rw[s,t,Wp this]
    .cases this
   grind
  .cases h
def yop(C:AV)(ep:Nat)(i:I)(env:A9)(σ:Aj):Option (V×Aj):=
 match MK env i.gd with
 | some true=>chk (apB i (get env)) (apE i (get env) σ (yE C ep i.dst i.op (get env) σ))
 | some false=>some (.tup [],σ)
 | none=>none
def AcF(C:AV)(ep:Nat):List I->A9->Aj->Option (A9×Aj)
 | [],env,σ=>some (env,σ)
 | i::l,env,σ=>match yop C ep i env σ with
  | some (v,σ')=>AcF C ep l (put env i.dst v) σ'
  | none=>none
theorem vE{C:AV}(B:AX P W0 C){ep:Nat}{i:I}{env:A9}{σ σ':Aj}{v:V}(h:yE C ep i.dst i.op (get env) σ=some (v,σ'))(D:i.cl=true)(T:Bt (Lt (ep+1)) env)(r:BV (Lt (ep+1)) σ) :
  E P W0 ep i.dst i.op (get env) σ v σ'/\Bb (Lt (ep+1)) v/\BV (Lt (ep+1)) σ':=by
 have A:=I.cl_xs (S:=Lt (ep+1)) D T;have Y:=I.cl_zs (S:=Lt (ep+1)) D;have N:BV (Lt (ep+1)) []:=BV.nil;have s:i.op.isC=false->fE ep i.dst i.op (get env) σ=some (v,σ')->E P W0 ep i.dst i.op (get env) σ v σ'/\Bb (Lt (ep+1)) v/\BV (Lt (ep+1)) σ':=by intro R h;have M:=LA (P:=P) (W0:=W0) h;exact⟨M,Ahn R (λH _=>AzS _) A Y r M⟩
 have g:∀{x:X} {xs:List X} {f:FuncId} {a c:List V},ev (get env) x=.fn f a c->(∀y∈x::xs,Bb (Lt (ep+1)) (ev (get env) y))->∀w∈a++xs.map (ev (get env))++c,Bb (Lt (ep+1)) w:=by
  intro x xs f a c u W w z;have J:=W x (by simp);rw[u] at J;simp only[Ay5,Am2] at z;rcases z with z|z|z
  .exact J.fn_inv.1 w z
  .grind
  .exact J.fn_inv.2 w z
 generalize U:i.op=op at *;have G:∀id e,lk σ id=some e->lk σ id=some e:=λ_ _ h=>h;cases op with
 | call f xs=>obtain⟨v1,t,q⟩:=AeM.1 h;cases q;obtain⟨j,o⟩:=I5 B t (Em A);exact⟨⟨j,rfl⟩,o,r⟩
 | calls f xs=>obtain⟨j,o,p⟩:=Kz B h (Em A) r;exact⟨j,o,p⟩
 | callv x xs=>
  simp only[yE] at h;split at h
  .rename_i f a c u;obtain⟨v1,t,q⟩:=AeM.1 h;cases q;obtain⟨j,o⟩:=I5 B t (g u A);exact⟨⟨f,a,c,u,j,rfl⟩,o,r⟩
  .cases h
 | callvs x xs=>
  simp only[yE] at h;split at h
  .rename_i f a c u;obtain⟨⟨σi,σo,j,q,O⟩,o,p⟩:=Kz B h (g u A) r;exact⟨⟨f,a,c,σi,σo,u,j,q,O⟩,o,p⟩
  .cases h
 | calln f xs=>
  simp only[yE] at h;split at h
  .rename_i H L;obtain⟨⟨Z,τ⟩,t,q⟩:=AeM.1 h;cases q;obtain⟨j,o,p⟩:=Pq B t (Em A) r;have F:Lt (ep+1) (ep,H):=AzS _;exact⟨⟨H,σ,τ,Z,L,j,G,rfl,rfl⟩,.arr _ F,(r.over p).cons F o⟩
  .cases h
 | callr f xs=>obtain⟨v1,t,q⟩:=AeM.1 h;cases q;obtain⟨j,o⟩:=Oz B t (Em A) r;exact⟨⟨j,rfl⟩,o,r⟩
 | callw x xs=>cases h
 | _=>exact s rfl h
theorem Md{C:AV}(D:AX P W0 C){ep:Nat}:∀{l:List I} {env:A9} {σ:Aj} {env':A9} {σ':Aj},AcF C ep l env σ=some (env',σ')->(∀i∈l,i.cl=true)->Bt (Lt (ep+1)) env->BV (Lt (ep+1)) σ->
  (∀K:A9->Aj->Prop,K env' σ'->Au P W0 ep l env σ K)/\Bt (Lt (ep+1)) env'/\BV (Lt (ep+1)) σ'
 | [],env,σ,env',σ',h,_,u,w=>by cases h;exact⟨λK h=>h,u,w⟩
 | i::l,env,σ,env',σ',h,r,u,w=>by
  rw[AcF] at h;split at h
  .rename_i v τ p;have one:(∀K:A9->Aj->Prop,K (put env i.dst v) τ->Ck P W0 ep i env σ K)/\Bb (Lt (ep+1)) v/\BV (Lt (ep+1)) τ:=by
    unfold yop at p;split at p
    .rename_i e;obtain⟨L,y⟩:=AD.1 p;obtain⟨y,o⟩:=Yx y;obtain⟨E,O,B⟩:=vE D y (r i (by simp)) u w;refine⟨λK q=>?_,O,B⟩;have g:aB i (get env)/\Ki i (get env) σ τ:=⟨aH L,o⟩
     unfold Ck;unfold MK at e;cases z:i.gd with
     | none=>exact⟨v,τ,⟨E,g.1,g.2⟩,q⟩
     | some sw=>
      obtain⟨s,F⟩:=sw;rw[z] at e;simp only at e⊢;split at e
      .rename_i t N;simp only[Amy,beq_iff_eq] at e;rw[N];exact⟨λ_=>⟨v,τ,⟨E,g.1,g.2⟩,q⟩,λA=>absurd e A⟩
      .cases e
      .cases e
    .rename_i e;cases p;refine⟨λK q=>?_,.tup _ (by simp),w⟩;unfold Ck;unfold MK at e;grind
    .cases p
   obtain⟨G,H,J⟩:=Md D h (λj M=>r j (by simp[M])) (u.put one.2.1) one.2.2;exact⟨λK q=>one.1 _ (G K q),H,J⟩
  .cases h
theorem AaY{C:AV}(hC:AX P W0 C){nt:Nat}{r:Bool}{Q:Exit->St->Prop}{st:St}{l1:List I}{i:I}{live:List Nat}{paths:List (List Nat)}(W:l1.isEmpty=false)(aC:i.cl=true){q:A9}{σ1:Aj}(h1:∀K:A9->Aj->Prop,K q σ1->Au P W0 st.n l1 st.env st.σ K)
  (ah:Bt (Lt (st.n+1)) q)(an:BV (Lt (st.n+1)) σ1){v:V}{σ':Aj}{n':Nat}(hx:xop C (st.n+1) i q σ1 (st.n+2)=some (v,σ',n'))(hq:Q .normal ⟨restrict live (put q i.dst v),σ',n'⟩):MY P W0 nt r (.opxe l1 i live paths) Q st:=by
 refine Ps fun R hc B a w _ ax=>?_
 obtain⟨O,ops,rfl,z⟩:∃O ops,R=.region O ops true/\Aas P nt ops l1 i paths=true:=by
  cases R with
  | region O ops ab=>
   cases ab with
   | false=>simp[Ax,W] at hc
   | true=>exact⟨O,ops,rfl,by simpa[Ax,W] using hc⟩
  | _=>simp[Ax,W] at hc
 unfold Aas at z
 simp only[AzP,decide_eq_true_eq] at z
 obtain⟨⟨⟨⟨⟨⟨aB,L⟩,ap⟩,hd⟩,aZ⟩,⟨aj,he⟩,am⟩,U⟩:=z
 obtain⟨⟨μ,H,hr,hp,hf,al,hn,aD⟩,aO,aQ,hb⟩:=ax
 obtain⟨a3,ae⟩:=Hr aB
 have y:l1.length<ops.size:=by omega
 have N:ops[l1.length]?=some ops[l1.length]:=Avi y
 rw[N] at L
 simp only at L
 generalize ops[l1.length]=o at N L
 have ai:(List.range l1.length).map (fun k=>l1.getD k default)=l1:=by
  apply AwD
  intro k
  by_cases z:k<l1.length
  .simp[z,List.getD]
  .simp[z]
 have h:Au P W0 st.n l1 st.env st.σ fun env σ=>(∀s,get q s=get env s)/\CI σ1 σ:=h1 _ ⟨fun _=>rfl,CI.refl _⟩
 have hK:QN fun(env:A9) (σ:Aj)=>(∀s,get q s=get env s)/\CI σ1 σ:=by
  intro env env' σ σ' hg hs hh
  exact⟨fun s=>(hh.1 s).trans (hg s),hh.2.trans hs⟩
 have ac:∀(aq:List Nat),∀k∈aq,∀d,(l1.getD k default).dst=some d->μ (st.n,d)=none:=fun aq k _ d _=>hp.bd (st.n,d) (AzR _)
 refine Ek fun t=>?_
 simp only[Region.schedule,aj,Azi,if_true]
 refine Gl ops.size t _ a _ ?_
 have aG:Fr B.μ B.H B.σ B.w μ H st.σ w.drew:=⟨hf.mu,hf.hp,hf.size,hf.keep,hf.pin,hf.dom⟩
 have J:∀k,l1.length<=k->k<ops.size->k=l1.length:=fun k h1 Z=>by omega
 have key:=QZ (W0:=W0) (ep:=st.n) (n0:=st.n) (μ0:=μ) (H0:=H) (σ0:=st.σ) (w0:=w.drew) (ops:=ops) (is:=l1) (nt:=nt) (P:=P) (m:=l1.length) (x:=1) (ro:=B.ro) (Q:=fun e a' w'=>∃ar,Q e ar/\Tl W0 nt B ar a' w') (AzU y) rfl
  (fun k o z N=>ae k o (by rw[Aym,if_pos z,Ays];exact N)) hd he am (fun k h1 Z j hj=>by
   have:=J k h1 Z
   subst this
   have h3:=Am3.1 U j (by simpa using hj)
   obtain⟨p,_,hp⟩:=Ayj.1 h3
   simp only[AzP,beq_iff_eq] at hp
   exact⟨p,hp.1.1,hp.1.2,hp.2⟩) hK ?_ l1.length (List.range l1.length) (Array.replicate ops.size false) st.env st.σ a w.drew (st.n+1) μ H (by simp) AzV (fun k=>?_) (fun k h1 Z=>by simp[Array.getD,Z]) (by simp) (fun i j hi y hh=>?_) ?_
   ⟨hr,hp.drew.more (Am9 _),AzS _,AzR _,ac _,Fr.refl _ _ _ _,fun _ _ h=>h,aD⟩
 .rw[show ops.size=l1.length+1 from ap]
  rw[show ops.size=l1.length+1 from ap] at key
  exact key
 . -- at the last operation
  intro g env σ a w n Y H' a5 M aK F
  obtain⟨aH,ao⟩:=aK
  have E:=aG.trans F.fr
  refine⟨fun ak=>?_,fun k z=>?_⟩
  .exfalso
   have:l1.length∈Region.ready .any ops g:=by
    unfold Region.ready
    simp only[Axr,AxT,AzP,N,AwW,Option.getD_some]
    refine⟨y,by rw[(M _ y).2 (AzR _)];rfl,Ayn.2 fun e aF=>?_⟩
    unfold Dr at he
    have af:=Am3.1 he l1.length (by simpa using y)
    rw[N] at af
    have ay:=Ayn.1 af e aF
    cases ag:Region.binds .any e with
    | false=>rfl
    | true=>
     simp only[ag,Au9,AxP,decide_eq_true_eq] at ay⊢
     have Z:¬(g.getD e.on true=false):=fun h=>by have:=(M _ (by omega)).1 h;omega
     have h3:g.getD e.on true=g.getD e.on false:=by
      have:e.on<g.size:=by omega
      simp[Array.getD,this]
     rw[<-h3]
     simpa using Z
   rw[ak] at this
   cases this
  .unfold Region.ready at z
   simp only[Axr,AxT,AzP,Ar9] at z
   have G:=J k ((M k z.1).1 z.2.1) z.1
   subst G
   have S:B.n<=st.n+1:=AzW hn
   have aJ:∀id x,B.μ id=some x->cut (st.n+1) Y id=some x:=by
    intro id x D
    have y:id.1<st.n+1:=by
     rcases Awy id.1 B.n with h|h
     .exact Apd h S
     .rw[hb id h] at D;cases D
    rw[Fo (m:=st.n+1) y]
    exact E.mu id x D
   have aL:XI W0 nt B (st.n+1) q σ1 (st.n+2) (cut (st.n+1) Y) H' a w:=by
    refine⟨⟨F.rl.size,fun s=>?_⟩,((F.hp.eqv fun id=>(ao id).symm).cut an).more (Am9 _),AzS _,⟨aJ,E.hp,E.size,E.keep,E.pin,fun bk az N=>E.dom bk az ((UF ao).1 (FZ N))⟩,fun id D h0=>?_,ah.mono (Lt.mono (Am9 _)),an.mono (Lt.mono (Am9 _)),F.dfs⟩
    .have:=F.rl.at_ s
     rw[<-aH s] at this
     exact this.cut (ah s)
    .rw[Fo (m:=st.n+1) (Apd D S)]
     exact F.old id (Apd D hn) (al id D h0)
   have T:∀dd,i.dst=some dd->cut (st.n+1) Y (st.n+1,dd)=none:=fun dd _=>if_neg (Nat.lt_irrefl _)
   refine NP hC S N L aC aL T hx _ _ (fun a w aM H2 A au a4=>⟨?_,?_⟩)
   .cases h:Region.ready .any ops (g.setIfInBounds l1.length true) with
    | nil=>rfl
    | cons k r=>
     exfalso
     have u:k∈Region.ready .any ops (g.setIfInBounds l1.length true):=by rw[h];simp
     unfold Region.ready at u
     simp only[Axr,AxT,AzP,Ar9] at u
     by_cases G:k=l1.length
     .rw[G] at u
      simp[Azk,Array.getElem?_setIfInBounds] at u
      rw[if_pos (by omega)] at u
      simp at u
     .have:=u.2.1
      rw[Azk,AyZ (AfT G),<-Azk] at this
      exact G (J k ((M k u.1).1 this) u.1)
   .refine⟨_,hq,⟨aM,H2,⟨A.rl.size,fun s=>?_⟩,A.hp,A.fr,A.old,by simp only;omega,A.dfs⟩,A.ein.restrict _,A.sin,hb⟩
    rcases Bh live (put q i.dst v) s with h|h
    .simp only;rw[h];exact A.rl.at_ s
    .simp only;rw[h];exact .any _
 .simp only[AxT]
  constructor
  .intro z;exact⟨z,by have:k<ops.size:=(by omega);simp[Array.getD,this]⟩
  .intro z;exact z.1
 .simp[Array.getD,y] at hi
 .rw[ai];exact h
theorem tE{C:AV}(w:AX P W0 C){ep:Nat}{i:I}{env:A9}{σ:Aj}{n:Nat}{v:V}{τ:Aj}{o:Nat}(g:xop C ep i env σ n=some (v,τ,o))(h:i.cl=true)(q:ep<n)(t:Bt (Lt n) env)(s:BV (Lt n) σ):n<=o/\Bb (Lt o) v/\BV (Lt o) τ:=by
 unfold xop at g;split at g
 .split at g
  .rename_i f args e;have p:=w _ _ _ _ _ _ _ g (Oo e h t) s;exact⟨p.le,p.vin,p.sin⟩
  .rename_i e;obtain⟨⟨v1,z⟩,j,u⟩:=AeM.1 g;cases u;have y:=LA (P:=P) (W0:=W0) j;have r:i.op.isC=false:=AdA j;have:=Ahn (S:=Lt n) r (λA _=>q) (I.cl_xs h t) (I.cl_zs h) s y;grind
 .cases g;exact⟨AzR _,.tup _ (by simp),s⟩
 .cases g
theorem W1{C:AV}(p:AX P W0 C){ep:Nat}:∀{l:List I} {env:A9} {σ:Aj} {n:Nat} {env':A9} {σ':Aj} {n':Nat},TY C ep l env σ n=some (env',σ',n')->(∀i∈l,i.cl=true)->ep<n->Bt (Lt n) env->BV (Lt n) σ->
  n<=n'/\Bt (Lt n') env'/\BV (Lt n') σ'
 | [],env,σ,n,env',σ',n',h,_,_,o,q=>by cases h;grind
 | i::l,env,σ,n,env',σ',n',h,e,g,o,q=>by
  rw[TY] at h;split at h
  .rename_i v τ y r;have one:=tE p r (e i (by simp)) g o q;obtain⟨t,u,w⟩:=W1 p h (λj s=>e j (by simp[s])) (Apd g one.1) ((o.mono (Lt.mono one.1)).put one.2.1) one.2.2;grind
  .cases h
abbrev Sx:=A9×Aj×Nat
abbrev K5:=I->Sx->Option Sx
abbrev GJ:=List (List Bool×Sx)
def Ol(C:AV)(ep:Nat)(e:List Nat):K5:=λi s=>match xop C ep i s.1 s.2.1 s.2.2 with
 | some (v,σ,n)=>some (restrict e (put s.1 i.dst v),σ,n)
 | none=>none
def HP(deps:List (List Nat))(D:List Bool)(i:Nat):Bool:=match D[i]? with
 | some false=>(deps.getD i []).all λj=>D.getD j false
 | _=>false
def bE:List Bool->List Bool->Bool
 | [],[]=>true
 | a::x,b::y=>(a==b)&&bE x y
 | _,_=>false
theorem XV:∀{a b:List Bool},bE a b=true->a=b
 | [],[],_=>rfl
 | a::x,b::y,h=>by rw[bE,AzP,beq_iff_eq] at h;rw[h.1,XV h.2]
 | [],_::_,h=>by cases h
 | _::_,[],h=>by cases h
def US:A9->A9->Bool
 | [],[]=>true
 | a::x,b::y=>(Nat.beq a.1 b.1&&PG a.2 b.2)&&US x y
 | _,_=>false
theorem RH:∀{a b:A9},US a b=true->a=b
 | [],[],_=>rfl
 | (s,u)::x,(t,v)::y,h=>by simp only[US,AzP,Ayb] at h;rw[h.1.1,(Hs _).1 _ _ (AzS _) h.1.2,RH h.2]
 | [],_::_,h=>by cases h
 | _::_,[],h=>by cases h
def SG(a b:Sx):Bool:=(US a.1 b.1&&Nat.beq a.2.2 b.2.2)&&Vm a.2.1 b.2.1
def Zm(D:List Bool)(s:Sx):GJ->Option GJ
 | []=>some [(D,s)]
 | y::r=>bif bE y.1 D then(bif SG y.2 s then some (y::r) else none) else(match Zm D s r with
  | some e=>some (y::e)
  | none=>none)
theorem Ok{D:List Bool}{s:Sx}:∀{T e:GJ},Zm D s T=some e->(∀y∈T,y∈e)/\∃y∈e,y.1=D/\(y.2=s\/SG y.2 s=true)
 | [],e,h=>by cases h;simp_all
 | y::r,e,h=>by
  rw[Zm] at h;cases g:bE y.1 D with
  | true=>
   rw[g] at h;simp only[cond_true] at h;cases i:SG y.2 s with
   | true=>rw[i] at h;cases h;exact⟨λy o=>o,y,by simp,XV g,.inr i⟩
   | false=>rw[i] at h;cases h
  | false=>
   rw[g] at h;simp only[cond_false] at h;split at h
   .rename_i u j;cases h;obtain⟨p,z,q,t⟩:=Ok j;grind
   .cases h
def goX(f:K5)(l:List I)(deps:List (List Nat))(e:List Bool×Sx):Nat->GJ->Option GJ
 | 0,T=>some T
 | k+1,T=>match goX f l deps e k T with
  | some T=>bif HP deps e.1 k then(match l[k]? with
   | some i=>(match f i e.2 with
    | some s=>Zm (e.1.set k true) s T
    | none=>none)
   | none=>none) else some T
  | none=>none
theorem PW{f:K5}{l:List I}{deps:List (List Nat)}{e:List Bool×Sx}:∀{k:Nat} {T g:GJ},goX f l deps e k T=some g->(∀y∈T,y∈g)/\
  ∀j,j<k->HP deps e.1 j=true->∃i s,l[j]?=some i/\f i e.2=some s/\∃y∈g,y.1=e.1.set j true/\(y.2=s\/SG y.2 s=true)
 | 0,T,g,h=>by cases h;grind
 | k+1,T,g,h=>by
  rw[goX] at h;split at h
  .rename_i A t;obtain⟨q,a2⟩:=PW t;cases w:HP deps e.1 k with
   | false=>grind
   | true=>
    rw[w] at h;simp only[cond_true] at h;split at h
    .rename_i i F;split at h
     .rename_i s H;obtain⟨r,B⟩:=Ok h;refine⟨λy z=>r y (q y z),λj G p=>?_⟩;rcases Awy j k with o|u
      .obtain⟨J,L,C,D,y,c3,E⟩:=a2 j o p;grind
      grind
     .cases h
    .cases h
  .cases h
def YC(f:K5)(l:List I)(deps:List (List Nat)):GJ->GJ->Option GJ
 | [],T=>some T
 | e::r,T=>match goX f l deps e l.length T with
  | some T=>YC f l deps r T
  | none=>none
theorem Np{f:K5}{l:List I}{deps:List (List Nat)}:∀{S T o:GJ},YC f l deps S T=some o->(∀y∈T,y∈o)/\
  ∀e∈S,∀j,j<l.length->HP deps e.1 j=true->∃i s,l[j]?=some i/\f i e.2=some s/\∃y∈o,y.1=e.1.set j true/\(y.2=s\/SG y.2 s=true)
 | [],T,o,h=>by cases h;grind
 | e::r,T,o,h=>by
  rw[YC] at h;split at h
  .rename_i C w;obtain⟨p,a2⟩:=PW w;obtain⟨q,t⟩:=Np h;refine⟨λy B=>q y (p y B),λu g j z A=>?_⟩;rcases Am8.1 g with rfl|g
   .grind
   .exact t u g j z A
  .cases h
def Nh(f:K5)(l:List I)(deps:List (List Nat)):Nat->GJ->Option GJ
 | 0,T=>some T
 | m+1,T=>match YC f l deps T [] with
  | some T=>Nh f l deps m T
  | none=>none
def yL(f:K5)(l:List I)(deps:List (List Nat))(s:Sx):Option Sx:=match Nh f l deps l.length [(List.replicate l.length false,s)] with
 | some [(_,s)]=>some s
 | _=>none
def AhK(l:List I)(env:A9):List Nat:=(l.filterMap (·.dst))++env.map (·.1)
section
variable{P:Program}{W0:World}{nt:Nat}{ops:Array Oper}{ro:Option Nat}
theorem XI.eqv{B:Gb}{ep:Nat}{s t:Sx}{μ:Id->Option Value}{H:Addr->Option Value}{a:Act}{w:World}(o:SG t s=true)(h:XI W0 nt B ep s.1 s.2.1 s.2.2 μ H a w):XI W0 nt B ep t.1 t.2.1 t.2.2 μ H a w:=by unfold SG at o;simp only[AzP,Ayb] at o;obtain⟨⟨i,r⟩,g⟩:=o;have i:=RH i;have g:=J9 g;rw[i,r];exact⟨h.rl,h.hp.part g,h.lt,⟨h.fr.mu,h.fr.hp,h.fr.size,h.fr.keep,h.fr.pin,λq u ⟨id,e,p,j⟩=>h.fr.dom q u ⟨id,e,g _ _ p,j⟩⟩,h.old,h.ein,λid e p=>h.sin id e (g _ _ p),h.dfs⟩
theorem XI.restrict{B:Gb}{ep:Nat}{env:A9}{σ:Aj}{n:Nat}{μ:Id->Option Value}{H:Addr->Option Value}{a:Act}{w:World}(live:List Nat)(h:XI W0 nt B ep env σ n μ H a w):XI W0 nt B ep (restrict live env) σ n μ H a w:=
 ⟨⟨h.rl.size,λs=>by
  rcases Bh live env s with g|g
  .rw[g];exact h.rl.at_ s
  .rw[g];exact .any _⟩,h.hp,h.lt,h.fr,h.old,h.ein.restrict _,h.sin,h.dfs⟩
theorem UP:∀{l:List I} {j k:Nat} {a b:I} {d:Nat},(l.filterMap (·.dst)).Nodup->l[j]?=some a->l[k]?=some b->a.dst=some d->b.dst=some d->j=k
 | [],j,k,a,b,d,_,h,_,_,_=>by simp at h
 | x::l,j,k,a,b,d,w,q,r,g,o=>by
  have u:∀{i:Nat} {c:I},l[i]?=some c->c.dst=some d->d∈l.filterMap (·.dst):=λs t=>Azy.2 ⟨_,AzT s,t⟩;have p:(l.filterMap (·.dst)).Nodup/\∀e,x.dst=some e->e∉l.filterMap (·.dst):=by grind
  cases j with
  | zero=>grind
  | succ j=>
   cases k with
   | zero=>grind
   | succ k=>simp only[AxG] at q r;rw[UP p.1 q r g o]
theorem Zq:∀{D:List Bool} {k:Nat},D[k]?=some false->(D.set k true).count true=D.count true+1
 | [],k,h=>by simp at h
 | b::D,0,h=>by grind
 | b::D,k+1,h=>by grind
theorem Uf{C:AV}(hC:AX P W0 C){B:Gb}{ep:Nat}(av:B.n<=ep){QQ:Exit->Act->World->Prop}{l:List I}{deps:List (List Nat)}{S:List Nat}
  (aY:ops.size=l.length)(ax:∀(j:Nat) (i:I),l[j]?=some i->∃o,ops[j]?=some o/\Qt P nt ops o i=true)(aH:(l.filterMap (·.dst)).Nodup)(az:∀i∈l,i.cl=true)(M:Dr ops=true)
  (ae:∀i,i<l.length->∀j∈deps.getD i [],ZD ops j i=true){Df:List Bool}{sf:Sx}(hK:∀a w μ H,XI W0 nt B ep sf.1 sf.2.1 sf.2.2 μ H a w->QQ .normal a w) :
  ∀(m:Nat) (T:GJ) (D:List Bool) (s:Sx) (g:Array Bool) (a:Act) (w:World) (μ:Id->Option Value) (H:Addr->Option Value),Nh (Ol C ep S) l deps m T=some [(Df,sf)]->(D,s)∈T->D.length=l.length->D.count true+m=l.length->g.toList=D->
   XI W0 nt B ep s.1 s.2.1 s.2.2 μ H a w->(∀(j:Nat) (i:I),l[j]?=some i->D[j]?=some false->∀J,i.dst=some J->μ (ep,J)=none)->LU P ro .any ops QQ m g a w:=by
 intro m
 induction m with
 | zero=>
  intro T D s g a w μ H h hm z ad p hx _
  cases h
  simp only[Atd,Ay7] at hm
  obtain⟨rfl,rfl⟩:=hm
  have Z:∀b∈D,b=true:=by
   have:D.count true=D.length:=by omega
   intro b hb
   have:=List.count_eq_length.1 this b hb
   exact this.symm
  refine⟨?_,hK _ _ _ _ hx⟩
  unfold Region.ready
  rw[AyE]
  intro i r
  simp only[AxT] at r
  have aF:i<g.size:=by grind
  have:g.getD i true=true:=by
   simp only[Array.getD,aF,dif_pos]
   exact Z _ (by rw[<-p];simp)
  simp[this]
 | succ m ih=>
  intro T D s g a w μ H h hm z ad p hx u
  rw[Nh] at h
  split at h
  .rename_i T' aw
   obtain⟨_,R⟩:=Np aw
   have aV:g.size=l.length:=by rw[<-Axx,p,z]
   have q:∀i,i<l.length->∀d,g.getD i d=D.getD i false:=by
    intro i r d
    have L:i<g.size:=by omega
    have U:i<D.length:=by omega
    simp only[Array.getD,L,dif_pos,List.getD,Afb U,Option.getD_some]
    simp only[<-p];simp
   refine⟨fun ah=>?_,fun i r=>?_⟩
   . -- the least that is not dn is ready
    exfalso
    have E:∃i,i<l.length/\D.getD i false=false:=by
     apply Classical.byContradiction
     intro aI
     have:∀b∈D,true=b:=by
      intro b hb
      obtain⟨i,r⟩:=At5.1 hb
      have aW:=(Af8.1 r).1
      cases b with
      | true=>rfl
      | false=>exact absurd ⟨i,by omega,by simp[r]⟩ aI
     have:=List.count_eq_length.2 this
     omega
    obtain⟨i,r,hd⟩:=E
    obtain⟨i,⟨r,hd⟩,af⟩:∃i,(i<l.length/\D.getD i false=false)/\∀j,j<i->¬(j<l.length/\D.getD j false=false):=by
     induction i using Nat.strongRecOn with
     | ind i aL=>
      by_cases E:∃j,j<i/\j<l.length/\D.getD j false=false
      .obtain⟨j,L,U,h3⟩:=E
       exact aL j L U h3
      .exact⟨i,⟨r,hd⟩,fun j W hh=>E ⟨j,W,hh⟩⟩
    have:i∈Region.ready .any ops g:=by
     have G:i<ops.size:=by omega
     unfold Region.ready
     simp only[Axr,AxT,AzP,Avi G,AwW,Option.getD_some]
     refine⟨G,by rw[q i r,hd];rfl,Ayn.2 fun e aC=>?_⟩
     unfold Dr at M
     have ab:=Am3.1 M i (by simpa using G)
     rw[Avi G] at ab
     have aa:=Ayn.1 ab e aC
     cases ac:Region.binds .any e with
     | false=>rfl
     | true=>
      simp only[ac,Au9,AxP,decide_eq_true_eq] at aa⊢
      rw[q e.on (by omega)]
      cases hh:D.getD e.on false with
      | true=>rfl
      | false=>exact absurd ⟨by omega,hh⟩ (af e.on aa)
    rw[ah] at this
    cases this
   .have aE:=r
    unfold Region.ready at r
    simp only[Axr,AxT,AzP,Ar9] at r
    have O:i<l.length:=by omega
    have N:D[i]?=some false:=by
     have L:=r.2.1
     rw[q i O] at L
     have U:i<D.length:=by omega
     simp only[List.getD,Afb U,Option.getD_some] at L
     rw[Afb U,L]
    have ai:HP deps D i=true:=by
     unfold HP
     rw[N]
     refine Am3.2 fun j W=>?_
     have:=GG M aE (ae i O j W)
     have aG:j<l.length:=by
      grind
     rw[q j aG] at this
     exact this
    obtain⟨op,s',e1,e2,y,e3,e4,Y⟩:=R (D,s) hm i O ai
    obtain⟨o,ho,aJ⟩:=ax i op e1
    unfold Ol at e2
    split at e2
    .rename_i v σ' n' ak
     cases e2
     refine NP hC av ho aJ (az op (AzT e1)) hx (fun J A=>u i op e1 N J A) ak _ QQ (fun a w al H' aj F aU=>?_)
     have aK:XI W0 nt B ep y.2.1 y.2.2.1 y.2.2.2 al H' a w:=by
      rcases Y with Y|Y
      .rw[Y];exact aj.restrict _
      .exact XI.eqv Y (aj.restrict _)
     refine ih T' y.1 y.2 _ a w al H' h e3 (by rw[e4];simpa using z) (by rw[e4,Zq N];omega) (by rw[Azp,p,e4]) aK (fun j i' W t J A=>?_)
     rw[e4] at t
     have ag:j≠i:=by
      rintro rfl
      rw[List.getElem?_set_self (by simp only;omega)] at t
      cases t
     rw[List.getElem?_set_ne (AfT ag)] at t
     refine F (ep,J) hx.lt (fun d2 aB he=>?_) (u j i' W t J A)
     cases he
     exact ag (UP aH W e1 A aB)
    .cases e2
  .cases h
end
theorem Rt{D:List Bool}{s:Sx}:∀{T e:GJ},Zm D s T=some e->∀y∈e,y∈T\/y=(D,s)
 | [],e,h,y,g=>by cases h;grind
 | z::r,e,h,y,g=>by
  rw[Zm] at h;cases j:bE z.1 D with
  | true=>grind
  | false=>
   rw[j] at h;simp only[cond_false] at h;split at h
   .rename_i p o;cases h;rcases Am8.1 g with rfl|g
    .exact .inl (by simp)
    .rcases Rt o y g with i|i
     .exact .inl (by simp[i])
     .exact .inr i
   .cases h
section
variable{f:K5}{l:List I}{deps:List (List Nat)}{Pp:Sx→Prop}
theorem VH(u:∀i∈l,∀s p,f i s=some p->Pp s->Pp p){e:List Bool×Sx}(t:Pp e.2):∀{k:Nat} {T g:GJ},goX f l deps e k T=some g->(∀y∈T,Pp y.2)->∀y∈g,Pp y.2
 | 0,T,g,h,j=>by cases h;exact j
 | k+1,T,g,h,j=>by
  rw[goX] at h;split at h
  .rename_i A q;have o:=VH u t q j;cases w:HP deps e.1 k with
   | false=>grind
   | true=>
    rw[w] at h;simp only[cond_true] at h;split at h
    .rename_i i B;split at h
     .rename_i s C;intro y z;rcases Rt h y z with r|rfl
      .exact o y r
      grind
     .cases h
    .cases h
  .cases h
theorem RS(o:∀i∈l,∀s p,f i s=some p->Pp s->Pp p):∀{S T g:GJ},YC f l deps S T=some g->(∀y∈S,Pp y.2)->(∀y∈T,Pp y.2)->∀y∈g,Pp y.2
 | [],T,g,h,_,j=>by cases h;exact j
 | e::r,T,g,h,hS,j=>by
  rw[YC] at h;split at h
  .rename_i u q;exact RS o h (λy t=>hS y (by simp[t])) (VH o (hS e (by simp)) q j)
  .cases h
theorem Oa(j:∀i∈l,∀s o,f i s=some o->Pp s->Pp o):∀{m:Nat} {T e:GJ},Nh f l deps m T=some e->(∀y∈T,Pp y.2)->∀y∈e,Pp y.2
 | 0,T,e,h,g=>by cases h;exact g
 | m+1,T,e,h,g=>by
  rw[Nh] at h;split at h
  .rename_i r p;exact Oa j h (RS j p g (λy q=>by cases q))
  .cases h
end
theorem bU{P:Program}{W0:World}{C:AV}(t:AX P W0 C){ep:Nat}{e:List Nat}{i:I}(o:i.cl=true){s g:Sx}(h:Ol C ep e i s=some g)(j:ep<s.2.2/\Bt (Lt s.2.2) s.1/\BV (Lt s.2.2) s.2.1) :
  ep<g.2.2/\Bt (Lt g.2.2) g.1/\BV (Lt g.2.2) g.2.1:=by
 unfold Ol at h;split at h
 .rename_i v σ n u;cases h;obtain⟨p,q,r⟩:=tE t u o j.1 j.2.1 j.2.2;exact⟨Apd j.1 p,(((j.2.1.mono (Lt.mono p)).put q).restrict _),r⟩
 .cases h
def Agt(σ:Aj)(i:Id):Bool:=match lk σ i with
 | some (.loop ..)=>false
 | _=>true
def Aa5(σ:Aj):Aj:=σ.filter λp=>Agt σ p.1
theorem Aad(σ:Aj):∀id e,lk (Aa5 σ) id=some e->lk σ id=some e:=by
 intro id e h;unfold Aa5 at h;rw[Ob (Agt σ)] at h;split at h
 .exact h
 .cases h
theorem mB{P:Program}{W0:World}{C:AV}(hC:AX P W0 C){nt:Nat}{r:Bool}{Q:Exit->St->Prop}{st:St}{l:List I}{live:List Nat}{deps:List (List Nat)}{z:List Nat}(R:l.all I.cl=true){s:Sx}{σi:Aj}(q:∀id e,lk σi id=some e->lk st.σ id=some e)
  (p:yL (Ol C st.n z) l deps (st.env,σi,st.n+1)=some s)(hq:Q .normal ⟨restrict live s.1,over σi s.2.1 st.σ,s.2.2⟩):MY P W0 nt r (.anyr l live deps) Q st:=by
 refine Ps λy O B a w _ N=>?_;obtain⟨u,ops,rfl,hk⟩:∃u ops,y=.region u ops true/\Ue P nt ops l deps=true:=by
  cases y with
  | region u ops D=>
   cases D with
   | false=>simp[Ax] at O
   | true=>exact⟨u,ops,rfl,by simpa[Ax] using O⟩
  | _=>simp[Ax] at O
 unfold Ue at hk;simp only[AzP] at hk;obtain⟨⟨⟨ae,hd⟩,J,T⟩,F⟩:=hk;obtain⟨⟨μ,H,hr,hp,A,L,hn,S⟩,he,hs,hb⟩:=N;obtain⟨G,E⟩:=Jp ae;have M:ops.size=l.length:=by simpa using G
 unfold yL at p;split at p
 .rename_i Df s1 ac;cases p;refine Ek λt=>?_;simp only[Region.schedule,J,Azi,if_true];refine Gl ops.size t _ a _ ?_;rw[M];have ag:=hp.drew;have W:Fr B.μ B.H B.σ B.w μ H st.σ w.drew:=⟨A.mu,A.hp,A.size,A.keep,A.pin,A.dom⟩
  refine Uf (B:=⟨μ,H,σi,w.drew,st.n,B.ro,B.ds⟩) (ep:=st.n) hC (AzR _) M (λj i Z=>?_) (of_decide_eq_true hd) (λi Y=>Am3.1 R i Y) T (λi Y j Z=>?_) (λa w μ H p=>?_) l.length _ _ _ (Array.replicate l.length false) a _ μ H ac (Atd.2 rfl) Azh (by rw[List.count_replicate];simp) (by simp)
   ⟨hr,(hp.drew.part q).more (Am9 _),AzS _,Fr.refl _ _ _ _,λ_ _ h=>h,he.mono (Lt.mono (Am9 _)),λid e hl=>⟨Nat.lt_succ_of_lt (hs id e (q _ _ hl)).1,(hs id e (q _ _ hl)).2.mono (Lt.mono (Am9 _))⟩,S⟩ (λj i _ _ dd _=>hp.bd _ (AzR _))
  .obtain⟨o,ho,ad⟩:=E j i Z;exact⟨o,by rw[<-Ays];exact ho,ad⟩
  .exact Am3.1 (Am3.1 F i (by simpa using Y)) j Z
  .obtain⟨af,U⟩:=Hp.back ag q p.hp p.fr;have ab:st.n<=s.2.2:=AzU p.lt;refine⟨_,hq,⟨μ,H,⟨p.rl.size,λt=>?_⟩,af,W.trans U,λid h1 h2=>p.old id (Apd h1 hn) (L id h1 h2),?_,p.dfs⟩,p.ein.restrict _,BV.over (hs.mono (Lt.mono ab)) p.sin,hb⟩
   .rcases Bh live s.1 t with g|g
    .simp only;rw[g];exact p.rl.at_ t
    .simp only;rw[g];exact .any _
   .have:=p.lt;simp only;omega
 .cases p
abbrev VF:=IC->St->Option (Exit×St)
def Y3(C:AV):IC->St->Option (Exit×St)
 | .seqr l live,st=>match TY C st.n l st.env st.σ (st.n+1) with
  | some (env,σ,n)=>some (.normal,⟨restrict live env,σ,n⟩)
  | none=>none
 | .ops l live _,st=>match AcF C st.n l st.env st.σ with
  | some (env,σ)=>some (.normal,⟨restrict live env,σ,st.n+1⟩)
  | none=>none
 | .opxe (a::l) i live _,st=>match AcF C st.n (a::l) st.env st.σ with
  | some (env,σ)=>match xop C (st.n+1) i env σ (st.n+2) with
   | some (v,σ',n')=>some (.normal,⟨restrict live (put env i.dst v),σ',n'⟩)
   | none=>none
  | none=>none
 | .anyr l live deps,st=>match yL (Ol C st.n (AhK l st.env)) l deps (st.env,Aa5 st.σ,st.n+1) with
  | some s=>some (.normal,⟨restrict live s.1,over (Aa5 st.σ) s.2.1 st.σ,s.2.2⟩)
  | none=>none
 | _,_=>none
def AoA:V->Option Id
 | .arr id=>some id
 | .agg cs=>cs.findSome? λc=>match c with
  | .arr id=>some id
  | _=>none
 | _=>none
def Agw:AE->List X
 | .call _ xs|.calls _ xs|.calln _ xs|.callr _ xs=>xs
 | _=>[]
def Ae3(i:I)(env:A9):Option Id:=
 match(Agw i.op).findSome? λx=>AoA (ev (get env) x) with
 | some id=>some id
 | none=>
 let x:=match i.op with
  | .slL x _ _ _=>some x
  | .pu _ (x::_)=>some x
  | .app x _ _ _=>some x
  | _=>none
 match x with
 | some x=>match ev (get env) x with
  | .arr id=>some id
  | _=>none
 | none=>none
def xN(C:AV)(ep:Nat):List I->A9->Aj->Nat->Option Id
 | [],_,_,_=>none
 | i::l,env,σ,n=>match xop C ep i env σ n with
  | some (v,σ',n')=>xN C ep l (put env i.dst v) σ' n'
  | none=>Ae3 i env
def AdR(C:AV)(ep:Nat):List I->A9->Aj->Option Id
 | [],_,_=>none
 | i::l,env,σ=>match yop C ep i env σ with
  | some (v,σ')=>AdR C ep l (put env i.dst v) σ'
  | none=>Ae3 i env
def ArR(C:AV):IC->St->Option Id
 | .seqr l _,st=>xN C st.n l st.env st.σ (st.n+1)
 | .ops l _ _,st=>AdR C st.n l st.env st.σ
 | .opxe l _ _ _,st=>AdR C st.n l st.env st.σ
 | .anyr l _ _,st=>xN C st.n l st.env st.σ (st.n+1)
 | _,_=>none
def Nk(C:AV):Nat->IC->St->Option (Exit×St)
 | 0,ic,st=>Y3 C ic st
 | k+1,ic,st=>match Y3 C ic st with
  | some r=>some r
  | none=>match ArR C ic st with
   | some id=>match kM id st with
    | some e=>Nk C k ic e
    | none=>none
   | none=>none
def Dx(C:AV)(L:VF):IC->St->Option (Exit×St)
 | .seqr l live,st=>Nk C 3 (.seqr l live) st
 | .ops l live p,st=>Nk C 3 (.ops l live p) st
 | .opxe l i live p,st=>Nk C 3 (.opxe l i live p) st
 | .anyr l live d,st=>Nk C 3 (.anyr l live d) st
 | .seq a b,st=>match Dx C L a st with
  | some (.normal,s)=>Dx C L b s
  | r=>r
 | .cond c a b,st=>match ev (get st.env) c with
  | .b true=>Dx C L a st
  | .b false=>Dx C L b st
  | _=>none
 | .block id a,st=>match Dx C L a st with
  | some (.exit e,s)=>if e=id then some (.normal,s) else some (.exit e,s)
  | r=>r
 | .loop c,st=>L (.loop c) st
 | .rfn g ps a b h live,st=>L (.rfn g ps a b h live) st
 | .wk c,st=>Dx C L c st
 | .exit id,st=>some (.exit id,st)
 | .ret,st=>some (.ret,st)
 | .skip,st=>some (.normal,st)
 | _,_=>none
def XS(P:Program)(W0:World)(nt:Nat)(r:Bool)(ic:IC)(st:St)(e:Exit)(g:St):Prop:=
 Bt (Lt st.n) st.env->BV (Lt st.n) st.σ->(st.n<=g.n/\Bt (Lt g.n) g.env/\BV (Lt g.n) g.σ)/\MY P W0 nt r ic (λh s=>h=e/\s=g) st
def Uz(P:Program)(W0:World)(nt:Nat)(r:Bool)(L:VF):Prop:=∀ic st e g,ic.cl=true->(r=true\/ic.nr=true)->L ic st=some (e,g)->XS P W0 nt r ic st e g
theorem M8{C:AV}(w:AX P W0 C){nt:Nat}{r:Bool}:∀{ic:IC} {st:St} {e:Exit} {g:St},ic.cl=true->Y3 C ic st=some (e,g)->XS P W0 nt r ic st e g
 | .seqr l live,st,e,g,j,h=>by
  intro B t;rw[Y3] at h;split at h
  .rename_i env σ n z;cases h;have o:∀i∈l,i.cl=true:=λi q=>Am3.1 j i q;obtain⟨E,p,A⟩:=W1 w z o (AzS _) (B.mono (Lt.mono (Am9 _))) (t.mono (Lt.mono (Am9 _)));exact⟨⟨by simp only;omega,p.restrict _,A⟩,uY w j z ⟨rfl,rfl⟩⟩
  .cases h
 | .ops l live paths,st,e,g,j,h=>by
  intro B t;rw[Y3] at h;split at h
  .rename_i env σ F;cases h;have o:∀i∈l,i.cl=true:=λi q=>Am3.1 j i q;obtain⟨E,p,A⟩:=Md w F o (B.mono (Lt.mono (Am9 _))) (t.mono (Lt.mono (Am9 _)));refine⟨⟨Am9 _,p.restrict _,A⟩,yO (env':=restrict live env) (σ':=σ) (m:=st.n+1) (QR (E _ λn' M=>⟨rfl,n',rfl⟩)) (Am9 _) (λ_ _=>⟨p.restrict _,A⟩) ⟨rfl,rfl⟩⟩
  .cases h
 | .opxe [] _ _ _,st,e,g,j,h=>by cases h
 | .opxe (a::l) i live paths,st,e,g,j,h=>by
  intro B t;simp only[IC.cl,AzP] at j;rw[Y3] at h;split at h
  .rename_i env σ F;split at h
   .rename_i v σ' n' z;cases h;have o:∀i∈a::l,i.cl=true:=λi q=>Am3.1 j.1 i q;obtain⟨E,p,A⟩:=Md w F o (B.mono (Lt.mono (Am9 _))) (t.mono (Lt.mono (Am9 _)));obtain⟨O,J,L⟩:=tE w z j.2 (AzS _) (p.mono (Lt.mono (Am9 _))) (A.mono (Lt.mono (Am9 _)));refine⟨⟨by simp only;omega,((p.mono (Lt.mono (by omega))).put J).restrict _,L⟩,AaY w rfl j.2 E p A z ⟨rfl,rfl⟩⟩
   .cases h
  .cases h
 | .anyr l live deps,st,e,g,j,h=>by
  intro B t;rw[Y3] at h;split at h
  .rename_i s z;cases h;have o:∀i∈l,i.cl=true:=λi q=>Am3.1 j i q;have D:st.n<s.2.2/\Bt (Lt s.2.2) s.1/\BV (Lt s.2.2) s.2.1:=by
    have u:=z;unfold yL at u;split at u
    .rename_i N S G;cases u;exact Oa (Pp:=λs=>st.n<s.2.2/\Bt (Lt s.2.2) s.1/\BV (Lt s.2.2) s.2.1) (λi q s R E p=>bU w (o i q) E p) G (λy F=>by simp only[Atd] at F;subst F;exact⟨AzS _,B.mono (Lt.mono (Am9 _)),λid e H=>⟨Nat.lt_succ_of_lt (t id e (Aad _ _ _ H)).1,(t id e (Aad _ _ _ H)).2.mono (Lt.mono (Am9 _))⟩⟩) _ (Atd.2 rfl)
    .cases u
   exact⟨⟨by simp only;omega,D.2.1.restrict _,BV.over (t.mono (Lt.mono (AzU D.1))) D.2.2⟩,mB w j (Aad _) z ⟨rfl,rfl⟩⟩
  .cases h
 | .seq ..,st,e,g,j,h=>by cases h
 | .cond ..,st,e,g,j,h=>by cases h
 | .block ..,st,e,g,j,h=>by cases h
 | .loop ..,st,e,g,j,h=>by cases h
 | .wk ..,st,e,g,j,h=>by cases h
 | .exit ..,st,e,g,j,h=>by cases h
 | .ret,st,e,g,j,h=>by cases h
 | .skip,st,e,g,j,h=>by cases h
 | .mnext ..,st,e,g,j,h=>by cases h
 | .opx ..,st,e,g,j,h=>by cases h
 | .opxq ..,st,e,g,j,h=>by cases h
 | .opxd ..,st,e,g,j,h=>by cases h
 | .opxv ..,st,e,g,j,h=>by cases h
 | .scope ..,st,e,g,j,h=>by cases h
 | .rfn ..,st,e,g,j,h=>by cases h
theorem Fm{C:AV}(o:AX P W0 C){nt:Nat}{r:Bool}{ic:IC}(q:ic.cl=true):∀(k:Nat) {st:St} {e:Exit} {g:St},Nk C k ic st=some (e,g)->XS P W0 nt r ic st e g
 | 0,st,e,g,h=>M8 o q h
 | k+1,st,e,g,h=>by
  rw[Nk] at h;split at h
  .rename_i r H;cases h;exact M8 o q H
  .split at h
   .split at h
    .rename_i L G;obtain⟨t,A,s⟩:=dU (W0:=W0) (nt:=nt) G;intro F J;have D:=Fm (nt:=nt) (r:=r) o q k h;obtain⟨u,y⟩:=s _ F J;rw[<-A] at u y;obtain⟨z,E⟩:=D u y;rw[A] at z;exact⟨z,λj i B a w hB p=>E j i B a w hB (t B a w p)⟩
    .cases h
   .cases h
theorem Be{C:AV}(z:AX P W0 C){L:VF}{nt:Nat}{r:Bool}(A:Uz P W0 nt r L):∀{ic:IC} {st:St} {e:Exit} {j:St},ic.cl=true->(r=true\/ic.nr=true)->Dx C L ic st=some (e,j)->XS P W0 nt r ic st e j
 | .seqr l live,st,e,j,o,_,h=>Fm z o 3 h
 | .ops l live p,st,e,j,o,_,h=>Fm z o 3 h
 | .opxe l i live p,st,e,j,o,_,h=>Fm z o 3 h
 | .anyr l live d,st,e,j,o,_,h=>Fm z o 3 h
 | .seq a b,st,e,j,o,q,h=>by
  intro t u;simp only[IC.cl,AzP] at o;simp only[IC.nr,AzP] at q;have B:=q.imp id And.left;have E:=q.imp id And.right;rw[Dx] at h;split at h
  .rename_i s H;obtain⟨⟨w,R,S⟩,y⟩:=Be z A o.1 B H t u;obtain⟨⟨T,U,W⟩,Z⟩:=Be z A o.2 E h R S;refine⟨⟨Am5 w T,U,W⟩,WO (FE y λF G D=>?_)⟩;grind
  .rename_i O;obtain⟨w,y⟩:=Be z A o.1 B h t u;refine⟨w,WO (FE y λF G D=>?_)⟩;simp_all
 | .cond c a b,st,e,j,o,q,h=>by
  intro t u;simp only[IC.cl,AzP] at o;simp only[IC.nr,AzP] at q;have B:=q.imp id And.left;have E:=q.imp id And.right;rw[Dx] at h;split at h
  .rename_i M;obtain⟨w,y⟩:=Be z A o.1 B h t u;exact⟨w,RB M y⟩
  .rename_i M;obtain⟨w,y⟩:=Be z A o.2 E h t u;exact⟨w,RB M y⟩
  .cases h
 | .block id a,st,e,j,o,q,h=>by
  intro t u;rw[Dx] at h;split at h
  .rename_i N s H;obtain⟨w,y⟩:=Be z A (ic:=a) o q H t u;split at h
   .rename_i J;cases h;refine⟨w,JI (FE y λF G D=>?_)⟩;obtain⟨rfl,rfl⟩:=D;simp only[Dq];grind
   .rename_i J;cases h;refine⟨w,JI (FE y λF G D=>?_)⟩;obtain⟨rfl,rfl⟩:=D;simp only[Dq];grind
  .rename_i O;obtain⟨w,y⟩:=Be z A (ic:=a) o q h t u;refine⟨w,JI (FE y λF G D=>?_)⟩;obtain⟨rfl,rfl⟩:=D;cases F with
   | exit N=>exact absurd h (O _ _)
   | _=>exact⟨rfl,rfl⟩
 | .loop c,st,e,j,o,q,h=>A _ st e j o q h
 | .wk c,st,e,j,o,q,h=>by intro t u;obtain⟨w,y⟩:=Be z A (ic:=c) o q h t u;exact⟨w,AhB y⟩
 | .exit id,st,e,j,o,q,h=>by intro t u;cases h;exact⟨⟨AzR _,t,u⟩,lT ⟨rfl,rfl⟩⟩
 | .ret,st,e,j,o,q,h=>by intro t u;cases h;exact⟨⟨AzR _,t,u⟩,Acw ⟨rfl,rfl⟩⟩
 | .skip,st,e,j,o,q,h=>by intro t u;cases h;exact⟨⟨AzR _,t,u⟩,mX ⟨rfl,rfl⟩⟩
 | .mnext ..,st,e,j,o,q,h=>by cases h
 | .opx ..,st,e,j,o,q,h=>by cases h
 | .opxq ..,st,e,j,o,q,h=>by cases h
 | .opxd ..,st,e,j,o,q,h=>by cases h
 | .opxv ..,st,e,j,o,q,h=>by cases h
 | .scope ..,st,e,j,o,q,h=>by cases h
 | .rfn g ps a b Y live,st,e,j,o,q,h=>A _ st e j o q h
end
end
end Go.Ir
end
section
namespace Go.Ir
open Go.RowKit
noncomputable section
variable[F2]
def Al1(C:AV)(nt:Nat)(g:X)(ps:List Nat)(a b:IC)(h live:List Nat)(st:St):Option (Exit×St):=
 match ev (get st.env) g with
 | .fn f first e=>match yF f (first++[.arr (st.n,0)]++e) with
  | some (f,args)=>match C f args (((st.n,0),.loop nt (restrict h st.env) ps a b .ready none)::st.σ) (st.n+1) with
   | some (_,σ',n')=>match He σ' (st.n,0) with
    | some (.loop _ _ _ _ _ s i)=>bif Kd s then none else some (jL i,⟨restrict live st.env,sH σ' (st.n,0),n'⟩)
    | _=>none
   | none=>none
  | none=>none
 | _=>none
section
variable{P:Program}{W0:World}{nt:Nat}
theorem SP{C:AV}(hC:AX P W0 C)(hP:Gq P){g:X}{ps:List Nat}{a b:IC}{E live:List Nat}{st:St}{e:Exit}{p:St}(Z:(IC.rfn g ps a b E live).cl=true)(h:Al1 C nt g ps a b E live st=some (e,p)):XS P W0 nt true (.rfn g ps a b E live) st e p:=by
 intro O hs;unfold Al1 at h;split at h
 .rename_i f0 first D hg
  split at h
  .rename_i f args N;split at h
   .rename_i v σ' n' y;split at h
    .rename_i al W am a1 b1 s pd J;rw[B4] at J;cases u:Kd s with
     | true=>rw[u] at h;cases h
     | false=>
     rw[u] at h;simp only[cond_false,Amy,Ay7] at h;obtain⟨rfl,rfl⟩:=h;rw[Vf];obtain⟨rfl,i,q⟩:=GV N;simp only[IC.cl,AzP] at Z;have F:Bb (Lt st.n) (.fn f0 first D):=by rw[<-hg];exact X.cl_in Z.1.1 O
     have r:Lt (st.n+1) (st.n,0):=AzS _;have S:BV (Lt (st.n+1)) (((st.n,0),A5.loop nt (restrict E st.env) ps a b .ready none)::st.σ):=
      (hs.mono (Lt.mono (Am9 _))).cons r (.loop _ _ _ _ _ _ _ ((O.restrict E).mono (Lt.mono (Am9 _))) (by grind))
     have L:∀x∈args,Bb (Lt (st.n+1)) x:=by
      rw[<-i];intro x o;simp only[Ay5,Am2,Atd] at o;rcases o with o|rfl|o
      .exact(F.fn_inv.1 x o).mono (Lt.mono (Am9 _))
      .exact .arr _ r
      .exact(F.fn_inv.2 x o).mono (Lt.mono (Am9 _))
     have A:=hC _ _ _ _ _ _ _ y L S;have G:st.n<=n':=Nat.le_of_succ_le A.le;have Y:=(O.restrict live).mono (Lt.mono G);refine⟨⟨G,Y,A.sin.del _⟩,λU z B ad w hB M=>?_⟩;refine Bf (Q3 (Q:=λe s=>e=jL pd/\s=⟨restrict live st.env,del σ' (st.n,0),n'⟩) hP hg (A.callable q) (λw μ H vals hp hv=>?_) z (hB rfl) M.1) λe a' w' ⟨B',o,p,⟨h1,h2⟩,ha⟩=>⟨B',o.1,p,⟨h1,h2⟩,ha,by rw[h2];exact Y,by rw[h2];exact A.sin.del _,o.2⟩
     have t:=A.run w μ H vals hp (by rw[<-i];exact hv);rw[DH q] at t;refine AwZ t ?_;rintro e w' ⟨val,T,H',rfl,ak,R,hf,j⟩;exact⟨val,T,H',n',σ',rfl,⟨_,_,_,_,_,s,pd,J,u,rfl,rfl⟩,R,A.le,hf,j⟩
    .cases h
   .cases h
  .cases h
 .cases h
end
end
end Go.Ir
end
section
namespace Go.Ir
open Go.RowKit
noncomputable section
variable[F2]
def Sub(σ' σ:Aj):Prop:=∀id e,lk σ' id=some e->lk σ id=some e
theorem Tl.sub{W0:World}{nt:Nat}{B:Gb}{env:A9}{σ σ':Aj}{n:Nat}{a:Act}{w:World}(h:Tl W0 nt B ⟨env,σ,n⟩ a w)(q:Sub σ' σ):Tl W0 nt B ⟨env,σ',n⟩ a w:=by obtain⟨⟨μ,H,A,hp,i,j,y,o⟩,u,r,t⟩:=h;refine⟨⟨μ,H,A,hp.part q,⟨i.mu,i.hp,i.size,i.keep,i.pin,λs g z=>i.dom s g ?_⟩,j,y,o⟩,u,λid e p=>r id e (q _ _ p),t⟩;obtain⟨id,e,p,g⟩:=z;exact⟨id,e,q _ _ p,g⟩
def AeQ(n0:Nat)(σ:Aj):List Id:=List.rec (motive:=λ_=>List Id) [] (λp _ e=>Bool.rec (motive:=λ_=>List Id) e (p.1::e) (Nat.blt p.1.1 n0)) σ
def Aqk(n0:Nat)(σ:Aj):Nat:=List.rec (motive:=λ_=>Nat) 0 (λp _ e=>Bool.rec (motive:=λ_=>Nat) (Nat.succ e) e (Nat.blt p.1.1 n0)) σ
def gcS(n0:Nat)(e:List V)(σ:Aj):Aj:=
 Bool.rec (motive:=λ_=>Aj) (LR (Ty σ 100000 (V1 e (AeQ n0 σ)) []) σ) σ (Nat.ble (Aqk n0 σ) 12)
theorem I1(n0:Nat)(g:List V)(σ:Aj):Sub (gcS n0 g σ) σ:=by
 intro id e h;unfold gcS at h;cases i:Nat.ble (Aqk n0 σ) 12 with
 | true=>rw[i] at h;exact h
 | false=>rw[i] at h;have h:lk (LR (Ty σ 100000 (V1 g (AeQ n0 σ)) []) σ) id=some e:=h;unfold LR at h;rw[KH] at h;grind
def Ul(n0:Nat)(st:St):St:=⟨st.env,gcS n0 (st.env.map (·.2)) st.σ,st.n⟩
section
variable{P:Program}{W0:World}
def Ff(C:AV)(nt n0:Nat):Nat->VF
 | 0=>λ_ _=>none
 | k+1=>λic st=>match ic with
  | .loop c=>match Dx C (Ff C nt n0 k) c st with
   | some (.normal,s)=>Ff C nt n0 k (.loop c) (Ul n0 s)
   | r=>r
  | .rfn g ps a b e live=>Al1 C nt g ps a b e live st
  | _=>none
theorem Gv{C:AV}(A:AX P W0 C)(hP:Gq P){nt n0:Nat}{r:Bool}:∀k,Uz P W0 nt r (Ff C nt n0 k):=by
 intro k
 induction k using Nat.strongRecOn with
 | _ k W=>
 cases k with
 | zero=>intro c st e i _ _ h;cases h
 | succ k=>
  have U:=W k (AzS _);intro ic st e i q j h;cases ic with
  | rfn g ps a b en live=>
   have hr:r=true:=by
    rcases j with t|t
    .exact t
    .cases t
   subst hr;exact SP A hP q h
  | loop c=>
   have q:c.cl=true:=q;have j:r=true\/c.nr=true:=j;intro N S;have o:(match Dx C (Ff C nt n0 k) c st with
    | some (.normal,s)=>Ff C nt n0 k (.loop c) (Ul n0 s)
    | r=>r)=some (e,i):=h
   have names:∀s,Dx C (Ff C nt n0 k) c st=some (.normal,s)->XS P W0 nt r c st .normal s:=λs p=>Be A U q j p;have O:st.n<=i.n/\Bt (Lt i.n) i.env/\BV (Lt i.n) i.σ:=by
    split at o
    .rename_i s p;obtain⟨⟨t,Y,G⟩,_⟩:=names s p N S;have H:BV (Lt s.n) (Ul n0 s).σ:=λid e R=>G id e (I1 _ _ _ _ _ R);obtain⟨⟨J,z,h6⟩,_⟩:=U (.loop c) (Ul n0 s) e i q j o Y H;exact⟨Am5 t J,z,h6⟩
    .exact(Be A U q j o N S).1
   refine⟨O,?_⟩;refine oN (Inv:=λm s=>m<=k+1/\Ff C nt n0 m (.loop c) s=some (e,i)/\Bt (Lt s.n) s.env/\BV (Lt s.n) s.σ) (λm s hI=>?_) (k+1) ⟨AzR _,h,N,S⟩;obtain⟨hm,p,D,E⟩:=hI;cases m with
   | zero=>cases p
   | succ m=>
    have p:(match Dx C (Ff C nt n0 m) c s with
     | some (.normal,s)=>Ff C nt n0 m (.loop c) (Ul n0 s)
     | r=>r)=some (e,i):=p
    have F:Uz P W0 nt r (Ff C nt n0 m):=W m (by omega);split at p
    .rename_i s1 t;obtain⟨⟨Y,G,J⟩,z⟩:=Be A F q j t D E;have L:BV (Lt s1.n) (Ul n0 s1).σ:=λid e R=>J id e (I1 _ _ _ _ _ R);intro y u B a w hB M;refine Bf (z y u B a w hB M) λe' a w Z=>?_;obtain⟨B',T,s2,⟨rfl,rfl⟩,ha⟩:=Z;exact⟨B',T,Ul n0 s2,⟨m,AzS _,by omega,p,G,L⟩,Tl.sub ha (I1 _ _ _)⟩
    .rename_i hr;obtain⟨_,z⟩:=Be A F q j p D E;refine FE z λe' s' Z=>?_;simp_all
  | _=>cases h
theorem M9{S:Id->Prop}:∀{ps:List Nat} {vs:List V} {env:A9},(∀v∈vs,Bb S v)->Bt S env->Bt S (H8 ps vs env)
 | [],_,_,_,e=>e
 | _::_,[],_,_,e=>e
 | p::ps,v::vs,env,g,e=>M9 (ps:=ps) (λx h=>g x (by simp[h])) (e.put (d:=some p) (g v (by simp)))
def Acv(C:AV)(K:Nat)(args:List V)(σ:Aj)(n:Nat):Option (V×Aj×Nat):=match args with
 | .arr id::vs=>match He σ id with
  | some (.loop nt env ps a b .ready D)=>bif Nat.beq vs.length ps.length&&ps.all (λp=>Nat.blt p nt) then(match Dx C (Ff C nt n K) a ⟨H8 ps vs env,σ,n⟩ with
   | some (.normal,j)=>(match He j.σ id with
    | some (.loop o h s w y .ready r)=>(match Dx C (Ff C nt n K) b ⟨j.env,kK j.σ id (.loop o h s w y .busy r),j.n⟩ with
     | some (e,u)=>(match pdX e with
      | some g=>(match He u.σ id with
       | some (.loop q i t a2 z B A)=>some (.b g.isNone,gcS n [] (kK u.σ id (.loop q i t a2 z (bif g.isNone then .ready else .done) g)),u.n)
       | _=>none)
      | none=>none)
     | none=>none)
    | _=>none)
   | _=>none) else none
  | _=>none
 | _=>none
theorem zY{C:AV}(hC:AX P W0 C)(hP:Gq P){K:Nat}{args:List V}{σ σ':Aj}{n n':Nat}{v:V}(h:Acv C K args σ n=some (v,σ',n'))(ha:∀a∈args,Bb (Lt n) a)(hs:BV (Lt n) σ):Fd P W0 HE args σ n v σ' n':=by
 unfold Acv at h;split at h
 .rename_i id vs;split at h
  .rename_i nt env ps a b pd L;rw[B4] at L;cases T:(Nat.beq vs.length ps.length&&ps.all λp=>Nat.blt p nt) with
   | false=>rw[T] at h;cases h
   | true=>
   rw[T] at h;simp only[cond_true] at h;rw[AzP,Ayb] at T;split at h
   .rename_i s1 ay;split at h
    .rename_i ad A af a1 b1 ae u;rw[B4] at u;split at h
     .rename_i e G ab;split at h
      .rename_i g aw;split at h
       .rename_i s i t a2 O aC az y;rw[B4] at y;cases h;rw[Xs] at ab⊢;obtain⟨D,q⟩:=(hs _ _ L).2.loop_inv;simp only[AzP] at q;have aa:∀x∈vs,Bb (Lt n) x:=λx hx=>ha x (by simp[hx]);have am:=Be (nt:=nt) (r:=false) hC (Gv hC hP K) q.1.1 (.inr q.2.1) ay;obtain⟨⟨q1,q2,q3⟩,q4⟩:=am (M9 aa D) hs;have ag:BV (Lt s1.n) (upd s1.σ id (.loop ad A af a1 b1 .busy ae)):=q3.upd u (by obtain⟨h1,M⟩:=(q3 _ _ u).2.loop_inv;exact .loop _ _ _ _ _ _ _ h1 M);have an:=Be (nt:=nt) (r:=false) hC (Gv hC hP K) q.1.2 (.inr q.2.2) ab;obtain⟨⟨q5,q6,q7⟩,q8⟩:=an q2 ag;have aA:BV (Lt G.n) (upd G.σ id (.loop s i t a2 O (bif g.isNone then .ready else .done) g)):=q7.upd y (by obtain⟨h1,M⟩:=(q7 _ _ y).2.loop_inv;exact .loop _ _ _ _ _ _ _ h1 M);have E:=I1 n [] (upd G.σ id (.loop s i t a2 O (bif g.isNone then .ready else .done) g));simp only at q1 q5;refine⟨λh=>absurd rfl h,Am5 q1 q5,.b _,λj x hj=>aA j x (E _ _ hj),λw μ H vals hp J=>?_⟩;refine EI.mono (f:=HE) (R:=λe w'=>∃val z H' n' vv σ',e=.returned val/\(n'=G.n/\vv=.b g.isNone/\σ'=gcS n [] (upd G.σ id (.loop s i t a2 O (bif g.isNone then .ready else .done) g)))/\Ao z H' vv val/\Hp W0 σ' n' z H' w'/\n<=n'/\Fr μ H σ w z H' σ' w'/\∀id,id.1<n->μ id=none->z id=none) ?_ ?_
        .unfold EI;rw[if_pos rfl];refine LG (R:=λ_ n' vv σ'=>n'=G.n/\vv=.b g.isNone/\σ'=gcS n [] (upd G.σ id (.loop s i t a2 O (bif g.isNone then .ready else .done) g))) hp J L T.1 T.2 λl ca cb ap aq aK ao=>?_;refine Bf (q4 ca ((hP _ _ _).1 ap) _ _ _ (λh=>by cases h) ⟨ao,M9 aa D,hs,λid av=>hp.bd id av⟩) λe1 N w1 ar=>?_;obtain⟨B1,F,aS,⟨U,Y⟩,o⟩:=ar;rw[Y] at o;refine⟨U,B1,s1,ad,A,af,a1,b1,ae,F,o.1,u,λw2 S=>?_⟩;have M:=q8 cb ((hP _ _ _).1 aq) B1 N w2 (λh=>by cases h) ⟨S,q2,ag,o.2.2.2⟩;rw[F.ro] at M;refine Bf M λe2 aF w3 au=>?_;obtain⟨B2,ac,aT,⟨W,Z⟩,B⟩:=au;rw[Z] at B;rw[W];exact⟨B2,G,g,s,i,t,a2,O,aC,az,_,dN aw,ac,B.1,y,E,rfl,rfl,rfl⟩
        grind
       .cases h
      .cases h
     .cases h
    .cases h
   .cases h
  .cases h
 .cases h
def Aix(env:A9)(σ:Aj):R->Option V
 | .t s=>some (get env s)
 | .c s n e=>match get env s with
  | .ref id off=>match He σ id with
   | some (.box u)=>sub u off n e
   | _=>none
  | _=>none
def Wq(env:A9)(σ:Aj):List R->Option (List V)
 | []=>some []
 | r::e=>match Aix env σ r with
  | some v=>match Wq env σ e with
   | some vs=>some (v::vs)
   | none=>none
  | none=>none
theorem AcE{S:Id->Prop}{st:St}{r:R}{v:V}(h:Aix st.env st.σ r=some v)(g:Bt S st.env)(j:BV S st.σ):Dp st r v/\Bb S v:=by
 cases r with
 | t s=>cases h;exact⟨rfl,g s⟩
 | c s n o=>
  simp only[Aix] at h;split at h
  .rename_i id off i;split at h
   .rename_i u e;rw[B4] at e;exact⟨⟨id,off,u,i,e,h⟩,HU h (j _ _ e).2.box_inv⟩
   .cases h
  .cases h
theorem QO{S:Id->Prop}{st:St}(g:Bt S st.env)(i:BV S st.σ):∀{e:List R} {vs:List V},Wq st.env st.σ e=some vs->Dd st e vs/\∀v∈vs,Bb S v
 | [],vs,h=>by cases h;exact⟨trivial,λv s=>by cases s⟩
 | r::e,vs,h=>by
  rw[Wq] at h;split at h
  .rename_i v j;split at h
   .rename_i t o;cases h;obtain⟨p,u⟩:=AcE j g i;obtain⟨q,w⟩:=QO g i o;exact⟨⟨p,q⟩,λx y=>by grind
⟩
   .cases h
  .cases h
theorem Aaw{S:Id->Prop}{vs:List V}(h:∀v∈vs,Bb S v):Bb S (LB vs):=by
 unfold LB;split
 .exact h _ (by simp)
 .exact .tup _ h
structure Cs where
 nt:Nat
 ic:IC
 rs:List R
def Abl(F:Cs)(n:Nat)(st:St):Option (V×Aj×Nat):=
 match Wq st.env st.σ F.rs with
 | some vs=>some (LB vs,gcS n [LB vs] st.σ,st.n)
 | none=>none
def xfn(C:AV)(k:Nat)(F:Cs)(args:List V)(σ:Aj)(n:Nat):Option (V×Aj×Nat):=
 bif Nat.ble args.length F.nt then(match Dx C (Ff C F.nt n k) F.ic ⟨params 0 args,σ,n⟩ with
  | some (.ret,st)=>Abl F n st
  | some (.normal,st)=>Abl F n st
  | _=>none) else none
def HI(P:Program)(T:FuncId->Option Cs):Prop:=∀f F,T f=some F->Av P f F.nt F.ic F.rs=true/\F.ic.cl=true
def LD(T:FuncId->Option Cs)(B:AV)(K:Nat):Nat->AV
 | 0=>λ_ _ _ _=>none
 | k+1=>λf args σ n=>bif Nat.beq f HE then Acv (LD T B K k) K args σ n else(match T f with
  | some F=>xfn (LD T B K k) K F args σ n
  | none=>B f args σ n)
theorem NY{S:Id->Prop}{args:List V}(h:∀a∈args,Bb S a):Bt S (params 0 args):=by
 intro s;rw[Ia];simp only[Aqn,Azx];cases e:args[s]? with
 | none=>exact .any
 | some v=>exact C4 h e
theorem Ab7{T:FuncId->Option Cs}{B:AV}{K:Nat}(hT:HI P T)(hB:AX P W0 B)(hP:Gq P):∀k,AX P W0 (LD T B K k):=by
 intro k
 induction k with
 | zero=>intro f args σ n v σ' n' h;cases h
 | succ k ih=>
  intro f args σ n v σ' n' h L M;have h:(bif Nat.beq f HE then Acv (LD T B K k) K args σ n else(match T f with
   | some F=>xfn (LD T B K k) K F args σ n
   | none=>B f args σ n))=some (v,σ',n'):=h
  cases N:Nat.beq f HE with
  | true=>rw[N] at h;have hf:f=HE:=AuZ N;subst hf;exact zY ih hP h L M
  | false=>
  rw[N] at h;simp only[cond_false] at h;have ac:f≠HE:=by rintro rfl;simp at N
  split at h
  .rename_i F hF;obtain⟨Y,Z⟩:=hT f F hF;unfold xfn at h;cases R:Nat.ble args.length F.nt with
   | false=>rw[R] at h;cases h
   | true=>
   rw[R] at h;simp only[cond_true] at h;have u:args.length<=F.nt:=AxV R;have key:∀e st,(e=.ret\/e=.normal)->Dx (LD T B K k) (Ff (LD T B K k) F.nt n K) F.ic ⟨params 0 args,σ,n⟩=some (e,st)->Abl F n st=some (v,σ',n')->Fd P W0 f args σ n v σ' n':=by
    intro e st aa p g;unfold Abl at g;split at g
    .rename_i vs ai;cases g;obtain⟨⟨h1,h2,h3⟩,h4⟩:=Be (nt:=F.nt) (r:=true) ih (Gv ih hP K) Z (.inl rfl) p (NY L) M;obtain⟨h5,h6⟩:=QO h2 h3 ai;have j:=I1 n [LB vs] st.σ;obtain⟨fn,c,hf,U,o,af,ah,t⟩:=Hu Y;refine⟨λ_=>t,h1,Aaw h6,λid e hl=>h3 id e (j _ _ hl),λw μ H vals hp hv=>?_⟩;rw[DH ac];have y:fn.ntmps=F.nt:=af;have O:=KL (nt:=F.nt) u hp hv;refine DO (nt:=F.nt) (Q:=λJ s=>J=e/\s=st) hf U hp ?_ (λJ s C=>by
      rw[C.1];rcases aa with rfl|rfl
      .exact .inr rfl
      .exact .inl rfl) (λJ G a ak H' C _ hn z w' ag A i=>?_)
     .rw[y];exact Bf (h4 c o ⟨μ,H,σ,w,n,none,[]⟩ _ w (λ_=>rfl) ⟨O,NY L,M,λid ad=>hp.bd id ad⟩) λJ a' w' hh=>by obtain⟨B',p,G,C,q⟩:=hh;exact⟨B',p,G,C,q.1⟩
     .obtain⟨_,rfl⟩:=C;obtain⟨val,E,D⟩:=Fi ag A ah h5;refine⟨val,E,val,ak,H',rfl,D,A.part j,⟨i.mu,i.hp,i.size,i.keep,i.pin,λbk W ho=>i.dom bk W ?_⟩,z⟩;obtain⟨id,e,hl,S⟩:=ho;exact⟨id,e,j _ _ hl,S⟩
    .cases g
   split at h
   .rename_i st p;exact key _ st (.inl rfl) p h
   .rename_i st p;exact key _ st (.inr rfl) p h
   .cases h
  .exact hB f args σ n v σ' n' h L M
theorem Tk{T:FuncId->Option Cs}{B:AV}{K k:Nat}(j:HI P T)(hB:AX P W0 B)(i:Gq P){f:FuncId}{args:List V}{v:V}{σ':Aj}{n':Nat}(h:LD T B K k f args [] 0=some (v,σ',n'))(g:Kg 0 args=true)(r:Nu 0 v=true)(o:f≠HE:=by decide):Al P W0 f args [] v []:=
 Al.of_at o (Ab7 j hB i k _ _ _ _ _ _ _ h (DC.2 args g) BV.nil) (DC.2 args g) BV.nil (λid e p=>by cases p) (λid q=>absurd rfl q) (DC.1 v r) BV.nil
end
end
end Go.Ir
end
section
namespace Go.Ir
open Go.RowKit
noncomputable section
variable[F2]
section force
variable{β:Type}
def CD(n:Nat)(k:Nat->β):β:=Nat.rec (motive:=λ_=>β) (k 0) (λm _=>k (Nat.succ m)) n
theorem Cm(n:Nat)(k:Nat->β):CD n k=k n:=by cases n<;>rfl
def Uq(n:Int)(k:Int->β):β:=Int.rec (motive:=λ_=>β) (λa=>CD a λa=>k (.ofNat a)) (λa=>CD a λa=>k (.negSucc a)) n
theorem YM(n:Int)(k:Int->β):Uq n k=k n:=by
 cases n with
 | ofNat a=>exact Cm a λa=>k (.ofNat a)
 | negSucc a=>exact Cm a λa=>k (.negSucc a)
def lN(b:Bool)(k:Bool->β):β:=Bool.rec (motive:=λ_=>β) (k false) (k true) b
theorem YO(b:Bool)(k:Bool->β):lN b k=k b:=by cases b<;>rfl
def OD(c:UInt8)(k:UInt8->β):β:=CD c.toNat λn=>k (UInt8.ofNat n)
theorem YP(c:UInt8)(k:UInt8->β):OD c k=k c:=by unfold OD;rw[Cm,UInt8.ofNat_toNat]
def PM(l:List UInt8)(k:List UInt8->β):β:=List.rec (motive:=λ_=>(List UInt8->β)->β) (λk=>k []) (λc _ e k=>OD c λc=>e λl=>k (c::l)) l k
theorem ZO(l:List UInt8):∀k:List UInt8->β,PM l k=k l:=by
 induction l with
 | nil=>intro k;rfl
 | cons c l e=>intro k;rw[show PM (c::l) k=OD c λc=>PM l λl=>k (c::l) from rfl,YP];exact e _
def hB(x:Bool)(k:V->β):β:=k (.b x)
def hI(a:IntKind)(n:Int)(k:V->β):β:=k (.i a n)
def hS(l:List UInt8)(k:V->β):β:=k (.s l)
def Au7(k:V->β):β:=k .nil
def hSl(l:List V)(k:V->β):β:=k (.sl l)
def Avc(l:List V)(k:V->β):β:=k (.agg l)
def Auu(l:List V)(k:V->β):β:=k (.tup l)
def Auk(id:Id)(o:Nat)(k:V->β):β:=k (.ref id o)
def Avd(id:Id)(k:V->β):β:=k (.arr id)
def Asz(id:Id)(a b c:Nat)(k:V->β):β:=k (.aref id a b c)
def hEp(e:V)(o:Nat)(k:V->β):β:=k (.ep e o)
def hFn(f:FuncId)(a c:List V)(k:V->β):β:=k (.fn f a c)
def hNp(k:V->β):β:=k .np
def hNf(k:V->β):β:=k .nf
def hNi(k:V->β):β:=k .ni
def hNm(k:V->β):β:=k .nm
def hUb(k:V->β):β:=k .ub
def hIv(k:V->β):β:=k .iv
def AuL(k:V->β):β:=k .any
def Mw(v:V)(k:V->β):β:=V.casesOn (motive_1:=λ_=>(V->β)->β) v hB hI hS Au7 hSl Avc Auu Auk Avd Asz hEp hFn hNp hNf hNi hNm hUb hIv AuL k
theorem Nx(v:V)(k:V->β):Mw v k=k v:=by cases v<;>rfl
def Dm(l:List V)(k:List V->β):β:=List.rec (motive:=λ_=>(List V->β)->β) (λk=>k []) (λv _ e k=>Mw v λv=>e λl=>k (v::l)) l k
theorem D7(l:List V):∀k:List V->β,Dm l k=k l:=by
 induction l with
 | nil=>intro k;rfl
 | cons c l e=>intro k;rw[show Dm (c::l) k=Mw c λc=>Dm l λl=>k (c::l) from rfl,Nx];exact e _
def Gk(id:Id)(k:Id->β):β:=CD id.1 λa=>CD id.2 λb=>k (a,b)
theorem HS(id:Id)(k:Id->β):Gk id k=k id:=by unfold Gk;rw[Cm,Cm]
def Tz(a:IntKind)(k:IntKind->β):β:=
 match a with
 | .i8=>k .i8|.i16=>k .i16|.i32=>k .i32|.i64=>k .i64|.u8=>k .u8|.u16=>k .u16|.u32=>k .u32|.u64=>k .u64
theorem aJ(a:IntKind)(k:IntKind->β):Tz a k=k a:=by cases a<;>rfl
def vB(x:Bool)(_:Bool)(k:V->β):β:=lN x λx=>k (.b x)
def vI(a:IntKind)(n:Int)(_:Bool)(k:V->β):β:=Tz a λa=>Uq n λn=>k (.i a n)
def AqU(l:List UInt8)(e:Bool)(k:V->β):β:=bif e then PM l λl=>k (.s l) else k (.s l)
def Aot(_:Bool)(k:V->β):β:=k .nil
def vSl(es:List V)(_:Bool)(k:V->β):β:=Dm es λes=>k (.sl es)
def Aoh(es:List V)(_:Bool)(k:V->β):β:=Dm es λes=>k (.agg es)
def At3(es:List V)(_:Bool)(k:V->β):β:=Dm es λes=>k (.tup es)
def AmZ(id:Id)(o:Nat)(_:Bool)(k:V->β):β:=Gk id λid=>CD o λo=>k (.ref id o)
def AnR(id:Id)(_:Bool)(k:V->β):β:=Gk id λid=>k (.arr id)
def Af2(id:Id)(a b c:Nat)(_:Bool)(k:V->β):β:=Gk id λid=>CD a λa=>CD b λb=>CD c λc=>k (.aref id a b c)
def vEp(e:V)(o:Nat)(_:Bool)(k:V->β):β:=Mw e λe=>CD o λo=>k (.ep e o)
def vFn(f:FuncId)(a c:List V)(_:Bool)(k:V->β):β:=Dm a λa=>Dm c λc=>k (.fn f a c)
def vNp(_:Bool)(k:V->β):β:=k .np
def vNf(_:Bool)(k:V->β):β:=k .nf
def vNi(_:Bool)(k:V->β):β:=k .ni
def vNm(_:Bool)(k:V->β):β:=k .nm
def vUb(_:Bool)(k:V->β):β:=k .ub
def vIv(_:Bool)(k:V->β):β:=k .iv
def AmW(_:Bool)(k:V->β):β:=k .any
def O2(e:Bool)(v:V)(k:V->β):β:=V.casesOn (motive_1:=λ_=>Bool->(V->β)->β) v vB vI AqU Aot vSl Aoh At3 AmZ AnR Af2 vEp vFn vNp vNf vNi vNm vUb vIv AmW e k
theorem AY(d:Bool)(v:V)(k:V->β):O2 d v k=k v:=by
 cases v with
 | b x=>exact YO x λx=>k (.b x)
 | i a n=>show Tz a (λa=>Uq n λn=>k (.i a n))=_;rw[aJ,YM]
 | s l=>cases d
        .rfl
        .exact ZO l λl=>k (.s l)
 | sl es=>exact D7 es λes=>k (.sl es)
 | agg es=>exact D7 es λes=>k (.agg es)
 | tup es=>exact D7 es λes=>k (.tup es)
 | ref id o=>show Gk id (λid=>CD o λo=>k (.ref id o))=_;rw[HS,Cm]
 | arr id=>exact HS id λid=>k (.arr id)
 | aref id a b c=>show Gk id (λid=>CD a λa=>CD b λb=>CD c λc=>k (.aref id a b c))=_;rw[HS,Cm,Cm,Cm]
 | ep e o=>show Mw e (λe=>CD o λo=>k (.ep e o))=_;rw[Nx,Cm]
 | fn f a c=>show Dm a (λa=>Dm c λc=>k (.fn f a c))=_;rw[D7,D7]
 | _=>rfl
def KJ(l:List V)(k:List V->β):β:=List.rec (motive:=λ_=>(List V->β)->β) (λk=>k []) (λv _ e k=>O2 true v λv=>e λl=>k (v::l)) l k
theorem Te(l:List V):∀k:List V->β,KJ l k=k l:=by
 induction l with
 | nil=>intro k;rfl
 | cons c l e=>intro k;rw[show KJ (c::l) k=O2 true c λc=>KJ l λl=>k (c::l) from rfl,AY];exact e _
def AuE(es:List V)(e:Bool)(k:V->β):β:=bif e then KJ es λes=>k (.tup es) else Dm es λes=>k (.tup es)
def TM(e:Bool)(v:V)(k:V->β):β:=V.casesOn (motive_1:=λ_=>Bool->(V->β)->β) v vB vI AqU Aot vSl Aoh AuE AmZ AnR Af2 vEp vFn vNp vNf vNi vNm vUb vIv AmW e k
theorem Oq(d:Bool)(v:V)(k:V->β):TM d v k=k v:=by
 cases v with
 | tup es=>cases d
           .exact D7 es λes=>k (.tup es)
           .exact Te es λes=>k (.tup es)
 | b x=>exact AY d (.b x) k
 | i a n=>exact AY d (.i a n) k
 | s l=>exact AY d (.s l) k
 | nil=>exact AY d (.nil ) k
 | sl es=>exact AY d (.sl es) k
 | agg es=>exact AY d (.agg es) k
 | ref id o=>exact AY d (.ref id o) k
 | arr id=>exact AY d (.arr id) k
 | aref id a b c=>exact AY d (.aref id a b c) k
 | ep e o=>exact AY d (.ep e o) k
 | fn f a c=>exact AY d (.fn f a c) k
 | np=>exact AY d (.np ) k
 | nf=>exact AY d (.nf ) k
 | ni=>exact AY d (.ni ) k
 | nm=>exact AY d (.nm ) k
 | ub=>exact AY d (.ub ) k
 | iv=>exact AY d (.iv ) k
 | any=>exact AY d (.any ) k
end force
end
end Go.Ir
end
section
namespace Go.Ir
open Go.RowKit
variable[F2]
section
variable{P:Program}{W0:World}{f:FuncId}{args:List V}{σ:Aj}{n:Nat}{v:V}
theorem Fd.of_ret(L:f≠HE)(h:Al P W0 f args [] v [])(z:Nv v=true)(y:BV (Lt n) σ):Fd P W0 f args σ n v σ n where
 callable _:=h.callable
 le:=AzR _
 vin:=PN.1 v z
 sin:=y
 run:=by
  intro w μ H vals hp o;have i:∀id e,lk ([]:Aj) id=some e->lk σ id=some e:=λid e F=>by cases F
  rw[DH L];refine AwZ (h.run n w μ H vals (hp.part i) o) ?_;rintro e w' ⟨val,t,A,n',rfl,r,q,G,E,g⟩;obtain⟨u,j⟩:=hp.back i q E;rw[GS] at u j;refine⟨val,cut n t,A,rfl,r.cut (PN.1 v z),u.cut y,⟨λid x s=>?_,j.hp,j.size,j.keep,j.pin,λB D J=>j.dom B D (FZ J)⟩,λid p C=>?_⟩
  .rcases Awy id.1 n with h|h
   .rw[Fo (m:=n) h];exact j.mu id x s
   .rw[hp.bd id h] at s;cases s
  .rw[Fo (m:=n) p];exact g id p C
theorem Hp.lose{w w':World}{σ1:Aj}{μ:Id->Option Value}{H:Addr->Option Value}(hp:Hp W0 σ n μ H w){R:Nat->Prop}(r:AR R w w')(s:∀k,R k->E3 μ σ k)
  (j:∀id e,lk σ1 id=some e->lk σ id=some e/\∀g,BB (μ id)=some g->¬R g):Hp W0 σ1 n μ H w'/\Fr μ H σ w μ H σ1 w':=by
 have i:∀g,E3 μ σ1 g->E3 μ σ g:=by rintro g ⟨id,e,p,o⟩;exact⟨id,e,(j _ _ p).1,o⟩
 refine⟨⟨hp.base_turned r s,hp.pins_turned r s,?_,λg q=>hp.unp g (i g q),λz u i2 y g l1 l2=>hp.sep _ _ _ _ g (j _ _ l1).1 (j _ _ l2).1,hp.bd⟩,
  ⟨λ_ _ h=>h,λ_ _ h=>h,r.size,λg o q=>r.block g o (λt=>q (s g t)),λ_ _ _=>rfl,λg _ q=>i g q⟩⟩
 intro id e p;refine(hp.ents _ _ (j _ _ p).1).keep (λ_ _ h=>h) (λ_ _ h=>h) (λg o=>?_);exact r.block g ((hp.ents _ _ (j _ _ p).1).block o).2 ((j _ _ p).2 g o)
end
theorem VRels.one_{μ:Id->Option Value}{H:Addr->Option Value}{v:V}{vals:List Value}(h:VRels μ H [v] vals):∃x,vals=[x]/\Ao μ H v x:=by
 have e:=h.len
 match vals,e with
 | [x],_=>exact⟨x,rfl,h.at_ 0 v x rfl rfl⟩
 | [],e=>simp at e
 | _::_::_,e=>simp at e
theorem Ao.np_inv'{μ:Id->Option Value}{H:Addr->Option Value}{val:Value}(h:Ao μ H .np val):val=.pointer none:=by cases h;rfl
section
variable{P:Program}{W0:World}
def orC(a b:AV):AV:=λf args σ n=>match a f args σ n with
 | some r=>some r
 | none=>b f args σ n
theorem JU{a b:AV}(e:AX P W0 a)(g:AX P W0 b):AX P W0 (orC a b):=by
 intro f args σ n v σ' n' h;unfold orC at h;split at h
 .rename_i r i;cases h;exact e _ _ _ _ _ _ _ i
 .exact g _ _ _ _ _ _ _ h
noncomputable def bL(e:FuncId)(g:List V->Option V):AV:=λf args σ n=>bif Nat.beq f e then(match g args with
 | some v=>TM true v λv=>some (v,σ,n)
 | none=>none) else none
theorem Lc{i:FuncId}{g:List V->Option V}(h:∀args v,g args=some v->Al P W0 i args [] v []/\Nv v=true)(s:i≠HE:=by decide):AX P W0 (bL i g):=by
 intro f args σ n v σ' n' e t q;unfold bL at e;cases j:Nat.beq f i with
 | false=>rw[j] at e;cases e
 | true=>
  rw[j] at e;obtain rfl:=AuZ j;simp only[cond_true] at e;split at e
  .rename_i v1 r;rw[Oq] at e;cases e;obtain⟨o,p⟩:=h _ _ r;exact Fd.of_ret s o p q
  .cases e
theorem LE{μ:Id->Option Value}{H:Addr->Option Value}:∀{l:List UInt8} {vals:List Value},AK μ H (AC (Ay l)) vals->vals=Lib.byteCells l
 | [],vals,g=>by have:=g.len;simp only[Ay,Apy,AC,List.flatMap_nil,Ank] at this;exact AtC this.symm
 | c::l,vals,g=>by
  have e:=g.len;have p:AC (Ay (c::l))=V.i .u8 c.toNat::AC (Ay l):=rfl;rw[p] at g e;cases vals with
  | nil=>simp at e
  | cons x xs=>
   have j:=g.at_ 0 _ x rfl rfl;have o:AK μ H (AC (Ay l)) xs:=⟨⟨by simpa using e,λk c v q h=>g.at_ (k+1) c v (by simpa using q) (by simpa using h)⟩,λv h=>g.one v (by simp[h])⟩
   rw[LE o,j.i_inv];rfl
end
section
variable{P:Program}{W0:World}{f:FuncId}{args args':List V}{σ:Aj}{n:Nat}{v:V}
def O7:V->Bool
 | .b _|.i _ _|.s _|.ni|.np|.nf|.nm=>true
 | _=>false
def OI:V->Bool
 | .tup vs=>vs.all O7
 | v=>O7 v
theorem Ln{μ e:Id->Option Value}{H g:Addr->Option Value}{v:V}{val:Value}(h:O7 v=true)(i:Ao μ H v val):Ao e g v val:=by
 cases i<;>first|(cases h;done)|constructor
 assumption
theorem S8{μ g:Id->Option Value}{H o:Addr->Option Value}{v:V}{val:Value}(h:OI v=true)(j:Ao μ H v val):Ao g o v val:=by
 cases v with
 | tup vs=>obtain⟨vals,rfl,e⟩:=j.tup_inv;exact .tup vs vals e.len λk c x i p=>Ln (Am3.1 h c (AzT i)) (e.at_ k c x i p)
 | _=>exact Ln h j
theorem NC{S:Id->Prop}{v:V}(h:O7 v=true):Bb S v:=by cases v<;>first|(cases h;done)|constructor
theorem aD{S:Id->Prop}{v:V}(h:OI v=true):Bb S v:=by
 cases v with
 | tup vs=>exact .tup _ λc e=>NC (Am3.1 h c e)
 | _=>exact NC h
theorem Uu{w:World}{μ:Id->Option Value}{H:Addr->Option Value}(hp:Hp W0 σ n μ H w){φ:Id->Option (List V)}(C:∀id es,φ id=some es->∃e sz,lk σ id=some (.arr e sz es)) :
  ∀id es,φ id=some es->∀val,μ id=some val->(∃A h,val=.slice A es.length h/\es.length<=h/\es.length<=AI/\
   (es=[]\/∃(D:Addr) (sz:Nat) (vals:List Value),A=some D/\(∀e∈es,(cells e).length=sz)/\AK μ H (AC es) vals/\∀(k:Nat) (v:Value),vals[k]?=some v->Bk φ μ H w (D.add k)=some v)):=by
 intro id es p val y;obtain⟨e,sz,E⟩:=C id es p;obtain⟨vals,_,i,q,z,r⟩:=Di hp E y;rcases AyH es.length with t|t
 .have:es=[]:=AtC t;subst this;rcases i.2 with⟨rfl,_⟩|⟨g,h,s,rfl,_⟩
  .grind
  grind
 .obtain⟨g,h,s,rfl,hB,M,G,o,F,B⟩:=FD i t;refine⟨_,h,rfl,o,q,.inr ⟨⟨g,0,none⟩,sz,vals,rfl,z,r,λk v L=>?_⟩⟩;have u:=i.cells (g:=g) rfl k v L;have j:H ((⟨g,0,none⟩:Addr).add k)=none:=hp.unp g ⟨id,_,E,by simp[y,BB]⟩ _ (by rw[Ca]);have J:∃id es,φ id=some es/\BB (μ id)=some ((⟨g,0,none⟩:Addr).add k).block:=⟨id,es,p,by rw[Ca,y];rfl⟩;simp only[Bk,j];simp_all
theorem Fd.of_plain{φ:Id->Option (List V)}(F:f≠HE)(h:Al P W0 f args' [] v [])(M:OI v=true)(R:BV (Lt n) σ)(G:∀id es,φ id=some es->∃e sz,lk σ id=some (.arr e sz es))(A:args.length=args'.length)
  (C:∀(k:Nat) (c u:V),args[k]?=some c->args'[k]?=some u->Jw φ c u):Fd P W0 f args σ n v σ n where
 callable _:=h.callable
 le:=AzR _
 vin:=aD M
 sin:=R
 run:=by
  intro w μ H vals hp g;have j:∀p x,H p=some x->Bk φ μ H w p=some x:=by intro p x r;simp only[Bk,r]
  have D:Hp W0 [] n μ (Bk φ μ H w) w:=
   {base:=hp.base
    pins:=by
     intro p x r;simp only[Bk] at r;split at r
     .rename_i y F;rw[<-r];exact hp.pins p y F
     simp_all
    ents:=λ_ _ h=>by cases h
    unp:=λ_ ⟨_,_,h,_⟩=>by cases h
    sep:=λ_ _ _ _ _ h=>by cases h
    bd:=hp.bd }
  have q:VRels μ (Bk φ μ H w) args' vals:=by
   refine⟨by rw[<-A];exact g.len,λk u x N r=>?_⟩;have J:k<args.length:=by grind
   exact Ao.le j (Uu hp G) (C k _ u (Afb J) N) (g.at_ k _ x (Afb J) r)
  rw[DH F];refine AwZ (h.run n w μ _ vals D q) ?_;rintro e w' ⟨val,S,T,n',rfl,E,t,L,B,z⟩;have i:∀o,o<w.heap.size->w'.heap[o]?=w.heap[o]?:=λo s=>B.keep o s (λ⟨_,_,h,_⟩=>by cases h);exact⟨val,μ,H,rfl,S8 M E,⟨t.base,λp x r=>t.pins p x (B.hp p x (j p x r)),λid e A=>(hp.ents id e A).keep (λ_ _ h=>h) (λ_ _ h=>h) (λo s=>i o ((hp.ents id e A).block s).2),hp.unp,hp.sep,hp.bd⟩,
   ⟨λ_ _ h=>h,λ_ _ h=>h,B.size,λo s _=>i o s,λ_ _ _=>rfl,λo _ O=>O⟩,λ_ _ h=>h⟩
noncomputable def onP(e:FuncId)(g:List V->Option V):AV:=λf args σ n=>bif Nat.beq f e then(match MG (frz σ (λ_=>true) 60) args with
 | some args'=>(match g args' with
  | some v=>TM true v λv=>some (v,σ,n)
  | none=>none)
 | none=>none) else none
theorem kN{i:FuncId}{g:List V->Option V}(h:∀args v,g args=some v->Al P W0 i args [] v []/\OI v=true)(B:i≠HE:=by decide):AX P W0 (onP i g):=by
 intro f args σ n v σ' n' e C A;unfold onP at e;cases j:Nat.beq f i with
 | false=>rw[j] at e;cases e
 | true=>
  rw[j] at e;obtain rfl:=AuZ j;simp only[cond_true] at e;split at e
  .rename_i args' z;split at e
   .rename_i v1 y;rw[Oq] at e;cases e;obtain⟨r,s⟩:=h _ _ y;obtain⟨t,u⟩:=DK z;refine Fd.of_plain B (φ:=MS σ λ_=>true) r s A (λid es p=>?_) t λk c q w o=>FQ (u k c q w o);unfold MS at p;grind
   .cases e
  .cases e
end
end Go.Ir
end
namespace Go.Ir
open Go.Proofs Go.RowKit
theorem Xz:∃j,Tryz.prog.info? 98=some j/\j.size=2:=AeM.1 (show(Tryz.prog.info? 98).map (·.size)=some 2 by kernel_rfl)
set_option maxHeartbeats 1000000 in
set_option maxRecDepth 100000 in
theorem Of(b off:Nat)(w:World)(h:w.cell? ⟨b,off,none⟩=some (.pointer (some ⟨b,off,none⟩))) :
  Calls Tryz.prog 180 #[.pointer (some ⟨b,off,none⟩)] w λe w'=>e=.returned (.tuple #[])/\w'=w:=by
 obtain⟨j,g,_⟩:=Xz
 go_enter Tryz.func180,Tryz.ntmps180
 go_wp2
 rw[Lib.run_neq_ptr_same w _ Tryz.underlying95 g]
 go_wp2
 go_end0
 exact⟨rfl,rfl⟩
set_option maxHeartbeats 1000000 in
set_option maxRecDepth 100000 in
theorem Lf(T k off:Nat)(g:liesAt Tryz.prog Tryz.prog.depth T (k / Tryz.prog.cellsOf T) off 98 1=true)(b:Nat)(w:World)(r:w.cell? ⟨b,off,none⟩=some (.pointer none))(i:w.shape? b=some (T,k))(q:w.frozen? ⟨b,off,none⟩=false)(h:off<k) :
  Calls Tryz.prog 180 #[.pointer (some ⟨b,off,none⟩)] w λe w'=>e=.returned (.tuple #[])/\w'=w.setCell ⟨b,off,none⟩ (.pointer (some ⟨b,off,none⟩)):=by
 obtain⟨j,p,o⟩:=Xz
 go_enter Tryz.func180,Tryz.ntmps180
 go_wp2
 rw[Lib.run_to_unsafe w ⟨b,off,none⟩ Tryz.underlying95 Tryz.underlying315 p (by rw[o];decide) i h];simp only[Result.andThen];rw[Aze]
 go_wp2
 rw[run_callFunc_extern Tryz.func236 (by kernel_rfl) (by kernel_rfl) (by kernel_rfl) (e:=Extern.AbiNoEscape.same) (by kernel_rfl),Lib.run_noEscape];simp only[Result.andThen];rw[Aze]
 go_wp2
 rw[Lib.run_from_unsafe w ⟨b,off,none⟩ Tryz.underlying315 Tryz.underlying95 p i g];simp only[Result.andThen];rw[Aze]
 go_wp2
 go_end0
 exact⟨rfl,rfl⟩
theorem Gm(w:World)(e:Option Nat):w.grownBy w.drew e:=⟨rfl,rfl,rfl,AzR _,λ_ _ _=>rfl⟩
theorem Pu(w:World)(g n:Nat):w.grownBy (w.freeze ⟨g,0,none⟩ n) (some g):=by
 unfold World.freeze;split
 .exact⟨rfl,rfl,rfl,AzR _,λ_ _ _=>rfl⟩
 .exact⟨rfl,rfl,rfl,by simp,λk h e=>by grind
⟩
theorem K2{a b c:World}{e:Option Nat}(h:a.grownBy b e)(k:b.grownBy c e):a.grownBy c e:=
 ⟨k.os.trans h.os,k.tape.trans h.tape,k.output.trans h.output,Am5 h.size k.size,λi g j=>(k.block i (Apd g h.size) j).trans (h.block i g j)⟩
theorem Q4(w:World)(o:Obj)(e:Option Nat):w.grownBy (w.alloc o) e:=⟨rfl,rfl,rfl,by simp,λk g _=>heap_alloc_old w o g⟩
set_option maxHeartbeats 2000000 in
set_option maxRecDepth 100000 in
theorem vR(b off g h:Nat)(l:List UInt8)(i:Array Value)(w:World)(r:l≠[])(t:w.cell? ⟨b,off+1,none⟩=some (.slice (some ⟨g,0,none⟩) l.length h))(A:w.heap[g]?=some (.cells i 5 (0,0)))(s:l.length<=h)(p:h<=maxLen)(z:i.size=h)
  (o:∀j x,l[j]?=some x->w.cell? ((⟨g,0,none⟩:Addr).add j)=some (.int .u8 x.toNat)) :
  Calls Tryz.prog 45 #[.pointer (some ⟨b,off,none⟩)] w λe w'=>e=.returned (.string ⟨l.toArray⟩)/\w.grownBy w' (some g):=by
 have B:l.length≠0:=by simpa using r
 have C:w.drew.cell? ⟨b,off+1,none⟩=some (.slice (some ⟨g,0,none⟩) l.length h):=t;have u:(Builtin.unsafeSliceData_ #[96] 158 #[.slice (some ⟨g,0,none⟩) l.length h]).run Tryz.prog w.drew=.ok (.pointer (some ⟨g,0,none⟩)) w.drew:=
  Lib.run_unsafeSliceData_row _ _ _ _ _ _ (by omega)
 have y:(Builtin.unsafeString_ #[158,3] 9 #[.pointer (some ⟨g,0,none⟩),.int .i64 l.length]).run Tryz.prog w.drew=.ok (.string ⟨l.toArray⟩) (w.drew.freeze ⟨g,0,none⟩ l.length):=by refine Lib.run_unsafeString_row w.drew 158 3 9 5 Tryz.underlying158 (by kernel_rfl) g i.size (by have q:w.drew.heap[g]?=some (.cells i 5 (0,0)):=A;simp[World.shape?,q]) l r (by omega) (by unfold maxLen at p;omega) ?_;simp_all
 go_enter Tryz.func45,Tryz.ntmps45
 go_wp2
 go_region
 all_goals (go_wp2;go_ret;exact⟨rfl,K2 (Gm w _) (Pu _ _ _)⟩)
set_option maxHeartbeats 2000000 in
set_option maxRecDepth 100000 in
theorem iG(b off:Nat)(w:World)(g:w.cell? ⟨b,off+1,none⟩=some (.slice none 0 0)) :
  Calls Tryz.prog 45 #[.pointer (some ⟨b,off,none⟩)] w λe w'=>e=.returned (.string ⟨#[]⟩)/\w.grownBy w' none:=by
 have i:∀(W:World) (q:Option Addr),(Builtin.unsafeString_ #[158,3] 9 #[.pointer q,.int .i64 0]).run Tryz.prog W=.ok (.string .empty) W:=λW q=>Lib.run_unsafeString_none W _ _ _ q;have j:w.drew.cell? ⟨b,off+1,none⟩=some (.slice none 0 0):=g;have h:(Builtin.unsafeSliceData_ #[96] 158 #[.slice none 0 0]).run Tryz.prog w.drew=.ok (.pointer none) w.drew:=rfl
 go_enter Tryz.func45,Tryz.ntmps45
 go_wp2
 go_region
 all_goals (go_wp2;go_ret;exact⟨rfl,Gm w _⟩)
set_option maxHeartbeats 2000000 in
set_option maxRecDepth 100000 in
theorem Rs(b off g:Nat)(h:Array Value)(w:World)(o:w.cell? ⟨b,off+1,none⟩=some (.slice (some ⟨g,0,none⟩) 0 0))(t:w.heap[g]?=some (.cells h 5 (0,0))) :
  Calls Tryz.prog 45 #[.pointer (some ⟨b,off,none⟩)] w λe w'=>e=.returned (.string ⟨#[]⟩)/\w.grownBy w' (some g):=by
 have s:∀(W:World) (q:Option Addr),(Builtin.unsafeString_ #[158,3] 9 #[.pointer q,.int .i64 0]).run Tryz.prog W=.ok (.string .empty) W:=λW q=>Lib.run_unsafeString_none W _ _ _ q;have p:w.drew.cell? ⟨b,off+1,none⟩=some (.slice (some ⟨g,0,none⟩) 0 0):=o;have r:(Builtin.unsafeSliceData_ #[96] 158 #[.slice (some ⟨g,0,none⟩) 0 0]).run Tryz.prog w.drew=.ok (.pointer (some ⟨w.drew.heap.size,0,none⟩)) (w.drew.alloc (.view ⟨g,0,none⟩ 5)):=
  Lib.run_unsafeSliceData_zero w.drew _ _ 5 Tryz.underlying158 ⟨g,0,none⟩ 0 (5,h.size) (by have i:w.drew.heap[g]?=some (.cells h 5 (0,0)):=t;simp[World.shape?,i])
 have j:b<w.heap.size:=Az1 w _ o;have c3:(w.drew.alloc (.view ⟨g,0,none⟩ 5)).cell? ⟨b,off+1,none⟩=some (.slice (some ⟨g,0,none⟩) 0 0):=by rw[Az7 (w:=w.drew) (heap_alloc_old w.drew _ j)];exact p
 have u:(w.alloc (.view ⟨g,0,none⟩ 5)).drew.cell? ⟨b,off+1,none⟩=some (.slice (some ⟨g,0,none⟩) 0 0):=c3
 go_enter Tryz.func45,Tryz.ntmps45
 go_wp2
 go_region
 all_goals (go_wp2;go_ret;exact⟨rfl,K2 (Gm w _) (Q4 _ _ _)⟩)
set_option maxHeartbeats 2000000 in
set_option maxRecDepth 100000 in
theorem Zr(b off g h:Nat)(w:World)(i:h≠0)(j:w.cell? ⟨b,off+1,none⟩=some (.slice (some ⟨g,0,none⟩) 0 h)) :
  Calls Tryz.prog 45 #[.pointer (some ⟨b,off,none⟩)] w λe w'=>e=.returned (.string ⟨#[]⟩)/\w.grownBy w' (some g):=by
 have p:∀(W:World) (q:Option Addr),(Builtin.unsafeString_ #[158,3] 9 #[.pointer q,.int .i64 0]).run Tryz.prog W=.ok (.string .empty) W:=λW q=>Lib.run_unsafeString_none W _ _ _ q;have r:w.drew.cell? ⟨b,off+1,none⟩=some (.slice (some ⟨g,0,none⟩) 0 h):=j;have o:(Builtin.unsafeSliceData_ #[96] 158 #[.slice (some ⟨g,0,none⟩) 0 h]).run Tryz.prog w.drew=.ok (.pointer (some ⟨g,0,none⟩)) w.drew:=
  Lib.run_unsafeSliceData_row _ _ _ _ _ _ i
 clear i
 go_enter Tryz.func45,Tryz.ntmps45
 go_wp2
 go_region
 all_goals (go_wp2;go_ret;exact⟨rfl,Gm w _⟩)
theorem K3(b off:Nat)(l:List UInt8)(v:Value)(B:Nat)(w:World)(o:w.cell? ⟨b,Nat.succ off,none⟩=some v)(h:w.ownsRow B 5 1 v l.length (Lib.byteCells l)) :
  Calls Tryz.prog 45 #[.pointer (some ⟨b,off,none⟩)] w λe w'=>e=.returned (.string ⟨l.toArray⟩)/\w.grownBy w' v.ownBlock:=by
 have q:=h;rcases h.2 with⟨rfl,p⟩|⟨g,cap,cur,rfl,hbg,hg,hnc,hcm,hcs,htake⟩
 .have:l=[]:=AtC p;subst this;exact iG b off w o
 .by_cases p:l=[]
  .subst p;by_cases i:cap=0
   .subst i;exact Rs b off g cur w o hg
   .exact Zr b off g cap w i o
  .refine vR b off g cap l cur w p o hg hnc hcm (by simpa using hcs) λj x r=>?_;exact h.cells (g:=g) rfl j (.int .u8 x.toNat) (by simp[Lib.byteCells,r])
end Go.Ir

namespace Go.Ir
variable[F2]
def Bz(P:Program)(f:FuncId)(F:Cs):Bool:=Av P f F.nt F.ic F.rs&&F.ic.cl
def AP(m:Nat)(a b:FuncId->Option Cs):FuncId->Option Cs:=λf=>bif Nat.blt f m then a f else b f
def AO(d:FuncId)(F:Cs):FuncId->Option Cs:=λf=>bif Nat.beq f d then some F else none
theorem HI.node{P:Program}{m:Nat}{a b:FuncId->Option Cs}(g:HI P a)(i:HI P b):HI P (AP m a b):=by
 intro f F h;unfold AP at h;cases e:Nat.blt f m with
 | true=>rw[e] at h;exact g f F h
 | false=>rw[e] at h;exact i f F h
theorem HI.leaf{P:Program}{d:FuncId}{F:Cs}(g:Bz P d F=true):HI P (AO d F):=by
 intro f G h;unfold AO at h;cases e:Nat.beq f d with
 | true=>rw[e] at h;cases h;obtain rfl:=AuZ e;unfold Bz at g;simpa using g
 | false=>rw[e] at h;cases h
def Ao9(o:Option (V×Aj×Nat)):Option V:=match o with
 | some r=>some r.1
 | none=>none
theorem Ra{P:Program}{W0:World}{T:FuncId->Option Cs}{B:AV}{K k:Nat}(i:HI P T)(hB:AX P W0 B)(g:Gq P){f:FuncId}{args:List V}{v:V}(h:Ao9 (LD T B K k f args [] 0)=some v)(j:Kg 0 args=true)(p:Nu 0 v=true)(o:f≠HE:=by decide):Al P W0 f args [] v []:=by
 cases e:LD T B K k f args [] 0 with
 | none=>rw[e] at h;cases h
 | some r=>rw[e] at h;cases h;obtain⟨v,σ,n⟩:=r;exact Tk i hB g e j p o
def nO:IC:=.opxe [] ⟨none,.mv (.t 0),none,[]⟩ [] []
end Go.Ir
section
namespace Go.Ir
open Go.RowKit
variable[F2]
def cL(op:BinOp)(b:Int):Prop:=
 match op with
 | .add|.sub|.mul|.eql|.neq|.lss|.leq|.gtr|.geq=>True
 | .quo|.rem=>b≠0
 | _=>False
def sU(op:BinOp)(k:IntKind)(a b:Int):V:=
 match op with
 | .add=>.i k (k.wrap (a+b))
 | .sub=>.i k (k.wrap (a-b))
 | .mul=>.i k (k.wrap (a*b))
 | .quo=>.i k (k.wrap (a.tdiv b))
 | .rem=>.i k (a.tmod b)
 | .eql=>.b (a==b)
 | .neq=>.b (a !=b)
 | .lss=>.b (decide (a<b))
 | .leq=>.b (decide (a<=b))
 | .gtr=>.b (decide (a>b))
 | .geq=>.b (decide (a>=b))
 | _=>.any
def wN(op:BinOp)(a b:List UInt8):Prop:=
 match op with
 | .add=>a.length+b.length<=AJ
 | .eql|.neq|.lss|.leq|.gtr|.geq=>True
 | _=>False
def pL(op:BinOp)(a b:List UInt8):V:=
 match op with
 | .add=>.s (a++b)
 | .eql=>.b (a==b)
 | .neq=>.b (!(a==b))
 | .lss=>.b (Op.bytesLess a b)
 | .leq=>.b (Op.bytesLess a b||a==b)
 | .gtr=>.b (!(Op.bytesLess a b||a==b))
 | .geq=>.b (!Op.bytesLess a b)
 | _=>.any
def MN(op:BinOp):V->V->Prop
 | .i k _,.i k' b=>k=k'/\cL op b
 | .s a,.s b=>wN op a b
 | _,_=>False
def Qr(op:BinOp):V->V->V
 | .i k a,.i _ b=>sU op k a b
 | .s a,.s b=>pL op a b
 | _,_=>.any
theorem fD{op:BinOp}{k:IntKind}{a b:Int}{v:V}:Ry op k a b v↔cL op b/\v=sU op k a b:=by cases op<;>simp[Ry,cL,sU]
theorem oL{op:BinOp}{a b:List UInt8}{v:V}:QV op a b v↔wN op a b/\v=pL op a b:=by cases op<;>simp[QV,wN,pL]
theorem cR{op:BinOp}{x y v:V}:Pf op x y v↔MN op x y/\v=Qr op x y:=by
 unfold Pf;split
 .simp only[MN,Qr,fD,and_assoc]
 .simp only[MN,Qr,oL]
 .rename_i e g;have:¬MN op x y:=by unfold MN;grind
  simp[this]
def Sn:V->Prop|.b _=>True|_=>False
def MJ:V->Bool|.b t=>t|_=>false
theorem WC{v:V}{Q:Bool->Prop}:(∃t,v=.b t/\Q t)↔Sn v/\Q (MJ v):=by cases v<;>simp[Sn,MJ]
def T9:V->Prop|.i _ _=>True|_=>False
def Mj:V->Int|.i _ n=>n|_=>0
def kiI:V->IntKind|.i k _=>k|_=>.i64
def isS:V->Prop|.s _=>True|_=>False
def toS:V->List UInt8|.s l=>l|_=>[]
def TZ:V->Prop|.ref _ _|.aref _ _ _ _|.ep _ _=>True|_=>False
def Ie:V->Nat->V
 | .ref id o,n=>.ref id (o+n)
 | .aref id g sz o,n=>.aref id g sz (o+n)
 | .ep e o,n=>.ep e (o+n)
 | v,_=>v
def Eq(σ:Aj)(sz:Nat):V->V->Option V
 | .sl es,.i _ n=>if 0<=n then(es[n.toNat]?).bind λg=>if(cells g).length=sz then some (.ep g 0) else none else none
 | .arr id,.i _ n=>if 0<=n then(match lk σ id with|some (.arr _ e es)=>if e=sz/\n.toNat<es.length then some (.aref id n.toNat sz 0) else none|_=>none) else none
 | _,_=>none
def FG(σ:Aj)(n:Nat)(e:Bool):V->Option V
 | .ref id off=>match lk σ id with|some (.box u)=>sub u off n e|some (.tbox _ u)=>sub u off n e|_=>none
 | .aref id i sz off=>match lk σ id with|some (.arr _ g es)=>if g=sz then(es[i]?).bind λh=>sub h off n e else none|_=>none
 | .ep u off=>sub u off n e
 | _=>none
def En(σ:Aj)(n:Nat)(x:V):V->Option Aj
 | .ref id off=>match lk σ id with|some (.box u)=>(Da u off n x).map λi=>upd σ id (.box i)|some (.tbox t u)=>(Da u off n x).map λi=>upd σ id (.tbox t i)|_=>none
 | .aref id j sz off=>match lk σ id with|some (.arr e h es)=>if h=sz then(es[j]?).bind λo=>(Da o off n x).map λg=>upd σ id (.arr e sz (es.set j g)) else none|_=>none
 | _=>none
def Py:V->V->Option V
 | .s l,.i _ n=>if 0<=n then(l[n.toNat]?).map λc=>.i .u8 c.toNat else none
 | _,_=>none
section
variable{P:Program}{W0:World}{ep:Nat}{l:List I}{env:A9}{σ:Aj}{K:A9→Aj→Prop}
theorem Cg{d:Option Nat}{op:AE}:Au P W0 ep (⟨d,op,none,[]⟩::l) env σ K↔∃v σ',E P W0 ep d op (get env) σ v σ'/\Au P W0 ep l (put env d v) σ' K:=by simp[Au,Ck,EA,aB,Ki]
theorem AtV{d:Option Nat}{op:AE}{x:X}{ap:List X}(o:op.cl=false):Au P W0 ep (⟨d,op,none,x::ap⟩::l) env σ K↔aB ⟨d,op,none,x::ap⟩ (get env)/\Au P W0 ep (⟨d,op,none,[]⟩::l) env σ K:=by
 simp only[Au,Ck,EA];constructor
 .rintro⟨v,σ',⟨e,g,_⟩,i⟩;exact⟨g,v,σ',⟨e,λx j=>(by cases j),λ_ x j=>(by cases j)⟩,i⟩
 .rintro⟨g,v,σ',⟨e,_⟩,i⟩;exact⟨v,σ',⟨e,g,λh=>by rw[o] at h;cases h⟩,i⟩
def It(e:Bool)(v:V)(x y:Prop):Prop:=
 match v with
 | .b t=>(t=e->x)/\(t≠e->y)
 | .tup []=>y
 | _=>False
theorem H6{d:Option Nat}{op:AE}{C:Prop}{val:V}{τ:Aj}(h:∀v σ',E P W0 ep d op (get env) σ v σ'↔C/\v=val/\σ'=τ) :
  Au P W0 ep (⟨d,op,none,[]⟩::l) env σ K↔C/\Au P W0 ep l (put env d val) τ K:=by
 rw[Cg];grind
theorem K1{d:Option Nat}{op:AE}{C:Prop}{o:Option V}(h:∀v σ',E P W0 ep d op (get env) σ v σ'↔C/\o=some v/\σ'=σ) :
  Au P W0 ep (⟨d,op,none,[]⟩::l) env σ K↔C/\o.isSome=true/\Au P W0 ep l (put env d (o.getD .any)) σ K:=by
 rw[Cg];constructor
 .grind
 .rintro⟨i,e,g⟩;cases o with
  | none=>cases e
  | some v=>grind
variable{d:Nat}
theorem Av4{x:X}:Au P W0 ep (⟨some d,.mv x,none,[]⟩::l) env σ K↔Au P W0 ep l ((d,ev (get env) x)::env) σ K:=
 (H6 (C:=True) (val:=ev (get env) x) (τ:=σ) λv σ'=>by simp[E]).trans (by simp[put])
theorem Amg{c a b:X}:Au P W0 ep (⟨some d,.pick c a b,none,[]⟩::l) env σ K↔Sn (ev (get env) c)/\Au P W0 ep l ((d,bif MJ (ev (get env) c) then ev (get env) a else ev (get env) b)::env) σ K:=
 H6 λv σ'=>by simp only[E];exact WC
theorem ArA{op:BinOp}{x y:X}:Au P W0 ep (⟨some d,.bin op x y,none,[]⟩::l) env σ K↔MN op (ev (get env) x) (ev (get env) y)/\Au P W0 ep l ((d,Qr op (ev (get env) x) (ev (get env) y))::env) σ K:=
 H6 λv σ'=>by simp only[E,cR,and_assoc]
theorem Aop{e:Bool}{x y:X}:Au P W0 ep (⟨some d,.eqb e x y,none,[]⟩::l) env σ K↔(Sn (ev (get env) x)/\Sn (ev (get env) y))/\Au P W0 ep l ((d,.b (if e then !(MJ (ev (get env) x)==MJ (ev (get env) y)) else MJ (ev (get env) x)==MJ (ev (get env) y)))::env) σ K:=
 H6 λv σ'=>by simp only[E];cases ev (get env) x<;>cases ev (get env) y<;>simp[Sn,MJ]
theorem AnL{x:X}:Au P W0 ep (⟨some d,.not x,none,[]⟩::l) env σ K↔Sn (ev (get env) x)/\Au P W0 ep l ((d,.b (!(MJ (ev (get env) x))))::env) σ K:=
 H6 λv σ'=>by simp only[E];exact WC
theorem Ar5{k:IntKind}{x:X}:Au P W0 ep (⟨some d,.cvi k x,none,[]⟩::l) env σ K↔T9 (ev (get env) x)/\Au P W0 ep l ((d,.i k (k.wrap (Mj (ev (get env) x))))::env) σ K:=
 H6 λv σ'=>by
  simp only[E];cases ev (get env) x<;>(try (simp[T9,Mj];done))
  rename_i k' n;simp only[T9,Mj,true_and];grind
theorem Aaz{x:X}{off:Nat}:Au P W0 ep (⟨some d,.faddr x off,none,[]⟩::l) env σ K↔TZ (ev (get env) x)/\Au P W0 ep l ((d,Ie (ev (get env) x) off)::env) σ K:=
 H6 λv σ'=>by simp only[E];cases ev (get env) x<;>simp[TZ,Ie]
theorem zH{x i:X}{e sz:Nat}:Au P W0 ep (⟨some d,.iaddr x i e sz,none,[]⟩::l) env σ K↔True/\(Eq σ sz (ev (get env) x) (ev (get env) i)).isSome=true/\Au P W0 ep l ((d,(Eq σ sz (ev (get env) x) (ev (get env) i)).getD .any)::env) σ K:=
 K1 λv σ'=>by
  simp only[E,true_and];cases g:ev (get env) i<;>(try (cases ev (get env) x<;>simp[Eq];done))
  rename_i k n;cases h:ev (get env) x<;>(try (simp[Eq];done))
  .rename_i es;simp only[Eq];grind
  .rename_i id;simp only[Eq];grind
theorem AsN{x i:X}:Au P W0 ep (⟨some d,.idx x i,none,[]⟩::l) env σ K↔True/\(Py (ev (get env) x) (ev (get env) i)).isSome=true/\Au P W0 ep l ((d,(Py (ev (get env) x) (ev (get env) i)).getD .any)::env) σ K:=
 K1 λv σ'=>by
  simp only[E,true_and];cases e:ev (get env) i<;>(try (cases ev (get env) x<;>simp[Py];done))
  rename_i k n;cases g:ev (get env) x<;>(try (simp[Py];done))
  rename_i l;simp only[Py];grind
theorem AgT{x:X}{n:Nat}{e:Bool}:Au P W0 ep (⟨some d,.load x n e,none,[]⟩::l) env σ K↔True/\(FG σ n e (ev (get env) x)).isSome=true/\Au P W0 ep l ((d,(FG σ n e (ev (get env) x)).getD .any)::env) σ K:=
 K1 λv σ'=>by
  simp only[E,true_and];cases i:ev (get env) x<;>(try (simp[FG];done))
  .rename_i id off;simp only[FG];cases h:lk σ id with
   | none=>simp
   | some g=>cases g<;>simp[ldB]
  .rename_i id j sz off;simp only[FG];grind
end
end Go.Ir
end
section
namespace Go.Ir
open Go.RowKit
variable[F2]
def GF(sz:Nat):List V->Prop
 | []=>True
 | x::xs=>(x.ok=true/\(cells x).length=sz)/\GF sz xs
theorem J8{sz:Nat}:∀{xs:List V},(∀x∈xs,x.ok=true/\(cells x).length=sz)↔GF sz xs
 | []=>by simp[GF]
 | x::xs=>by simp[GF,J8 (xs:=xs)]
def YA(g:Nat->V):List (Nat×Nat×X)->Prop
 | []=>True
 | p::ps=>(ev g p.2.2).ok=true/\YA g ps
theorem RT{g:Nat->V}:∀{ps:List (Nat×Nat×X)},(∀p∈ps,(ev g p.2.2).ok=true)↔YA g ps
 | []=>by simp[YA]
 | p::ps=>by have:=RT (g:=g) (ps:=ps);simp only[YA,Am8,forall_eq_or_imp,this]
def Jy(g:Nat->V)(h e:Option X):V->Option V
 | .s l=>(Fq g 0 h).bind λa=>(Fq g l.length e).bind λb=>if a<=b/\b<=l.length then some (.s ((l.take b).drop a)) else none
 | _=>none
def GM(g:Nat->V)(h e:Option X)(es:List V):Option V:=
 (Fq g 0 h).bind λa=>(Fq g es.length e).bind λb=>if a<=b/\b<=es.length then some (.sl ((es.take b).drop a)) else none
def isL(sz:Nat):V->Prop
 | .sl es=>∀y∈es,(cells y).length=sz
 | .nil=>True
 | _=>False
def toL:V->List V
 | .sl es=>es
 | _=>[]
def Li(σ:Aj)(id:Id)(e sz:Nat)(xs:List V):V->Option Aj
 | .nil=>if xs.length<=AI then some ((id,.arr e sz xs)::σ) else none
 | .arr g=>match lk σ g with
  | some (.arr i h es)=>if i=e/\h=sz/\es.length+xs.length<=AI then some ((id,.arr e sz (es++xs))::del σ g) else none
  | _=>none
 | _=>none
def TJ(k:Nat):V->Option V
 | .tup vs=>vs[k]?
 | _=>none
def isN:V->Prop
 | .ref _ _|.aref _ _ _ _|.ep _ _|.fn _ _ _=>True
 | _=>False
section
variable{P:Program}{W0:World}{ep:Nat}{l:List I}{env:A9}{σ:Aj}{K:A9→Aj→Prop}
theorem AdZ{d:Option Nat}{op:AE}{C:Prop}{val:V}{o:Option Aj}(h:∀v σ',E P W0 ep d op (get env) σ v σ'↔C/\v=val/\o=some σ') :
  Au P W0 ep (⟨d,op,none,[]⟩::l) env σ K↔C/\o.isSome=true/\Au P W0 ep l (put env d val) (o.getD []) K:=by
 rw[Cg];constructor
 .grind
 .rintro⟨i,e,g⟩;cases o with
  | none=>cases e
  | some τ=>grind
theorem Ab5{a x:X}{n:Nat}:Au P W0 ep (⟨none,.store a x n,none,[]⟩::l) env σ K↔(ev (get env) x).ok=true/\(En σ n (ev (get env) x) (ev (get env) a)).isSome=true/\Au P W0 ep l env ((En σ n (ev (get env) x) (ev (get env) a)).getD []) K:=
 AdZ λv σ'=>by
  simp only[E];refine and_congr_right λ_=>and_congr_right λ_=>?_;cases ev (get env) a<;>(try (simp[En];done))
  .rename_i id off;simp only[En];cases s:lk σ id with
   | none=>simp
   | some i=>
    cases i with
    | arr e sz es=>simp[V2]
    | map _=>simp[V2]
    | it _ _=>simp[V2]
    | mit _ _ _ _=>simp[V2]
    | loop _ _ _ _ _ _ _=>simp[V2]
    | box u=>
     constructor
     .rintro⟨i,j,o,h,rfl⟩;cases o;simp only[V2] at h;cases g:Da u off n (ev (get env) x) with
      | none=>rw[g] at h;cases h
      | some w=>grind
     .intro h;cases g:Da u off n (ev (get env) x) with
      | none=>grind
      | some w=>simp only[g] at h;cases h;exact⟨_,_,rfl,by simp only[V2,g];rfl,rfl⟩
    | tbox t u=>
     constructor
     .rintro⟨i,j,o,h,rfl⟩;cases o;simp only[V2] at h;cases g:Da u off n (ev (get env) x) with
      | none=>rw[g] at h;cases h
      | some w=>grind
     .intro h;cases g:Da u off n (ev (get env) x) with
      | none=>grind
      | some w=>simp only[g] at h;cases h;exact⟨_,_,rfl,by simp only[V2,g];rfl,rfl⟩
  .rename_i id y sz off;simp only[En];cases s:lk σ id with
   | none=>simp
   | some i=>
    cases i with
    | box u=>simp
    | tbox _ _=>simp
    | map _=>simp
    | it _ _=>simp
    | mit _ _ _ _=>simp
    | loop _ _ _ _ _ _ _=>simp
    | arr e z es=>
     simp only[Amy,A5.arr.injEq];constructor
     .grind
     .intro h;split at h
      .rename_i p;subst p;cases q:es[y]? with
       | none=>rw[q] at h;cases h
       | some r=>
        rw[q] at h;simp only[AyC] at h;cases g:Da r off n (ev (get env) x) with
        | none=>rw[g] at h;cases h
        | some w=>grind
      .cases h
variable{d:Nat}
theorem AqZ{x:X}:Au P W0 ep (⟨some d,.box x,none,[]⟩::l) env σ K↔(ev (get env) x).ok=true/\Au P W0 ep l ((d,.ref (ep,d) 0)::env) (((ep,d),.box (ev (get env) x))::σ) K:=
 H6 λv σ'=>by simp only[E,Amy];grind
theorem Aan{z:V}:Au P W0 ep (⟨some d,.alloc z,none,[]⟩::l) env σ K↔True/\Au P W0 ep l ((d,.ref (ep,d) 0)::env) (((ep,d),.box z)::σ) K:=
 H6 λv σ'=>by simp only[E,Amy,true_and];grind
theorem Adg{z:List V}{ps:List (Nat×Nat×X)}:Au P W0 ep (⟨some d,.build z ps,none,[]⟩::l) env σ K↔YA (get env) ps/\(((Es z (ps.map λp=>(p.1,p.2.1,ev (get env) p.2.2))).map V.agg).isSome=true)/\Au P W0 ep l ((d,((Es z (ps.map λp=>(p.1,p.2.1,ev (get env) p.2.2))).map V.agg).getD .any)::env) σ K:=
 K1 λv σ'=>by
  simp only[E,RT];refine and_congr_right λ_=>and_congr_left λ_=>?_;cases Es z (ps.map λp=>(p.1,p.2.1,ev (get env) p.2.2)) with
  | none=>simp
  | some cs=>simp[eq_comm]
theorem Ahd{e sz:Nat}{xs:List X}:Au P W0 ep (⟨some d,.msl true e sz xs,none,[]⟩::l) env σ K↔GF sz (xs.map (ev (get env)))/\Au P W0 ep l ((d,.arr (ep,d))::env) (((ep,d),.arr e sz (xs.map (ev (get env))))::σ) K:=
 H6 λv σ'=>by simp only[E,J8,Amy];grind
theorem Alj{e sz:Nat}{xs:List X}:Au P W0 ep (⟨some d,.msl false e sz xs,none,[]⟩::l) env σ K↔GF sz (xs.map (ev (get env)))/\Au P W0 ep l ((d,.sl (xs.map (ev (get env))))::env) σ K:=
 H6 λv σ'=>by simp only[E,J8,AcT,if_false]
theorem AqD{x:X}{i g:Option X}:Au P W0 ep (⟨some d,.slS x i g,none,[]⟩::l) env σ K↔True/\(Jy (get env) i g (ev (get env) x)).isSome=true/\Au P W0 ep l ((d,(Jy (get env) i g (ev (get env) x)).getD .any)::env) σ K:=
 K1 λv σ'=>by
  simp only[E,true_and];constructor
  .rintro⟨l,a,b,e,j,o,p,q,rfl,rfl⟩;simp[Jy,e,j,o,p,q]
  .rintro⟨h,rfl⟩;cases r:ev (get env) x<;>rw[r] at h<;>simp only[Jy] at h<;>(try (cases h;done));rename_i l;cases e:Fq (get env) 0 i with
   | none=>rw[e] at h;cases h
   | some a=>
    cases j:Fq (get env) l.length g with
    | none=>rw[e,j] at h;cases h
    | some b=>simp_all
theorem Aqw{x:X}{i g:Option X}{sz:Nat}:Au P W0 ep (⟨some d,.slL x i g sz,none,[]⟩::l) env σ K↔isL sz (ev (get env) x)/\(GM (get env) i g (toL (ev (get env) x))).isSome=true/\Au P W0 ep l ((d,(GM (get env) i g (toL (ev (get env) x))).getD .any)::env) σ K:=
 K1 λv σ'=>by
  simp only[E];constructor
  .rintro⟨es,a,b,e,j,r,s,t,u,rfl,rfl⟩;rcases e with e|⟨e,rfl⟩
   .rw[e];exact⟨u,by simp[GM,toL,j,r,s,t],rfl⟩
   .rw[e];exact⟨trivial,(by simp only[GM,j,r,AyC];exact if_pos ⟨s,t⟩:GM (get env) i g []=_),rfl⟩
  .rintro⟨p,h,rfl⟩;have q:∀es:List V,(ev (get env) x=.sl es\/ev (get env) x=.nil/\es=[])->GM (get env) i g es=some v->(∀y∈es,(cells y).length=sz)->∃es a b,(ev (get env) x=.sl es\/ev (get env) x=.nil/\es=[])/\Fq (get env) 0 i=some a/\Fq (get env) es.length g=some b/\a<=b/\b<=es.length/\(∀y∈es,(cells y).length=sz)/\v=.sl ((es.take b).drop a)/\σ'=σ':=by
    intro es w h z;unfold GM at h;cases e:Fq (get env) 0 i with
    | none=>rw[e] at h;cases h
    | some a=>
     cases j:Fq (get env) es.length g with
     | none=>rw[e,j] at h;cases h
     | some b=>
      simp only[e,j,AyC] at h;split at h
      .grind
      .cases h
   cases o:ev (get env) x<;>rw[o] at p h<;>simp only[isL] at p
   .have:=q [] (.inr ⟨o,rfl⟩) h (by simp);rw[o] at this;exact this
   .rename_i es;have:=q es (.inl o) h p;rw[o] at this;exact this
theorem Aij{x:X}:Au P W0 ep (⟨some d,.lenS x,none,[]⟩::l) env σ K↔isS (ev (get env) x)/\Au P W0 ep l ((d,.i .i64 ((toS (ev (get env) x)).length:Nat))::env) σ K:=
 H6 λv σ'=>by simp only[E];cases ev (get env) x<;>simp[isS,toS]
theorem Ah8{x:X}:Au P W0 ep (⟨some d,.lenL x,none,[]⟩::l) env σ K↔(A4 σ (ev (get env) x)).isSome=true/\Au P W0 ep l ((d,.i .i64 (((A4 σ (ev (get env) x)).getD []).length:Nat))::env) σ K:=
 H6 λv σ'=>by simp only[E];cases A4 σ (ev (get env) x)<;>simp
theorem Arx{s x:X}{e sz:Nat}:Au P W0 ep (⟨some d,.app s x e sz,none,[]⟩::l) env σ K↔((A4 σ (ev (get env) x)).isSome=true/\∀y∈(A4 σ (ev (get env) x)).getD [],(cells y).length=sz)/\(Li σ (ep,d) e sz ((A4 σ (ev (get env) x)).getD []) (ev (get env) s)).isSome=true/\Au P W0 ep l ((d,.arr (ep,d))::env) ((Li σ (ep,d) e sz ((A4 σ (ev (get env) x)).getD []) (ev (get env) s)).getD []) K:=
 AdZ λv σ'=>by
  simp only[E,Amy];cases A4 σ (ev (get env) x) with
  | none=>simp
  | some xs=>
   simp only[Amy,Atq,Option.getD_some,true_and];constructor
   .rintro⟨q,p,rfl,rfl,h,rfl,g⟩;refine⟨h,rfl,?_⟩;cases i:ev (get env) s<;>rw[i] at g<;>simp only at g<;>(try (exact g.elim))
    .simp[Li,g]
    .obtain⟨es,j,o,rfl⟩:=g;simp[Li,j,o]
   .rintro⟨h,rfl,g⟩;refine⟨d,xs,rfl,rfl,h,rfl,?_⟩;cases i:ev (get env) s<;>rw[i] at g<;>simp only[Li] at g<;>(try (cases g;done))
    .grind
    grind
theorem Ao2{x:X}{k:Nat}:Au P W0 ep (⟨some d,.ext x k,none,[]⟩::l) env σ K↔True/\(TJ k (ev (get env) x)).isSome=true/\Au P W0 ep l ((d,(TJ k (ev (get env) x)).getD .any)::env) σ K:=
 K1 λv σ'=>by simp only[E];cases ev (get env) x<;>simp[TJ]
theorem AgD{f:FuncId}{first e:List X}:Au P W0 ep (⟨some d,.mkfn f first e,none,[]⟩::l) env σ K↔True/\Au P W0 ep l ((d,.fn f (first.map (ev (get env))) (e.map (ev (get env))))::env) σ K:=
 H6 λv σ'=>by simp[E]
theorem Aus{e:Bool}{x:X}{xs:List X}:Au P W0 ep (⟨some d,.mx e x xs,none,[]⟩::l) env σ K↔True/\(P4 e (ev (get env) x) (xs.map (ev (get env)))).isSome=true/\Au P W0 ep l ((d,(P4 e (ev (get env) x) (xs.map (ev (get env)))).getD .any)::env) σ K:=
 K1 λv σ'=>by simp[E]
theorem Abr{x:X}:Au P W0 ep (⟨some d,.nilck x,none,[]⟩::l) env σ K↔isN (ev (get env) x)/\Au P W0 ep l ((d,ev (get env) x)::env) σ K:=
 H6 λv σ'=>Iff.rfl
theorem Alp{a c:X}{z:V}{e sz:Nat}:Au P W0 ep (⟨some d,.mksl a c z e sz,none,[]⟩::l) env σ K↔(T9 (ev (get env) a)/\T9 (ev (get env) c)/\0<=Mj (ev (get env) a)/\Mj (ev (get env) a)<=Mj (ev (get env) c)/\Mj (ev (get env) c)<=AI)/\Au P W0 ep l ((d,.arr (ep,d))::env) (((ep,d),.arr e sz (List.replicate (Mj (ev (get env) a)).toNat z))::σ) K:=
 H6 λv σ'=>by
  simp only[E,Amy];constructor
  .rintro⟨r,k,k',n,m,rfl,g,h,j,i,rfl,rfl⟩;rw[g,h];simp only[T9,Mj,true_and,Azn,AvY];grind
  .rintro⟨⟨g,h,j,i,o⟩,rfl,rfl⟩;cases p:ev (get env) a<;>rw[p] at g j i<;>simp only[T9] at g;cases q:ev (get env) c<;>rw[q] at h i o<;>simp only[T9] at h;simp only[Mj] at *;rename_i k n k' m;exact⟨d,k,k',n.toNat,m.toNat,rfl,by grind,by grind,by omega,by omega,rfl,rfl⟩
end
theorem wrap64{n:Int}(e:-9223372036854775808<=n)(g:n<9223372036854775808):IntKind.i64.wrap n=n:=by simp only[IntKind.wrap,IntKind.bits,IntKind.signed] at *;simp;omega
theorem AbW{e:Bool}{v:V}:P4 e v []=some v:=by cases v<;>rfl
theorem Anz{e:Bool}{k:IntKind}{a b:Int}{r:List V}:P4 e (.i k a) (.i k b::r)=P4 e (.i k (if e=true then min a b else max a b)) r:=by simp[P4]
end Go.Ir
end
namespace Go.Ir
open Go.RowKit
variable[F2]
def Uv(o:Option A5)(id:Id)(sz:Nat)(n:Int):Option V:=
 match o with|some (.arr _ e es)=>if e=sz/\n.toNat<es.length then some (.aref id n.toNat sz 0) else none|_=>none
def X8(g:Option A5)(off n:Nat)(e:Bool):Option V:=match g with|some (.box u)=>sub u off n e|some (.tbox _ u)=>sub u off n e|_=>none
def rI(i:Option A5)(j sz off n:Nat)(g:Bool):Option V:=match i with|some (.arr _ e es)=>if e=sz then(es[j]?).bind λh=>sub h off n g else none|_=>none
def PI(g:Option A5)(σ:Aj)(n:Nat)(x:V)(id:Id)(off:Nat):Option Aj:=match g with|some (.box u)=>(Da u off n x).map λe=>upd σ id (.box e)|some (.tbox t u)=>(Da u off n x).map λe=>upd σ id (.tbox t e)|_=>none
def Sy(o:Option A5)(σ:Aj)(n:Nat)(x:V)(id:Id)(i sz off:Nat):Option Aj:=match o with|some (.arr e h es)=>if h=sz then(es[i]?).bind λj=>(Da j off n x).map λg=>upd σ id (.arr e sz (es.set i g)) else none|_=>none
def AjJ(j:Option A5)(σ:Aj)(id g:Id)(e sz:Nat)(xs:List V):Option Aj:=match j with|some (.arr i h es)=>if i=e/\h=sz/\es.length+xs.length<=AI then some ((id,.arr e sz (es++xs))::del σ g) else none|_=>none
def S0:Option A5->Option (List V)|some (.arr _ _ es)=>some es|_=>none
def Ach:V->Option Nat|.i _ n=>if 0<=n then some n.toNat else none|_=>none
theorem AaZ{x:Bool}:cells (.b x)=[(.b x)]:=rfl
theorem AuV{x:Bool}:V.ok (.b x)=true:=rfl
theorem Ab2{k:IntKind}{n:Int}:cells (.i k n)=[(.i k n)]:=rfl
theorem AvA{k:IntKind}{n:Int}:V.ok (.i k n)=true:=rfl
theorem Aar{l:List UInt8}:cells (.s l)=[(.s l)]:=rfl
theorem Au8{l:List UInt8}:V.ok (.s l)=true:=rfl
theorem a7:cells .nil=[.nil]:=rfl
theorem Ak8:V.ok .nil=true:=rfl
theorem eL{es:List V}:cells (.sl es)=[(.sl es)]:=rfl
theorem ApA{es:List V}:V.ok (.sl es)=true:=rfl
theorem ZF{cs:List V}:cells (.agg cs)=cs:=rfl
theorem Akc{cs:List V}:V.ok (.agg cs)=true:=rfl
theorem Y8{id:Id}{o:Nat}:cells (.ref id o)=[(.ref id o)]:=rfl
theorem Ags{id:Id}{o:Nat}:V.ok (.ref id o)=true:=rfl
theorem YY{id:Id}:cells (.arr id)=[(.arr id)]:=rfl
theorem Aig{id:Id}:V.ok (.arr id)=true:=rfl
theorem SI{id:Id}{e:Nat}{sz:Nat}{o:Nat}:cells (.aref id e sz o)=[(.aref id e sz o)]:=rfl
theorem Ac2{id:Id}{e:Nat}{sz:Nat}{o:Nat}:V.ok (.aref id e sz o)=true:=rfl
theorem qE{e:V}{o:Nat}:cells (.ep e o)=[(.ep e o)]:=rfl
theorem AnP{e:V}{o:Nat}:V.ok (.ep e o)=true:=rfl
theorem oD{f:FuncId}{a:List V}{c:List V}:cells (.fn f a c)=[(.fn f a c)]:=rfl
theorem AmK{f:FuncId}{a:List V}{c:List V}:V.ok (.fn f a c)=true:=rfl
theorem eH:cells .np=[.np]:=rfl
theorem Asw:V.ok .np=true:=rfl
theorem cG:cells .nf=[.nf]:=rfl
theorem AnW:V.ok .nf=true:=rfl
theorem wL:cells .ni=[.ni]:=rfl
theorem Aol:V.ok .ni=true:=rfl
theorem Aa4{cs:List V}:MP (.agg cs)=true:=rfl
theorem AsM{x:Bool}:Sn (.b x)=True:=rfl
theorem Anf{x:Bool}:MJ (.b x)=x:=rfl
theorem ArY{k:IntKind}{n:Int}:T9 (.i k n)=True:=rfl
theorem Aow{k:IntKind}{n:Int}:Mj (.i k n)=n:=rfl
theorem AnB{k:IntKind}{n:Int}:kiI (.i k n)=k:=rfl
theorem AqM{l:List UInt8}:isS (.s l)=True:=rfl
theorem Anj{l:List UInt8}:toS (.s l)=l:=rfl
theorem lJ{id:Id}{o:Nat}:TZ (.ref id o)=True:=rfl
theorem T6{id:Id}{o:Nat}{m:Nat}:Ie (.ref id o) m=.ref id (o+m):=rfl
theorem zI{id:Id}{o:Nat}:isN (.ref id o)=True:=rfl
theorem ZK{id:Id}{e:Nat}{sz:Nat}{o:Nat}:TZ (.aref id e sz o)=True:=rfl
theorem QG{id:Id}{e:Nat}{sz:Nat}{o:Nat}{m:Nat}:Ie (.aref id e sz o) m=.aref id e sz (o+m):=rfl
theorem uG{id:Id}{e:Nat}{sz:Nat}{o:Nat}:isN (.aref id e sz o)=True:=rfl
theorem yN{e:V}{o:Nat}:TZ (.ep e o)=True:=rfl
theorem Yr{e:V}{o:Nat}{m:Nat}:Ie (.ep e o) m=.ep e (o+m):=rfl
theorem AiN{e:V}{o:Nat}:isN (.ep e o)=True:=rfl
theorem AgE{f:FuncId}{a:List V}{c:List V}:isN (.fn f a c)=True:=rfl
theorem Z3{σ:Aj}{sz:Nat}{es:List V}{k:IntKind}{n:Int}:Eq σ sz (.sl es) (.i k n)=if 0<=n then(es[n.toNat]?).bind λe=>if(cells e).length=sz then some (.ep e 0) else none else none:=rfl
theorem Ua{σ:Aj}{sz:Nat}{id:Id}{k:IntKind}{n:Int}:Eq σ sz (.arr id) (.i k n)=if 0<=n then Uv (lk σ id) id sz n else none:=by unfold Eq Uv;rfl
theorem Tw{e g:Nat}{es:List V}{id:Id}{sz:Nat}{n:Int}:Uv (some (.arr e g es)) id sz n=if g=sz/\n.toNat<es.length then some (.aref id n.toNat sz 0) else none:=rfl
theorem Zj{σ:Aj}{n:Nat}{e:Bool}{id:Id}{o:Nat}:FG σ n e (.ref id o)=X8 (lk σ id) o n e:=by unfold FG X8;rfl
theorem a8{u:V}{o n:Nat}{e:Bool}:X8 (some (.box u)) o n e=sub u o n e:=rfl
theorem Sz{t:TypeId}{u:V}{o n:Nat}{e:Bool}:X8 (some (.tbox t u)) o n e=sub u o n e:=rfl
theorem TL{σ:Aj}{n:Nat}{e:Bool}{id:Id}{g sz o:Nat}:FG σ n e (.aref id g sz o)=rI (lk σ id) g sz o n e:=by unfold FG rI;rfl
theorem ZI{e g:Nat}{es:List V}{i sz o n:Nat}{h:Bool}:rI (some (.arr e g es)) i sz o n h=if g=sz then(es[i]?).bind λj=>sub j o n h else none:=rfl
theorem iO{σ:Aj}{n:Nat}{g:Bool}{e:V}{o:Nat}:FG σ n g (.ep e o)=sub e o n g:=rfl
theorem Tu{σ:Aj}{n:Nat}{x:V}{id:Id}{o:Nat}:En σ n x (.ref id o)=PI (lk σ id) σ n x id o:=by unfold En PI;rfl
theorem SO{u:V}{σ:Aj}{n:Nat}{x:V}{id:Id}{o:Nat}:PI (some (.box u)) σ n x id o=(Da u o n x).map λe=>upd σ id (.box e):=rfl
theorem Si{t:TypeId}{u:V}{σ:Aj}{n:Nat}{x:V}{id:Id}{o:Nat}:PI (some (.tbox t u)) σ n x id o=(Da u o n x).map λe=>upd σ id (.tbox t e):=rfl
theorem QK{σ:Aj}{n:Nat}{x:V}{id:Id}{e sz o:Nat}:En σ n x (.aref id e sz o)=Sy (lk σ id) σ n x id e sz o:=by unfold En Sy;rfl
theorem Ux{e g:Nat}{es:List V}{σ:Aj}{n:Nat}{x:V}{id:Id}{i sz o:Nat}:Sy (some (.arr e g es)) σ n x id i sz o=if g=sz then(es[i]?).bind λj=>(Da j o n x).map λh=>upd σ id (.arr e sz (es.set i h)) else none:=rfl
theorem Ai5{l:List UInt8}{k:IntKind}{n:Int}:Py (.s l) (.i k n)=if 0<=n then(l[n.toNat]?).map λc=>.i .u8 c.toNat else none:=rfl
theorem o4{g:Nat->V}{h e:Option X}{l:List UInt8}:Jy g h e (.s l)=(Fq g 0 h).bind λa=>(Fq g l.length e).bind λb=>if a<=b/\b<=l.length then some (.s ((l.take b).drop a)) else none:=rfl
theorem Alq{sz:Nat}{es:List V}:isL sz (.sl es)=∀y∈es,(cells y).length=sz:=rfl
theorem AbJ{sz:Nat}:isL sz .nil=True:=rfl
theorem Ak1{es:List V}:toL (.sl es)=es:=rfl
theorem yV:toL .nil=[]:=rfl
theorem kI{σ:Aj}{id:Id}{e sz:Nat}{xs:List V}:Li σ id e sz xs .nil=if xs.length<=AI then some ((id,.arr e sz xs)::σ) else none:=rfl
theorem tA{σ:Aj}{id g:Id}{e sz:Nat}{xs:List V}:Li σ id e sz xs (.arr g)=AjJ (lk σ g) σ id g e sz xs:=by unfold Li AjJ;rfl
theorem fU{i h:Nat}{es:List V}{σ:Aj}{id g:Id}{e sz:Nat}{xs:List V}:AjJ (some (.arr i h es)) σ id g e sz xs=if i=e/\h=sz/\es.length+xs.length<=AI then some ((id,.arr e sz (es++xs))::del σ g) else none:=rfl
theorem tG{k:Nat}{vs:List V}:TJ k (.tup vs)=vs[k]?:=rfl
theorem TD{σ:Aj}{es:List V}:A4 σ (.sl es)=some es:=rfl
theorem Qg{σ:Aj}:A4 σ .nil=some []:=rfl
theorem Qk{σ:Aj}{id:Id}:A4 σ (.arr id)=S0 (lk σ id):=by unfold A4 S0;rfl
theorem U1{e sz:Nat}{es:List V}:S0 (some (.arr e sz es))=some es:=rfl
theorem AkM{op:BinOp}{k k':IntKind}{a b:Int}:MN op (.i k a) (.i k' b)=(k=k'/\cL op b):=rfl
theorem Ahl{op:BinOp}{a b:List UInt8}:MN op (.s a) (.s b)=wN op a b:=rfl
theorem AlU{op:BinOp}{k k':IntKind}{a b:Int}:Qr op (.i k a) (.i k' b)=sU op k a b:=rfl
theorem Aia{op:BinOp}{a b:List UInt8}:Qr op (.s a) (.s b)=pL op a b:=rfl
theorem wD{g:Nat->V}{m:Nat}:Fq g m none=some m:=rfl
theorem QM{g:Nat->V}{m:Nat}{x:X}:Fq g m (some x)=Ach (ev g x):=by unfold Fq Ach;rfl
theorem Aj8{k:IntKind}{n:Int}:Ach (.i k n)=if 0<=n then some n.toNat else none:=rfl
end Go.Ir
section
namespace Go.Ir
open Go.RowKit
variable[F2]
def AZ(env:A9)(x:X):V:=ev (get env) x
def Eh(env:A9)(xs:List X):List V:=xs.map (ev (get env))
def psE(env:A9)(ps:List (Nat×Nat×X)):List (Nat×Nat×V):=ps.map λp=>(p.1,p.2.1,ev (get env) p.2.2)
def Qo(env:A9)(ps:List (Nat×Nat×X)):Prop:=YA (get env) ps
def Uj(env:A9)(m:Nat)(x:Option X):Option Nat:=Fq (get env) m x
def KY(env:A9)(g e:Option X)(v:V):Option V:=Jy (get env) g e v
def KE(env:A9)(g e:Option X)(es:List V):Option V:=GM (get env) g e es
theorem Aqr{env:A9}{s:Nat}:AZ env (.t s)=get env s:=rfl
theorem Aq1{env:A9}{v:V}:AZ env (.c v)=v:=rfl
theorem Acl{env:A9}:Eh env []=[]:=rfl
theorem tW{env:A9}{x:X}{xs:List X}:Eh env (x::xs)=AZ env x::Eh env xs:=rfl
theorem AcA{env:A9}:psE env []=[]:=rfl
theorem mO{env:A9}{a b:Nat}{x:X}{ps:List (Nat×Nat×X)}:psE env ((a,b,x)::ps)=(a,b,AZ env x)::psE env ps:=rfl
theorem ZE{env:A9}:Qo env []=True:=rfl
theorem Tg{env:A9}{a b:Nat}{x:X}{ps:List (Nat×Nat×X)}:Qo env ((a,b,x)::ps)=((AZ env x).ok=true/\Qo env ps):=rfl
theorem Ym{env:A9}{m:Nat}:Uj env m none=some m:=rfl
theorem YR{env:A9}{m:Nat}{x:X}:Uj env m (some x)=Ach (AZ env x):=by unfold Uj AZ;exact QM
theorem ZJ{env:A9}{g e:Option X}{l:List UInt8}:KY env g e (.s l)=(Uj env 0 g).bind λa=>(Uj env l.length e).bind λb=>if a<=b/\b<=l.length then some (.s ((l.take b).drop a)) else none:=rfl
theorem TI{env:A9}{g e:Option X}{es:List V}:KE env g e es=(Uj env 0 g).bind λa=>(Uj env es.length e).bind λb=>if a<=b/\b<=es.length then some (.sl ((es.take b).drop a)) else none:=rfl
theorem Bv{k s:Nat}{v:V}{r:A9}:get ((k,v)::r) s=if k=s then v else get r s:=rfl
theorem zR{s:Nat}:get [] s=.any:=rfl
theorem Oy{env:A9}:restrict [] env=[]:=rfl
theorem MW{s:Nat}{l:List Nat}{env:A9}:restrict (s::l) env=(s,get env s)::restrict l env:=rfl
section
variable{P:Program}{W0:World}{ep d:Nat}{l:List I}{env:A9}{σ:Aj}{K:A9→Aj→Prop}
theorem AvK{x:X}:Au P W0 ep (⟨some d,.mv x,none,[]⟩::l) env σ K↔Au P W0 ep l ((d,AZ env x)::env) σ K:=Av4
theorem Ag6{c a b:X}:Au P W0 ep (⟨some d,.pick c a b,none,[]⟩::l) env σ K↔Sn (AZ env c)/\Au P W0 ep l ((d,bif MJ (AZ env c) then AZ env a else AZ env b)::env) σ K:=Amg
theorem AmG{op:BinOp}{x y:X}:Au P W0 ep (⟨some d,.bin op x y,none,[]⟩::l) env σ K↔MN op (AZ env x) (AZ env y)/\Au P W0 ep l ((d,Qr op (AZ env x) (AZ env y))::env) σ K:=ArA
theorem Aof{e:Bool}{x y:X}:Au P W0 ep (⟨some d,.eqb e x y,none,[]⟩::l) env σ K↔(Sn (AZ env x)/\Sn (AZ env y))/\Au P W0 ep l ((d,.b (if e then !(MJ (AZ env x)==MJ (AZ env y)) else MJ (AZ env x)==MJ (AZ env y)))::env) σ K:=Aop
theorem Aso{x:X}:Au P W0 ep (⟨some d,.not x,none,[]⟩::l) env σ K↔Sn (AZ env x)/\Au P W0 ep l ((d,.b (!(MJ (AZ env x))))::env) σ K:=AnL
theorem Asu{k:IntKind}{x:X}:Au P W0 ep (⟨some d,.cvi k x,none,[]⟩::l) env σ K↔T9 (AZ env x)/\Au P W0 ep l ((d,.i k (k.wrap (Mj (AZ env x))))::env) σ K:=Ar5
theorem AcB{x:X}{off:Nat}:Au P W0 ep (⟨some d,.faddr x off,none,[]⟩::l) env σ K↔TZ (AZ env x)/\Au P W0 ep l ((d,Ie (AZ env x) off)::env) σ K:=Aaz
theorem y9{x i:X}{e sz:Nat}:Au P W0 ep (⟨some d,.iaddr x i e sz,none,[]⟩::l) env σ K↔True/\(Eq σ sz (AZ env x) (AZ env i)).isSome=true/\Au P W0 ep l ((d,(Eq σ sz (AZ env x) (AZ env i)).getD .any)::env) σ K:=zH
theorem Arh{x i:X}:Au P W0 ep (⟨some d,.idx x i,none,[]⟩::l) env σ K↔True/\(Py (AZ env x) (AZ env i)).isSome=true/\Au P W0 ep l ((d,(Py (AZ env x) (AZ env i)).getD .any)::env) σ K:=AsN
theorem AgG{x:X}{n:Nat}{e:Bool}:Au P W0 ep (⟨some d,.load x n e,none,[]⟩::l) env σ K↔True/\(FG σ n e (AZ env x)).isSome=true/\Au P W0 ep l ((d,(FG σ n e (AZ env x)).getD .any)::env) σ K:=AgT
theorem zG{a x:X}{n:Nat}:Au P W0 ep (⟨none,.store a x n,none,[]⟩::l) env σ K↔(AZ env x).ok=true/\(En σ n (AZ env x) (AZ env a)).isSome=true/\Au P W0 ep l env ((En σ n (AZ env x) (AZ env a)).getD []) K:=Ab5
theorem Anp{x:X}:Au P W0 ep (⟨some d,.box x,none,[]⟩::l) env σ K↔(AZ env x).ok=true/\Au P W0 ep l ((d,.ref (ep,d) 0)::env) (((ep,d),.box (AZ env x))::σ) K:=AqZ
theorem Acr{z:V}:Au P W0 ep (⟨some d,.alloc z,none,[]⟩::l) env σ K↔True/\Au P W0 ep l ((d,.ref (ep,d) 0)::env) (((ep,d),.box z)::σ) K:=Aan
theorem AbC{z:List V}{ps:List (Nat×Nat×X)}:Au P W0 ep (⟨some d,.build z ps,none,[]⟩::l) env σ K↔Qo env ps/\(((Es z (psE env ps)).map V.agg).isSome=true)/\Au P W0 ep l ((d,((Es z (psE env ps)).map V.agg).getD .any)::env) σ K:=Adg
theorem AkW{e sz:Nat}{xs:List X}:Au P W0 ep (⟨some d,.msl true e sz xs,none,[]⟩::l) env σ K↔GF sz (Eh env xs)/\Au P W0 ep l ((d,.arr (ep,d))::env) (((ep,d),.arr e sz (Eh env xs))::σ) K:=Ahd
theorem Akr{e sz:Nat}{xs:List X}:Au P W0 ep (⟨some d,.msl false e sz xs,none,[]⟩::l) env σ K↔GF sz (Eh env xs)/\Au P W0 ep l ((d,.sl (Eh env xs))::env) σ K:=Alj
theorem Aqu{x:X}{g e:Option X}:Au P W0 ep (⟨some d,.slS x g e,none,[]⟩::l) env σ K↔True/\(KY env g e (AZ env x)).isSome=true/\Au P W0 ep l ((d,(KY env g e (AZ env x)).getD .any)::env) σ K:=AqD
theorem ApY{x:X}{g e:Option X}{sz:Nat}:Au P W0 ep (⟨some d,.slL x g e sz,none,[]⟩::l) env σ K↔isL sz (AZ env x)/\(KE env g e (toL (AZ env x))).isSome=true/\Au P W0 ep l ((d,(KE env g e (toL (AZ env x))).getD .any)::env) σ K:=Aqw
theorem Ais{x:X}:Au P W0 ep (⟨some d,.lenS x,none,[]⟩::l) env σ K↔isS (AZ env x)/\Au P W0 ep l ((d,.i .i64 ((toS (AZ env x)).length:Nat))::env) σ K:=Aij
theorem AkH{x:X}:Au P W0 ep (⟨some d,.lenL x,none,[]⟩::l) env σ K↔(A4 σ (AZ env x)).isSome=true/\Au P W0 ep l ((d,.i .i64 (((A4 σ (AZ env x)).getD []).length:Nat))::env) σ K:=Ah8
theorem Aqc{s x:X}{e sz:Nat}:Au P W0 ep (⟨some d,.app s x e sz,none,[]⟩::l) env σ K↔((A4 σ (AZ env x)).isSome=true/\∀y∈(A4 σ (AZ env x)).getD [],(cells y).length=sz)/\(Li σ (ep,d) e sz ((A4 σ (AZ env x)).getD []) (AZ env s)).isSome=true/\Au P W0 ep l ((d,.arr (ep,d))::env) ((Li σ (ep,d) e sz ((A4 σ (AZ env x)).getD []) (AZ env s)).getD []) K:=Arx
theorem Arj{x:X}{k:Nat}:Au P W0 ep (⟨some d,.ext x k,none,[]⟩::l) env σ K↔True/\(TJ k (AZ env x)).isSome=true/\Au P W0 ep l ((d,(TJ k (AZ env x)).getD .any)::env) σ K:=Ao2
theorem Ag1{f:FuncId}{first e:List X}:Au P W0 ep (⟨some d,.mkfn f first e,none,[]⟩::l) env σ K↔True/\Au P W0 ep l ((d,.fn f (Eh env first) (Eh env e))::env) σ K:=AgD
theorem Avy{e:Bool}{x:X}{xs:List X}:Au P W0 ep (⟨some d,.mx e x xs,none,[]⟩::l) env σ K↔True/\(P4 e (AZ env x) (Eh env xs)).isSome=true/\Au P W0 ep l ((d,(P4 e (AZ env x) (Eh env xs)).getD .any)::env) σ K:=Aus
theorem yS{x:X}:Au P W0 ep (⟨some d,.nilck x,none,[]⟩::l) env σ K↔isN (AZ env x)/\Au P W0 ep l ((d,AZ env x)::env) σ K:=Abr
theorem AjB{a c:X}{z:V}{e sz:Nat}:Au P W0 ep (⟨some d,.mksl a c z e sz,none,[]⟩::l) env σ K↔(T9 (AZ env a)/\T9 (AZ env c)/\0<=Mj (AZ env a)/\Mj (AZ env a)<=Mj (AZ env c)/\Mj (AZ env c)<=AI)/\Au P W0 ep l ((d,.arr (ep,d))::env) (((ep,d),.arr e sz (List.replicate (Mj (AZ env a)).toNat z))::σ) K:=Alp
variable{nt:Nat}{b:IC}{Q:Exit→St→Prop}{st:St}{Inv:Nat→St→Prop}{m k k':Nat}
theorem Le:Dq k Q .normal st=Q .normal st:=rfl
theorem Pa:Dq k Q (.exit k') st=if k'=k then Q .normal st else Q (.exit k') st:=rfl
theorem Rp:Dq k Q .ret st=Q .ret st:=rfl
theorem OU:Xu Inv m Q .normal st=∃e,e<m/\Inv e st:=rfl
theorem SF:Xu Inv m Q (.exit k) st=Q (.exit k) st:=rfl
theorem YT:Xu Inv m Q .ret st=Q .ret st:=rfl
end
end Go.Ir
end
section
namespace Go.Ir
open Go.RowKit
variable[F2]
def J(P:Program)(W0:World)(ep:Nat)(live:List Nat)(Q:Exit->St->Prop)(l:List I)(env:A9)(σ:Aj):Prop:=
 Au P W0 ep l env σ λenv σ=>∀k,Q .normal ⟨restrict live env,σ,ep+1+k⟩
def JP(P:Program)(W0:World)(ep:Nat)(live:List Nat)(Q:Exit->St->Prop)(p:Prop)(l:List I)(env:A9)(σ:Aj):Prop:=p/\J P W0 ep live Q l env σ
def JL(P:Program)(W0:World)(ep:Nat)(live:List Nat)(Q:Exit->St->Prop)(p:Prop)(o:Option V)(l:List I)(d:Nat)(env:A9)(σ:Aj):Prop:=p/\o.isSome=true/\J P W0 ep live Q l ((d,o.getD .any)::env) σ
def JT(P:Program)(W0:World)(ep:Nat)(live:List Nat)(Q:Exit->St->Prop)(p:Prop)(o:Option Aj)(l:List I)(env:A9):Prop:=p/\o.isSome=true/\J P W0 ep live Q l env (o.getD [])
def Xy(P:Program)(W0:World)(ep:Nat)(live:List Nat)(Q:Exit->St->Prop)(v:V)(e:Bool)(d:Option Nat)(op:AE)(ap:List X)(l:List I)(env:A9)(σ:Aj):Prop:=
 It e v (J P W0 ep live Q (⟨d,op,none,ap⟩::l) env σ) (J P W0 ep live Q l (put env d (.tup [])) σ)
def Rb(P:Program)(W0:World)(ep:Nat)(live:List Nat)(Q:Exit->St->Prop)(f:FuncId)(vs:List V)(l:List I)(d:Nat)(env:A9)(σ:Aj):Prop:=
 ∃v,Al P W0 f vs [] v []/\J P W0 ep live Q l ((d,v)::env) σ
def TV(P:Program)(W0:World)(ep:Nat)(live:List Nat)(Q:Exit->St->Prop)(f:FuncId)(vs:List V)(l:List I)(d:Nat)(env:A9)(σ:Aj):Prop:=
 ∃v σi,Al P W0 f vs σi v σi/\(∀id e,lk σi id=some e->lk σ id=some e)/\J P W0 ep live Q l ((d,v)::env) σ
def Im(P:Program)(W0:World)(ep:Nat)(live:List Nat)(Q:Exit->St->Prop)(f:FuncId)(vs:List V)(l:List I)(d:Nat)(env:A9)(σ:Aj):Prop:=
 ∃v σi σo,Al P W0 f vs σi v σo/\(∀id e,lk σi id=some e->lk σ id=some e)/\J P W0 ep live Q l ((d,v)::env) (over σi σo σ)
def SV(P:Program)(W0:World)(ep:Nat)(live:List Nat)(Q:Exit->St->Prop)(f:FuncId)(vs:List V)(l:List I)(d:Nat)(env:A9)(σ:Aj):Prop:=
 ∃x σi σo,Iu P W0 f vs σi x σo/\(∀id e,lk σi id=some e->lk σ id=some e)/\J P W0 ep live Q l ((d,.arr (ep,d))::env) (((ep,d),x)::over σi σo σ)
def Amf(P:Program)(W0:World)(ep:Nat)(live:List Nat)(Q:Exit->St->Prop)(h:V)(vs:List V)(l:List I)(d:Nat)(env:A9)(σ:Aj):Prop:=
 match h with
 | .fn f first e=>Rb P W0 ep live Q f (first++vs++e) l d env σ
 | _=>False
def KT(P:Program)(W0:World)(ep:Nat)(live:List Nat)(Q:Exit->St->Prop)(h:V)(vs:List V)(l:List I)(d:Nat)(env:A9)(σ:Aj):Prop:=
 match h with
 | .fn f first e=>Im P W0 ep live Q f (first++vs++e) l d env σ
 | _=>False
def Vj(P:Program)(W0:World)(ep:Nat)(live:List Nat)(Q:Exit->St->Prop)(f:FuncId)(vs g:List V)(l:List I)(d:Nat)(env:A9)(σ:Aj):Prop:=
 ∃v σi σo,Al P W0 f vs σi v σo/\(∀id e,lk σi id=some e->lk σ id=some e)/\(∀y∈g,∀id,BP y=some id->lk σ id≠none->lk (over σi σo σ) id=lk σ id)/\J P W0 ep live Q l ((d,v)::env) (over σi σo σ)
def Abv(P:Program)(W0:World)(ep:Nat)(live:List Nat)(Q:Exit->St->Prop)(h:V)(vs g:List V)(l:List I)(d:Nat)(env:A9)(σ:Aj):Prop:=
 match h with
 | .fn f first e=>Vj P W0 ep live Q f (first++vs++e) g l d env σ
 | _=>False
def JW(P:Program)(W0:World)(ep:Nat)(live:List Nat)(Q:Exit->St->Prop)(o:Option (Aj×V))(l:List I)(d:Nat)(env:A9):Prop:=∃p,o=some p/\J P W0 ep live Q l ((d,p.2)::env) p.1
def JM(P:Program)(W0:World)(ep:Nat)(live:List Nat)(Q:Exit->St->Prop)(k:MkK)(o:Option A5)(l:List I)(d:Nat)(env:A9)(σ:Aj):Prop:=∃e,o=some e/\J P W0 ep live Q l ((d,yJ k (ep,d))::env) (((ep,d),e)::σ)
def ZW(k:RdK)(xs:List V)(e:Option A5):Option V:=e.bind λe=>rdF k e xs
def rdV(σ:Aj)(k:RdK)(xs:List V):V->Option V
 | .arr id=>ZW k xs (lk σ id)
 | _=>none
def wrO(σ:Aj)(id:Id)(k:eD)(xs:List V)(e:Option A5):Option (Aj×V):=e.bind λe=>(fG k e xs).map λr=>(upd σ id r.1,r.2)
def wrV(σ:Aj)(k:eD)(xs:List V):V->Option (Aj×V)
 | .arr id=>wrO σ id k xs (lk σ id)
 | _=>none
def qY(σ:Aj)(id:Id)(n:Nat):Option A5->Option (Aj×V)
 | some (.box (.agg cs))=>if cs.length=n/\cs.all (λc=>!MP c)=true then some (del σ id,.sl cs) else none
 | _=>none
def Aca(σ:Aj)(n:Nat):V->Option (Aj×V)
 | .ref id 0=>qY σ id n (lk σ id)
 | _=>none
def I4(σ:Aj)(e mid:Id):Option A5->Option (Aj×V)
 | some (.map es)=>some ((e,.mit mid es.length [] es.length)::σ,.arr e)
 | _=>none
def KF(σ:Aj)(e:Id):V->Option (Aj×V)
 | .arr mid=>I4 σ e mid (lk σ mid)
 | _=>none
def Jh(i:Option Nat)(e:Nat):Option A5->Option V
 | some (.map es)=>if e=es.length then i.bind λi=>(es[i]?).map λg=>.tup [g.1,g.2] else none
 | _=>none
def IS(σ:Aj):Option A5->Option V
 | some (.mit mid _ seen e)=>Jh seen.getLast? e (lk σ mid)
 | _=>none
def Jk(σ:Aj):V->Option V
 | .arr id=>IS σ (lk σ id)
 | _=>none
def Qj:Option A5->Nat
 | some (.arr _ _ es)=>es.length
 | _=>0
def Mn(σ:Aj):V->Nat
 | .arr id=>Qj (lk σ id)
 | _=>0
def Nr:V->Nat
 | .s l=>l.length
 | _=>0
def RM(σ:Aj)(id g:Id)(e:TypeId)(l:List UInt8):Option A5->Option (Aj×V)
 | some (.arr h sz es)=>if h=e/\sz=1 then some ((g,.arr e 1 (es++Ay l))::del σ id,.arr g) else none
 | _=>none
def Ni(σ:Aj)(g:Id)(e:TypeId)(l:List UInt8):V->Option (Aj×V)
 | .nil=>some ((g,.arr e 1 (Ay l))::σ,.arr g)
 | .arr id=>RM σ id g e l (lk σ id)
 | _=>none
def UZ(σ:Aj)(g:Id)(e:TypeId)(s:V):V->Option (Aj×V)
 | .s l=>Ni σ g e l s
 | _=>none
def cX(σ:Aj)(id g:Id)(sz:Nat)(h:V):Option A5->Option (Aj×V)
 | some (.arr e j es)=>if j=sz then(match h with
  | .i _ n=>if 0<=n then(if n.toNat<=es.length then some ((g,.arr e sz (es.take n.toNat))::del σ id,.arr g) else none) else none
  | _=>none) else none
 | _=>none
def AaM(σ:Aj)(e:Id)(sz:Nat)(h:V):V->Option (Aj×V)
 | .arr id=>cX σ id e sz h (lk σ id)
 | _=>none
def JWP(P:Program)(W0:World)(ep:Nat)(live:List Nat)(Q:Exit->St->Prop)(p:Prop)(o:Option (Aj×V))(l:List I)(d:Nat)(env:A9):Prop:=∃q,o=some q/\JP P W0 ep live Q p l ((d,q.2)::env) q.1
def Amv(es:List V):V:=.i .i64 (es.length:Nat)
def yG:List V->List V->Prop
 | [],_=>True
 | x::xs,ys=>(∀y∈ys,∀id,BP x=some id->BP y≠some id)/\yG xs ys
section
variable{P:Program}{W0:World}{ep d:Nat}{live:List Nat}{Q:Exit→St→Prop}{l:List I}{env:A9}{σ:Aj}
theorem Aoc:J P W0 ep live Q [] env σ=∀k,Q .normal ⟨restrict live env,σ,ep+1+k⟩:=rfl
theorem Ab9:JP P W0 ep live Q True l env σ=J P W0 ep live Q l env σ:=by simp[JP]
theorem Aao{v:V}:JL P W0 ep live Q True (some v) l d env σ=J P W0 ep live Q l ((d,v)::env) σ:=by simp[JL]
theorem Aab{τ:Aj}:JT P W0 ep live Q True (some τ) l env=J P W0 ep live Q l env τ:=by simp[JT]
theorem Ave{x:X}:J P W0 ep live Q (⟨some d,.mv x,none,[]⟩::l) env σ=J P W0 ep live Q l ((d,AZ env x)::env) σ:=by unfold J;exact propext (AvK.trans (by simp))
theorem Amj{c a b:X}:J P W0 ep live Q (⟨some d,.pick c a b,none,[]⟩::l) env σ=JP P W0 ep live Q (Sn (AZ env c)) l ((d,bif MJ (AZ env c) then AZ env a else AZ env b)::env) σ:=by unfold J JP;exact propext (Ag6.trans (by simp[J]))
theorem Apo{op:BinOp}{x y:X}:J P W0 ep live Q (⟨some d,.bin op x y,none,[]⟩::l) env σ=JP P W0 ep live Q (MN op (AZ env x) (AZ env y)) l ((d,Qr op (AZ env x) (AZ env y))::env) σ:=by unfold J JP;exact propext (AmG.trans (by simp[J]))
theorem AmT{e:Bool}{x y:X}:J P W0 ep live Q (⟨some d,.eqb e x y,none,[]⟩::l) env σ=JP P W0 ep live Q ((Sn (AZ env x)/\Sn (AZ env y))) l ((d,.b (if e then !(MJ (AZ env x)==MJ (AZ env y)) else MJ (AZ env x)==MJ (AZ env y)))::env) σ:=by unfold J JP;exact propext (Aof.trans (by simp[J]))
theorem ApS{x:X}:J P W0 ep live Q (⟨some d,.not x,none,[]⟩::l) env σ=JP P W0 ep live Q (Sn (AZ env x)) l ((d,.b (!(MJ (AZ env x))))::env) σ:=by unfold J JP;exact propext (Aso.trans (by simp[J]))
theorem Apl{k:IntKind}{x:X}:J P W0 ep live Q (⟨some d,.cvi k x,none,[]⟩::l) env σ=JP P W0 ep live Q (T9 (AZ env x)) l ((d,.i k (k.wrap (Mj (AZ env x))))::env) σ:=by unfold J JP;exact propext (Asu.trans (by simp[J]))
theorem AcH{x:X}{off:Nat}:J P W0 ep live Q (⟨some d,.faddr x off,none,[]⟩::l) env σ=JP P W0 ep live Q (TZ (AZ env x)) l ((d,Ie (AZ env x) off)::env) σ:=by unfold J JP;exact propext (AcB.trans (by simp[J]))
theorem AaD{x i:X}{e sz:Nat}:J P W0 ep live Q (⟨some d,.iaddr x i e sz,none,[]⟩::l) env σ=JL P W0 ep live Q (True) (Eq σ sz (AZ env x) (AZ env i)) l d env σ:=by unfold J JL;exact propext (y9.trans (by simp[J]))
theorem AoO{x i:X}:J P W0 ep live Q (⟨some d,.idx x i,none,[]⟩::l) env σ=JL P W0 ep live Q (True) (Py (AZ env x) (AZ env i)) l d env σ:=by unfold J JL;exact propext (Arh.trans (by simp[J]))
theorem AlT{x:X}{n:Nat}{e:Bool}:J P W0 ep live Q (⟨some d,.load x n e,none,[]⟩::l) env σ=JL P W0 ep live Q (True) (FG σ n e (AZ env x)) l d env σ:=by unfold J JL;exact propext (AgG.trans (by simp[J]))
theorem Aay{a x:X}{n:Nat}:J P W0 ep live Q (⟨none,.store a x n,none,[]⟩::l) env σ=JT P W0 ep live Q ((AZ env x).ok=true) (En σ n (AZ env x) (AZ env a)) l env:=by unfold J JT;exact propext (zG.trans (by simp[J]))
theorem An1{x:X}:J P W0 ep live Q (⟨some d,.box x,none,[]⟩::l) env σ=JP P W0 ep live Q ((AZ env x).ok=true) l ((d,.ref (ep,d) 0)::env) (((ep,d),.box (AZ env x))::σ):=by unfold J JP;exact propext (Anp.trans (by simp[J]))
theorem AbG{z:V}:J P W0 ep live Q (⟨some d,.alloc z,none,[]⟩::l) env σ=JP P W0 ep live Q (True) l ((d,.ref (ep,d) 0)::env) (((ep,d),.box z)::σ):=by unfold J JP;exact propext (Acr.trans (by simp[J]))
theorem AbN{z:List V}{ps:List (Nat×Nat×X)}:J P W0 ep live Q (⟨some d,.build z ps,none,[]⟩::l) env σ=JL P W0 ep live Q (Qo env ps) ((Es z (psE env ps)).map V.agg) l d env σ:=by unfold J JL;exact propext (AbC.trans (by simp[J]))
theorem AhC{e sz:Nat}{xs:List X}:J P W0 ep live Q (⟨some d,.msl true e sz xs,none,[]⟩::l) env σ=JP P W0 ep live Q (GF sz (Eh env xs)) l ((d,.arr (ep,d))::env) (((ep,d),.arr e sz (Eh env xs))::σ):=by unfold J JP;exact propext (AkW.trans (by simp[J]))
theorem Aja{e sz:Nat}{xs:List X}:J P W0 ep live Q (⟨some d,.msl false e sz xs,none,[]⟩::l) env σ=JP P W0 ep live Q (GF sz (Eh env xs)) l ((d,.sl (Eh env xs))::env) σ:=by unfold J JP;exact propext (Akr.trans (by simp[J]))
theorem AoW{x:X}{g e:Option X}:J P W0 ep live Q (⟨some d,.slS x g e,none,[]⟩::l) env σ=JL P W0 ep live Q (True) (KY env g e (AZ env x)) l d env σ:=by unfold J JL;exact propext (Aqu.trans (by simp[J]))
theorem Ar8{x:X}{g e:Option X}{sz:Nat}:J P W0 ep live Q (⟨some d,.slL x g e sz,none,[]⟩::l) env σ=JL P W0 ep live Q (isL sz (AZ env x)) (KE env g e (toL (AZ env x))) l d env σ:=by unfold J JL;exact propext (ApY.trans (by simp[J]))
theorem AlQ{x:X}:J P W0 ep live Q (⟨some d,.lenS x,none,[]⟩::l) env σ=JP P W0 ep live Q (isS (AZ env x)) l ((d,.i .i64 ((toS (AZ env x)).length:Nat))::env) σ:=by unfold J JP;exact propext (Ais.trans (by simp[J]))
theorem Ahb{x:X}:J P W0 ep live Q (⟨some d,.lenL x,none,[]⟩::l) env σ=JL P W0 ep live Q (True) ((A4 σ (AZ env x)).map Amv) l d env σ:=by unfold J JL;refine propext (AkH.trans ?_);cases A4 σ (AZ env x)<;>simp[Amv,J]
theorem AmQ{s x:X}{e sz:Nat}:J P W0 ep live Q (⟨some d,.app s x e sz,none,[]⟩::l) env σ=JT P W0 ep live Q (((A4 σ (AZ env x)).isSome=true/\∀y∈(A4 σ (AZ env x)).getD [],(cells y).length=sz)) (Li σ (ep,d) e sz ((A4 σ (AZ env x)).getD []) (AZ env s)) l ((d,.arr (ep,d))::env):=by unfold J JT;exact propext (Aqc.trans (by simp[J]))
theorem As9{x:X}{k:Nat}:J P W0 ep live Q (⟨some d,.ext x k,none,[]⟩::l) env σ=JL P W0 ep live Q (True) (TJ k (AZ env x)) l d env σ:=by unfold J JL;exact propext (Arj.trans (by simp[J]))
theorem Aky{f:FuncId}{first e:List X}:J P W0 ep live Q (⟨some d,.mkfn f first e,none,[]⟩::l) env σ=J P W0 ep live Q l ((d,.fn f (Eh env first) (Eh env e))::env) σ:=by unfold J;exact propext (Ag1.trans (by simp))
theorem Aul{e:Bool}{x:X}{xs:List X}:J P W0 ep live Q (⟨some d,.mx e x xs,none,[]⟩::l) env σ=JL P W0 ep live Q (True) (P4 e (AZ env x) (Eh env xs)) l d env σ:=by unfold J JL;exact propext (Avy.trans (by simp[J]))
theorem Abs{x:X}:J P W0 ep live Q (⟨some d,.nilck x,none,[]⟩::l) env σ=JP P W0 ep live Q (isN (AZ env x)) l ((d,AZ env x)::env) σ:=by unfold J JP;exact propext (yS.trans (by simp[J]))
theorem Ahr{a c:X}{z:V}{e sz:Nat}:J P W0 ep live Q (⟨some d,.mksl a c z e sz,none,[]⟩::l) env σ=JP P W0 ep live Q ((T9 (AZ env a)/\T9 (AZ env c)/\0<=Mj (AZ env a)/\Mj (AZ env a)<=Mj (AZ env c)/\Mj (AZ env c)<=AI)) l ((d,.arr (ep,d))::env) (((ep,d),.arr e sz (List.replicate (Mj (AZ env a)).toNat z))::σ):=by unfold J JP;exact propext (AjB.trans (by simp[J]))
theorem AuW{k:PuK}{xs:List X}:J P W0 ep live Q (⟨some d,.pu k xs,none,[]⟩::l) env σ=JL P W0 ep live Q True (Fv k (Eh env xs)) l d env σ:=by
 unfold J JL;refine propext (Cg.trans ?_);simp only[E,put,Eh,true_and];cases h:Fv k (xs.map (ev (get env))) with
 | none=>simp
 | some v=>simp only[Amy,Atq,Option.getD_some,true_and];exact⟨λ⟨u,τ,⟨h1,h2⟩,h3⟩=>by subst h1;subst h2;exact h3,λh=>⟨_,_,⟨rfl,rfl⟩,h⟩⟩
theorem ArP{e:Bool}{x y:X}:J P W0 ep live Q (⟨some d,.eqr e x y,none,[]⟩::l) env σ=JL P W0 ep live Q True ((GN σ (AZ env x) (AZ env y)).map (eqN e)) l d env σ:=by
 unfold J JL;refine propext (Cg.trans ?_);simp only[E,put,AZ,true_and];cases h:(GN σ (ev (get env) x) (ev (get env) y)).map (eqN e) with
 | none=>simp
 | some v=>simp only[Amy,Atq,Option.getD_some,true_and];exact⟨λ⟨u,τ,⟨h1,h2⟩,h3⟩=>by subst h1;subst h2;exact h3,λh=>⟨_,_,⟨rfl,rfl⟩,h⟩⟩
theorem AsE{r:Bool}:eqN true r=.b (!r):=rfl
theorem AoI{r:Bool}:eqN false r=.b r:=rfl
theorem AaW{e:Bool}:Fv (.nilq .p e) [.np]=some (eqN e true):=rfl
theorem AaP{e:Bool}{id:Id}{o:Nat}:Fv (.nilq .p e) [.ref id o]=some (eqN e false):=rfl
theorem AoN{k:RdK}{m:X}{xs:List X}:J P W0 ep live Q (⟨some d,.rdm k m xs,none,[]⟩::l) env σ=JL P W0 ep live Q True (rdV σ k (Eh env xs) (AZ env m)) l d env σ:=by
 unfold J JL;refine propext (Cg.trans ?_);simp only[E,put,Eh,true_and,AZ];constructor
 .rintro⟨v,σ',⟨⟨id,e,i,j,o⟩,rfl⟩,h⟩;have:rdV σ' k (xs.map (ev (get env))) (ev (get env) m)=some v:=by rw[i];simp[rdV,ZW,j,o]
  rw[this];exact⟨rfl,h⟩
 .rintro⟨i,h⟩;obtain⟨v,g⟩:=AtR.1 i;rw[g] at h;unfold rdV at g;split at g
  .rename_i id p;unfold ZW at g;obtain⟨e,j,o⟩:=Aem.1 g;exact⟨v,σ,⟨⟨id,e,p,j,o⟩,rfl⟩,h⟩
  .cases g
theorem Xm{j:Option Nat}{k:eD}{m:X}{xs:List X}{v:V}{σ':Aj}:E P W0 ep j (.wrm k m xs) (get env) σ v σ'↔wrV σ k (Eh env xs) (AZ env m)=some (σ',v):=by
 simp only[E,Eh,AZ];constructor
 .rintro⟨id,e,p,o,i,h,rfl⟩;rw[o];simp[wrV,wrO,i,h]
 .intro g;unfold wrV at g;split at g
  .rename_i id t;unfold wrO at g;obtain⟨e,i,h⟩:=Aem.1 g;obtain⟨r,q,s⟩:=AeM.1 h;grind
  .cases g
theorem AkE{k:eD}{m:X}{xs:List X}:J P W0 ep live Q (⟨none,.wrm k m xs,none,[]⟩::l) env σ=JT P W0 ep live Q True ((wrV σ k (Eh env xs) (AZ env m)).map (·.1)) l env:=by
 unfold J JT;refine propext (Cg.trans ?_);simp only[Xm,put,true_and];cases h:wrV σ k (Eh env xs) (AZ env m) with
 | none=>simp
 | some p=>obtain⟨τ,v⟩:=p;simp only[Amy,Ay7,AwW,Atq,Option.getD_some,true_and];exact⟨λ⟨u,ρ,⟨h1,h2⟩,h3⟩=>by subst h1;subst h2;exact h3,λh=>⟨_,_,⟨rfl,rfl⟩,h⟩⟩
theorem AqK{k:eD}{m:X}{xs:List X}:J P W0 ep live Q (⟨some d,.wrm k m xs,none,[]⟩::l) env σ=JW P W0 ep live Q (wrV σ k (Eh env xs) (AZ env m)) l d env:=by
 unfold J JW;refine propext (Cg.trans ?_);simp only[Xm,put];constructor
 .rintro⟨v,σ',e,g⟩;exact⟨(σ',v),e,g⟩
 .rintro⟨p,e,g⟩;exact⟨p.2,p.1,e,g⟩
theorem Arz{k:MkK}{xs:List X}:J P W0 ep live Q (⟨some d,.mkm k xs,none,[]⟩::l) env σ=JM P W0 ep live Q k (Xe k (Eh env xs)) l d env σ:=by
 unfold J JM;refine propext (Cg.trans ?_);simp only[E,put,Eh];constructor
 .rintro⟨v,σ',⟨j,e,g,i,rfl,rfl⟩,h⟩;cases g;exact⟨e,i,h⟩
 .rintro⟨e,g,h⟩;exact⟨_,_,⟨d,e,rfl,g,rfl,rfl⟩,h⟩
theorem Aml{s x:X}{e:TypeId}:J P W0 ep live Q (⟨some d,.apps s x e,none,[]⟩::l) env σ=JWP P W0 ep live Q (Mn σ (AZ env s)+Nr (AZ env x)<=AI) (UZ σ (ep,d) e (AZ env s) (AZ env x)) l d env:=by
 unfold J JWP;refine propext (Cg.trans ?_);simp only[E,put,AZ];constructor
 .rintro⟨v,σ',⟨z,b,t,u,rfl,j⟩,h⟩;cases t;rw[u];split at j
  .rename_i i;obtain⟨o,rfl⟩:=j;rw[i];exact⟨(((ep,d),.arr e 1 (Ay b))::σ,.arr (ep,d)),rfl,by simpa[Mn,Nr] using o,h⟩
  .rename_i id i;obtain⟨es,o,w,rfl⟩:=j;rw[i];exact⟨(((ep,d),.arr e 1 (es++Ay b))::del σ id,.arr (ep,d)),by simp[UZ,Ni,o,RM],by simpa[Mn,Qj,Nr,o] using w,h⟩
  .exact j.elim
 .rintro⟨q,g,hp,h⟩;unfold UZ at g;split at g
  .rename_i b p;rw[p] at hp;unfold Ni at g;split at g
   .rename_i i;cases g;refine⟨_,_,⟨d,b,rfl,p,rfl,?_⟩,h⟩;rw[i] at hp⊢;exact⟨by simpa[Mn,Nr] using hp,rfl⟩
   .rename_i id i;unfold RM at g;split at g
    .rename_i A sz es r;split at g
     .rename_i y;obtain⟨rfl,rfl⟩:=y;cases g;refine⟨_,_,⟨d,b,rfl,p,rfl,?_⟩,h⟩;rw[i] at hp⊢;exact⟨es,r,by simpa[Mn,Qj,Nr,r] using hp,rfl⟩
     .cases g
    .cases g
   .cases g
  .cases g
theorem bP{p:Prop}{q:Aj×V}:JWP P W0 ep live Q p (some q) l d env=JP P W0 ep live Q p l ((d,q.2)::env) q.1:=by unfold JWP;grind
theorem Ao1{x j:X}{sz:Nat}:J P W0 ep live Q (⟨some d,.slT x j sz,none,[]⟩::l) env σ=JW P W0 ep live Q (AaM σ (ep,d) sz (AZ env j) (AZ env x)) l d env:=by
 unfold J JW;refine propext (Cg.trans ?_);simp only[E,put,AZ,Fq];constructor
 .rintro⟨v,σ',⟨w,id,e,es,q,i,o,p,z,A,rfl,rfl⟩,h⟩;cases i;refine⟨(((ep,d),.arr e sz (es.take q))::del σ id,.arr (ep,d)),?_,h⟩;rw[o];simp only[AaM,p,cX];grind
 .rintro⟨q,g,h⟩;unfold AaM at g;split at g
  .rename_i id s;unfold cX at g;split at g
   .rename_i e u es r;split at g
    .rename_i t;subst t;split at g
     .rename_i k n B;split at g
      .rename_i y;split at g
       .rename_i i;cases g;exact⟨_,_,⟨d,id,e,es,n.toNat,rfl,s,r,by grind,i,rfl,rfl⟩,h⟩
       .cases g
      .cases g
     .cases g
    .cases g
   .cases g
  .cases g
theorem xL{e id:Id}{sz:Nat}{h:V}:AaM σ e sz h (.arr id)=cX σ id e sz h (lk σ id):=rfl
theorem kQ{g id:Id}{sz h:Nat}{k:IntKind}{n:Int}{e:TypeId}{es:List V}:cX σ id g sz (.i k n) (some (.arr e h es))=if h=sz then(if 0<=n then(if n.toNat<=es.length then some ((g,.arr e sz (es.take n.toNat))::del σ id,.arr g) else none) else none) else none:=rfl
theorem Aac{g:Id}{e:TypeId}{s:V}{b:List UInt8}:UZ σ g e s (.s b)=Ni σ g e b s:=rfl
theorem Y6{g:Id}{e:TypeId}{b:List UInt8}:Ni σ g e b .nil=some ((g,.arr e 1 (Ay b))::σ,.arr g):=rfl
theorem ZR{g id:Id}{e:TypeId}{b:List UInt8}:Ni σ g e b (.arr id)=RM σ id g e b (lk σ id):=rfl
theorem Zs{g id:Id}{e h:TypeId}{sz:Nat}{es:List V}{b:List UInt8}:RM σ id g e b (some (.arr h sz es))=if h=e/\sz=1 then some ((g,.arr e 1 (es++Ay b))::del σ id,.arr g) else none:=rfl
theorem Yl:Mn σ .nil=0:=rfl
theorem aZ{id:Id}:Mn σ (.arr id)=Qj (lk σ id):=rfl
theorem Zk{e:TypeId}{sz:Nat}{es:List V}:Qj (some (.arr e sz es))=es.length:=rfl
theorem y7{b:List UInt8}:Nr (.s b)=b.length:=rfl
theorem Oi{c:V}:cells c=[c]↔MP c=false:=by
 cases c<;>simp[cells,MP];rename_i cs
 match cs with
 | []=>simp
 | [x]=>
  intro h;have e:x=.agg [x]:=by simpa using h
  have g:SizeOf.sizeOf x=SizeOf.sizeOf (V.agg [x]):=by rw[<-e]
  simp at g;omega
 | _::_::_=>simp
theorem ApX{m:X}{k:Nat}:J P W0 ep live Q (⟨some d,.frz m k,none,[]⟩::l) env σ=JW P W0 ep live Q (Aca σ k (AZ env m)) l d env:=by
 unfold J JW;refine propext (Cg.trans ?_);simp only[E,put,AZ];constructor
 .rintro⟨v,σ',⟨id,cs,g,i,j,o,rfl,rfl⟩,h⟩;refine⟨(del σ id,.sl cs),?_,h⟩;rw[g];simp only[Aca,i,qY];rw[if_pos ⟨j,Am3.2 λc e=>by rw[Oi.1 (o c e)];rfl⟩]
 .rintro⟨p,hp,h⟩;unfold Aca at hp;split at hp
  .rename_i id s;unfold qY at hp;split at hp
   .rename_i cs r;split at hp
    .rename_i e;cases hp;exact⟨_,_,⟨id,cs,s,r,e.1,λc q=>Oi.2 (by grind),rfl,rfl⟩,h⟩
    .cases hp
   .cases hp
  .cases hp
theorem vJ{m:X}:J P W0 ep live Q (⟨some d,.mrange m,none,[]⟩::l) env σ=JW P W0 ep live Q (KF σ (ep,d) (AZ env m)) l d env:=by
 unfold J JW;refine propext (Cg.trans ?_);simp only[E,put,AZ];constructor
 .rintro⟨v,σ',⟨q,mid,es,e,g,i,rfl,rfl⟩,h⟩;cases e;refine⟨(((ep,d),.mit mid es.length [] es.length)::σ,.arr (ep,d)),?_,h⟩;rw[g];simp only[KF,i,I4]
 .rintro⟨p,hp,h⟩;unfold KF at hp;split at hp
  .rename_i mid o;unfold I4 at hp;split at hp
   .rename_i es j;cases hp;exact⟨_,_,⟨d,mid,es,rfl,o,j,rfl,rfl⟩,h⟩
   .cases hp
  .cases hp
theorem nF{m:X}:J P W0 ep live Q (⟨some d,.mentry m,none,[]⟩::l) env σ=JL P W0 ep live Q True (Jk σ (AZ env m)) l d env σ:=by
 unfold J JL;refine propext (Cg.trans ?_);simp only[E,put,AZ,true_and];constructor
 .rintro⟨v,σ',⟨id,mid,g,seen,i,es,o,p,w,q,r,s,rfl,rfl⟩,h⟩;have:Jk σ' (ev (get env) m)=some (.tup [o.1,o.2]):=by rw[p];simp[Jk,IS,Jh,w,q,r,s]
  rw[this];exact⟨rfl,h⟩
 .rintro⟨p,h⟩;obtain⟨v,e⟩:=AtR.1 p;rw[e] at h;unfold Jk at e;split at e
  .rename_i id A;unfold IS at e;split at e
   .rename_i mid g seen j z;unfold Jh at e;split at e
    .rename_i es t;split at e
     .rename_i u;subst u;obtain⟨i,q,r⟩:=Aem.1 e;obtain⟨o,s,y⟩:=AeM.1 r;subst y;exact⟨_,_,⟨id,mid,g,seen,i,es,o,A,z,q,t,s,rfl,rfl⟩,h⟩
     .cases e
    .cases e
   .cases e
  .cases e
theorem dL{id:Id}{n:Nat}:Aca σ n (.ref id 0)=qY σ id n (lk σ id):=rfl
theorem mW{id:Id}{n:Nat}{cs:List V}:qY σ id n (some (.box (.agg cs)))=if cs.length=n/\cs.all (λc=>!MP c)=true then some (del σ id,.sl cs) else none:=rfl
theorem Rq{e mid:Id}:KF σ e (.arr mid)=I4 σ e mid (lk σ mid):=rfl
theorem Rc{e mid:Id}{es:List (V×V)}:I4 σ e mid (some (.map es))=some ((e,.mit mid es.length [] es.length)::σ,.arr e):=rfl
theorem Rm{id:Id}:Jk σ (.arr id)=IS σ (lk σ id):=rfl
theorem RO{mid:Id}{g e:Nat}{seen:List Nat}:IS σ (some (.mit mid g seen e))=Jh seen.getLast? e (lk σ mid):=rfl
theorem Qb{i:Option Nat}{e:Nat}{es:List (V×V)}:Jh i e (some (.map es))=if e=es.length then i.bind λi=>(es[i]?).map λg=>.tup [g.1,g.2] else none:=rfl
theorem tI{e:Bool}:Fv (.isnil e) [.nil]=some (.b (!e)):=rfl
theorem gQ{e:Bool}:Fv (.isnil e) [.sl []]=some .ub:=rfl
theorem oC{e:Bool}{x:V}{xs:List V}:Fv (.isnil e) [.sl (x::xs)]=some (.b e):=rfl
theorem Aoi{t:Bool}:MP (.b t)=false:=rfl
theorem Ao3{k:IntKind}{n:Int}:MP (.i k n)=false:=rfl
theorem Aqs{s:List UInt8}:MP (.s s)=false:=rfl
theorem y8{τ:Aj}{v:V}:JW P W0 ep live Q (some (τ,v)) l d env=J P W0 ep live Q l ((d,v)::env) τ:=by unfold JW;simp
theorem Ac1{k:MkK}{e:A5}:JM P W0 ep live Q k (some e) l d env σ=J P W0 ep live Q l ((d,yJ k (ep,d))::env) (((ep,d),e)::σ):=by unfold JM;simp
theorem AcL{k:RdK}{xs:List V}{id:Id}:rdV σ k xs (.arr id)=ZW k xs (lk σ id):=rfl
theorem AbT{k:eD}{xs:List V}{id:Id}:wrV σ k xs (.arr id)=wrO σ id k xs (lk σ id):=rfl
theorem xI{e:Cr}{z:V}{ok:Bool}{es:List (V×V)}{k:V}:ZW (.mget e z ok) [k] (some (.map es))=(Bs e k es 0).map λr=>match r with
  | some (_,v)=>if ok then .tup [v,.b true] else v
  | none=>if ok then .tup [z,.b false] else z:=rfl
theorem xJ{es:List (V×V)}:ZW .mlen [] (some (.map es))=some (.i .i64 es.length):=rfl
theorem tV{g:Cr}{id:Id}{es:List (V×V)}{k v:V}:wrO σ id (.mput g) [k,v] (some (.map es))=(Bs g k es 0).map λr=>match r with
  | some (i,_)=>(upd σ id (.map (es.modify i λe=>(e.1,v))),.tup [])
  | none=>(upd σ id (.map (es++[(k,v)])),.tup []):=by
 simp only[wrO,fG,AyC,Option.map_map];congr 1;grind
theorem d7{id:Id}{s:List UInt8}{e:Nat}:wrO σ id .next [] (some (.it s e))=if e<s.length then some (upd σ id (.it s (e+(Utf8.decode ⟨s.toArray⟩ e).2)),.tup [.b true,.i .i64 e,.i .i32 (Utf8.decode ⟨s.toArray⟩ e).1]) else some (upd σ id (.it s e),.tup [.b false]):=by simp only[wrO,fG,AyC];split<;>rfl
theorem Abz{id:Id}:yJ .mkmap id=.arr id:=rfl
theorem AjC{id:Id}:yJ .strit id=.arr id:=rfl
theorem eM{t:TypeId}{z:V}{id:Id}:yJ (.tnew t z) id=.ref id 0:=rfl
theorem Acb{t:TypeId}{id:Id}:yJ (.tbx t) id=.ref id 0:=rfl
theorem xO{t:TypeId}{z:V}:Xe (.tnew t z) []=some (.tbox t z):=rfl
theorem Acp{t:TypeId}{x:V}:Xe (.tbx t) [x]=if x.ok=true then some (.tbox t x) else none:=rfl
theorem zB:Xe .mkmap []=some (.map []):=rfl
theorem Ama{s:List UInt8}:Xe .strit [.s s]=some (.it s 0):=rfl
theorem vY{k:IntKind}{n:Int}:Fv .itos [.i k n]=some (.s (Utf8.encode n).data.toList):=rfl
theorem oW{es:List V}:Fv .btos [.sl es]=(EN es).map .s:=rfl
theorem Zo:Fv .btos [.nil]=some (.s []):=rfl
theorem oO{n sz off:Nat}{id:Id}{k:IntKind}{i:Int}:Fv (.aidx n sz) [.ref id off,.i k i]=if 0<=i/\i<(n:Int) then some (.ref id (off+i.toNat*sz)) else none:=rfl
theorem Avn{d:Option Nat}{op:AE}{s:Nat}{e:Bool}{ap:List X}:J P W0 ep live Q (⟨d,op,some (s,e),ap⟩::l) env σ=Xy P W0 ep live Q (get env s) e d op ap l env σ:=by
 unfold J Xy;simp only[J,Au,Ck,It];cases get env s with
 | tup l=>cases l<;>rfl
 | _=>rfl
theorem iX{d:Option Nat}{op:AE}{ap:List X}:Xy P W0 ep live Q (.b true) true d op ap l env σ=J P W0 ep live Q (⟨d,op,none,ap⟩::l) env σ:=by simp[Xy,It]
theorem vZ{d:Option Nat}{op:AE}{ap:List X}:Xy P W0 ep live Q (.b false) false d op ap l env σ=J P W0 ep live Q (⟨d,op,none,ap⟩::l) env σ:=by simp[Xy,It]
theorem oI{d:Option Nat}{op:AE}{ap:List X}:Xy P W0 ep live Q (.b true) false d op ap l env σ=J P W0 ep live Q l (put env d (.tup [])) σ:=by simp[Xy,It]
theorem dF{d:Option Nat}{op:AE}{ap:List X}:Xy P W0 ep live Q (.b false) true d op ap l env σ=J P W0 ep live Q l (put env d (.tup [])) σ:=by simp[Xy,It]
theorem Aq4{d:Option Nat}{op:AE}{ap:List X}{w:Bool}:Xy P W0 ep live Q (.tup []) w d op ap l env σ=J P W0 ep live Q l (put env d (.tup [])) σ:=by simp[Xy,It]
theorem Ag{d:Option Nat}{op:AE}{ap:List X}{t:Bool}(e:t=true->J P W0 ep live Q (⟨d,op,none,ap⟩::l) env σ)(g:t=false->J P W0 ep live Q l (put env d (.tup [])) σ):Xy P W0 ep live Q (.b t) true d op ap l env σ:=by
 cases t
 .rw[dF];exact g rfl
 .rw[iX];exact e rfl
theorem Ah{d:Option Nat}{op:AE}{ap:List X}{t:Bool}(e:t=false->J P W0 ep live Q (⟨d,op,none,ap⟩::l) env σ)(g:t=true->J P W0 ep live Q l (put env d (.tup [])) σ):Xy P W0 ep live Q (.b t) false d op ap l env σ:=by
 cases t
 .rw[vZ];exact e rfl
 .rw[oI];exact g rfl
theorem Wv{g:Nat->V}{ys:List X}:∀{ap:List X},(∀x∈ap,∀y∈ys,∀id,BP (ev g x)=some id->BP (ev g y)≠some id)↔yG (ap.map (ev g)) (ys.map (ev g))
 | []=>by simp[yG]
 | x::ap=>by have:=Wv (g:=g) (ys:=ys) (ap:=ap);simp only[AlG,yG,<-this,Am8,forall_eq_or_imp,AmB,forall_exists_index,and_imp,forall_apply_eq_imp_iff₂]
theorem Aua{d:Option Nat}{op:AE}{x:X}{ap:List X}(e:op.cl=false):J P W0 ep live Q (⟨d,op,none,x::ap⟩::l) env σ=JP P W0 ep live Q (yG (Eh env (x::ap)) (Eh env op.cs)) (⟨d,op,none,[]⟩::l) env σ:=by unfold J JP;refine propext ((AtV e).trans ?_);rw[show aB ⟨d,op,none,x::ap⟩ (get env)↔yG (Eh env (x::ap)) (Eh env op.cs) from Wv];rfl
theorem Alh{f:FuncId}{args:List X}:J P W0 ep live Q (⟨some d,.call f args,none,[]⟩::l) env σ=Rb P W0 ep live Q f (Eh env args) l d env σ:=by unfold J Rb;refine propext (Cg.trans ?_);simp only[E,put,Eh];exact⟨λ⟨v,_,⟨e,rfl⟩,g⟩=>⟨v,e,g⟩,λ⟨v,e,g⟩=>⟨v,_,⟨e,rfl⟩,g⟩⟩
theorem zA{f:FuncId}{args:List X}:J P W0 ep live Q (⟨some d,.calls f args,none,[]⟩::l) env σ=Im P W0 ep live Q f (Eh env args) l d env σ:=by unfold J Im;refine propext (Cg.trans ?_);simp only[E,put,Eh];exact⟨λ⟨v,_,⟨σi,σo,e,h,rfl⟩,g⟩=>⟨v,σi,σo,e,h,g⟩,λ⟨v,σi,σo,e,h,g⟩=>⟨v,_,⟨σi,σo,e,h,rfl⟩,g⟩⟩
theorem AcD{f:FuncId}{args:List X}:J P W0 ep live Q (⟨some d,.callr f args,none,[]⟩::l) env σ=TV P W0 ep live Q f (Eh env args) l d env σ:=by unfold J TV;refine propext (Cg.trans ?_);simp only[E,put,Eh];exact⟨λ⟨v,_,⟨⟨σi,e,h⟩,rfl⟩,g⟩=>⟨v,σi,e,h,g⟩,λ⟨v,σi,e,h,g⟩=>⟨v,_,⟨⟨σi,e,h⟩,rfl⟩,g⟩⟩
theorem AbP{f:FuncId}{args:List X}:J P W0 ep live Q (⟨some d,.calln f args,none,[]⟩::l) env σ=SV P W0 ep live Q f (Eh env args) l d env σ:=by unfold J SV;refine propext (Cg.trans ?_);simp only[E,put,Eh];exact⟨λ⟨v,_,⟨dd,σi,σo,x,hd,e,h,hv,rfl⟩,g⟩=>by cases hd;subst hv;exact⟨x,σi,σo,e,h,g⟩,λ⟨x,σi,σo,e,h,g⟩=>⟨_,_,⟨d,σi,σo,x,rfl,e,h,rfl,rfl⟩,g⟩⟩
theorem v7{x:X}{args:List X}:J P W0 ep live Q (⟨some d,.callvs x args,none,[]⟩::l) env σ=KT P W0 ep live Q (AZ env x) (Eh env args) l d env σ:=by
 unfold J;refine propext (Cg.trans ?_);simp only[E,put];constructor
 .rintro⟨v,_,⟨⟨f,first,e,σi,σo,o,g,j,rfl⟩,i⟩⟩;unfold KT AZ;rw[o];exact⟨v,σi,σo,g,j,i⟩
 .intro h;unfold KT AZ at h;split at h
  .rename_i f first e o
   obtain⟨v,σi,σo,g,j,i⟩:=h;exact⟨v,_,⟨f,first,e,σi,σo,o,g,j,rfl⟩,i⟩
  .cases h
theorem ZP{d:Option Nat}{x:X}{n:Nat}{b:Bool}{z:X}{ap:List X}:J P W0 ep live Q (⟨d,.load x n b,none,z::ap⟩::l) env σ=JP P W0 ep live Q (yG (Eh env (z::ap)) (Eh env (AE.load x n b).cs)) (⟨d,.load x n b,none,[]⟩::l) env σ:=Aua rfl
theorem TA{f:FuncId}{first e vs g:List V}:Abv P W0 ep live Q (.fn f first e) vs g l d env σ=Vj P W0 ep live Q f (first++vs++e) g l d env σ:=rfl
theorem Z9{f:FuncId}{first e vs:List V}:Amf P W0 ep live Q (.fn f first e) vs l d env σ=Rb P W0 ep live Q f (first++vs++e) l d env σ:=rfl
theorem TU{f:FuncId}{first e vs:List V}:KT P W0 ep live Q (.fn f first e) vs l d env σ=Im P W0 ep live Q f (first++vs++e) l d env σ:=rfl
theorem Ac{f:FuncId}{vs:List V}{v:V}(h:Al P W0 f vs [] v [])(e:J P W0 ep live Q l ((d,v)::env) σ):Rb P W0 ep live Q f vs l d env σ:=⟨v,h,e⟩
theorem V6{f:FuncId}{vs:List V}{v:V}{σi:Aj}(h:Al P W0 f vs σi v σi)(i:∀id e,lk σi id=some e->lk σ id=some e)(g:J P W0 ep live Q l ((d,v)::env) σ):TV P W0 ep live Q f vs l d env σ:=⟨v,σi,h,i,g⟩
theorem Bw{f:FuncId}{vs:List V}{v:V}{σi σo:Aj}(h:Al P W0 f vs σi v σo)(i:∀id e,lk σi id=some e->lk σ id=some e)(g:J P W0 ep live Q l ((d,v)::env) (over σi σo σ)):Im P W0 ep live Q f vs l d env σ:=⟨v,σi,σo,h,i,g⟩
theorem KO{f:FuncId}{vs:List V}{x:A5}{σi σo:Aj}(h:Iu P W0 f vs σi x σo)(i:∀id e,lk σi id=some e->lk σ id=some e)(g:J P W0 ep live Q l ((d,.arr (ep,d))::env) (((ep,d),x)::over σi σo σ)):SV P W0 ep live Q f vs l d env σ:=⟨x,σi,σo,h,i,g⟩
theorem mT{f:FuncId}{vs:List V}{v:V}(h:Al P W0 f vs [] v [])(g:J P W0 ep live Q l ((d,v)::env) σ):Im P W0 ep live Q f vs l d env σ:=by
 refine⟨v,[],[],h,λid e h=>by simp[lk] at h,?_⟩;have:over [] [] σ=σ:=by simp[over,lk]
 rw[this];exact g
end
@[irreducible] def GT(P:Program)(W0:World)(nt:Nat)(c:IC)(Q:Exit->St->Prop)(st:St):Prop:=Fw P W0 nt (.loop c) Q st
@[irreducible] def N3(P:Program)(W0:World)(nt:Nat)(e g:Nat)(x:X)(live:List Nat)(Q:Exit->St->Prop)(st:St):Prop:=Fw P W0 nt (.mnext e g x live) Q st
@[irreducible] def WkW(P:Program)(W0:World)(nt:Nat)(c:IC)(Q:Exit->St->Prop)(st:St):Prop:=Fw P W0 nt c Q st
def G2(P:Program)(W0:World)(n:Nat)(d:Nat)(f:FuncId)(vs:List V)(l2:List I)(live:List Nat)(Q:Exit->St->Prop)(env:A9)(σ:Aj):Prop:=
 IU P W0 n d f vs env σ λe env σ=>J P W0 e live Q l2 env σ
def MD(P:Program)(W0:World)(d:Nat)(f:FuncId)(args:List X)(l2:List I)(live:List Nat)(Q:Exit->St->Prop):Exit->St->Prop
 | .normal,st=>G2 P W0 st.n d f (Eh st.env args) l2 live Q st.env st.σ
 | _,_=>False
def Pi(P:Program)(W0:World)(d g:Nat)(e:Bool)(f:FuncId)(args:List X)(l2:List I)(live:List Nat)(Q:Exit->St->Prop):Exit->St->Prop
 | .normal,st=>yH (get st.env g) e (G2 P W0 st.n d f (Eh st.env args) l2 live Q st.env st.σ) (J P W0 st.n live Q l2 ((d,.tup [])::st.env) st.σ)
 | _,_=>False
theorem Alo{A B:Prop}:yH (.b true) true A B=A:=by simp[yH]
theorem Alr{A B:Prop}:yH (.b false) true A B=B:=by simp[yH]
def Sr(P:Program)(W0:World)(n:Nat)(d:Nat)(vs:List V)(l2:List I)(live:List Nat)(Q:Exit->St->Prop)(env:A9)(σ:Aj):Prop:=
 Aex P W0 n d vs env σ λe env σ=>J P W0 e live Q l2 env σ
def Hl(P:Program)(W0:World)(n:Nat)(d:Nat)(h:V)(vs:List V)(l2:List I)(live:List Nat)(Q:Exit->St->Prop)(env:A9)(σ:Aj):Prop:=
 match h with
 | .fn f first e=>G2 P W0 n d f (first++vs++e) l2 live Q env σ
 | .arr id=>Sr P W0 n d (.arr id::vs) l2 live Q env σ
 | _=>False
def OG(P:Program)(W0:World)(d:Nat)(x:X)(args:List X)(l2:List I)(live:List Nat)(Q:Exit->St->Prop):Exit->St->Prop
 | .normal,st=>Hl P W0 st.n d (AZ st.env x) (Eh st.env args) l2 live Q st.env st.σ
 | _,_=>False
def AjQ(P:Program)(W0:World)(nt:Nat)(g:X)(ps:List Nat)(a b:IC)(e live:List Nat)(Q:Exit->St->Prop)(st:St):Prop:=Fw P W0 nt (.rfn g ps a b e live) Q st
def aW(P:Program)(W0:World)(nt:Nat):IC->(Exit->St->Prop)->St->Prop
 | .ops l live _,Q,st=>J P W0 st.n live Q l st.env st.σ
 | .seqr l live,Q,st=>J P W0 st.n live Q l st.env st.σ
 | .seq a b,Q,st=>aW P W0 nt a (λe s=>match e with|.normal=>aW P W0 nt b Q s|e=>Q e s) st
 | .cond c a b,Q,st=>match AZ st.env c with|.b true=>aW P W0 nt a Q st|.b false=>aW P W0 nt b Q st|.ub=>aW P W0 nt a Q st/\aW P W0 nt b Q st|_=>False
 | .mnext j o x live,Q,st=>N3 P W0 nt j o x live Q st
 | .block id a,Q,st=>aW P W0 nt a (Dq id Q) st
 | .loop c,Q,st=>GT P W0 nt c Q st
 | .wk c,Q,st=>WkW P W0 nt c Q st
 | .opx l1 h d f args l2 live,Q,st=>J P W0 st.n h (MD P W0 d f args l2 live Q) l1 st.env st.σ
 | .opxq l1 h d g i f args l2 live,Q,st=>J P W0 st.n h (Pi P W0 d g i f args l2 live Q) l1 st.env st.σ
 | .opxd l1 h d f args live _,Q,st=>J P W0 st.n h (MD P W0 d f args [] live Q) l1 st.env st.σ
 | .opxv l1 h d x args l2 live,Q,st=>J P W0 st.n h (OG P W0 d x args l2 live Q) l1 st.env st.σ
 | .opxe ..,Q,st=>False
 | .anyr ..,Q,st=>False
 | .scope _,Q,st=>False
 | .rfn g ps a b p live,Q,st=>AjQ P W0 nt g ps a b p live Q st
 | .exit id,Q,st=>Q (.exit id) st
 | .ret,Q,st=>Q .ret st
 | .skip,Q,st=>Q .normal st
def N7(P:Program)(W0:World)(nt:Nat)(b:IC)(Q:Exit->St->Prop)(e:Exit)(s:St):Prop:=match e with|.normal=>aW P W0 nt b Q s|e=>Q e s
def PT(P:Program)(W0:World)(nt:Nat)(v:V)(a b:IC)(Q:Exit->St->Prop)(env:A9)(σ:Aj)(n:Nat):Prop:=match v with|.b true=>aW P W0 nt a Q ⟨env,σ,n⟩|.b false=>aW P W0 nt b Q ⟨env,σ,n⟩|.ub=>aW P W0 nt a Q ⟨env,σ,n⟩/\aW P W0 nt b Q ⟨env,σ,n⟩|_=>False
section
variable{P:Program}{W0:World}{nt n:Nat}{Q Q':Exit→St→Prop}{env:A9}{σ:Aj}{a b c:IC}{st:St}
theorem AiD{l:List I}{live:List Nat}{paths:List (List Nat)}:aW P W0 nt (.ops l live paths) Q ⟨env,σ,n⟩=J P W0 n live Q l env σ:=rfl
theorem Abc{l:List I}{live:List Nat}:aW P W0 nt (.seqr l live) Q ⟨env,σ,n⟩=J P W0 n live Q l env σ:=rfl
theorem Ajm:aW P W0 nt (.seq a b) Q ⟨env,σ,n⟩=aW P W0 nt a (N7 P W0 nt b Q) ⟨env,σ,n⟩:=rfl
theorem AbR{x:X}:aW P W0 nt (.cond x a b) Q ⟨env,σ,n⟩=PT P W0 nt (AZ env x) a b Q env σ n:=rfl
theorem qM{id:Nat}:aW P W0 nt (.block id a) Q ⟨env,σ,n⟩=aW P W0 nt a (Dq id Q) ⟨env,σ,n⟩:=rfl
theorem AcC:aW P W0 nt (.loop c) Q ⟨env,σ,n⟩=GT P W0 nt c Q ⟨env,σ,n⟩:=rfl
theorem Aqp:aW P W0 nt (.wk c) Q ⟨env,σ,n⟩=WkW P W0 nt c Q ⟨env,σ,n⟩:=rfl
theorem AaB{id:Nat}:aW P W0 nt (.exit id) Q ⟨env,σ,n⟩=Q (.exit id) ⟨env,σ,n⟩:=rfl
theorem AlB:aW P W0 nt .ret Q ⟨env,σ,n⟩=Q .ret ⟨env,σ,n⟩:=rfl
theorem AbV:aW P W0 nt .skip Q ⟨env,σ,n⟩=Q .normal ⟨env,σ,n⟩:=rfl
theorem Abu:PT P W0 nt (.b true) a b Q env σ n=aW P W0 nt a Q ⟨env,σ,n⟩:=rfl
theorem Aai:PT P W0 nt (.b false) a b Q env σ n=aW P W0 nt b Q ⟨env,σ,n⟩:=rfl
theorem gK:PT P W0 nt .ub a b Q env σ n=(aW P W0 nt a Q ⟨env,σ,n⟩/\aW P W0 nt b Q ⟨env,σ,n⟩):=rfl
theorem tB{e g:Nat}{x:X}{live:List Nat}:aW P W0 nt (.mnext e g x live) Q ⟨env,σ,n⟩=N3 P W0 nt e g x live Q ⟨env,σ,n⟩:=rfl
theorem Alt{g:X}{ps e live:List Nat}:aW P W0 nt (.rfn g ps a b e live) Q ⟨env,σ,n⟩=AjQ P W0 nt g ps a b e live Q ⟨env,σ,n⟩:=rfl
theorem Ab{t:Bool}(e:t=true->aW P W0 nt a Q ⟨env,σ,n⟩)(g:t=false->aW P W0 nt b Q ⟨env,σ,n⟩):PT P W0 nt (.b t) a b Q env σ n:=by
 cases t
 .exact g rfl
 .exact e rfl
theorem OV{d:Nat}{f:FuncId}{args:List X}{l2:List I}{live:List Nat}:MD P W0 d f args l2 live Q .normal ⟨env,σ,n⟩=G2 P W0 n d f (Eh env args) l2 live Q env σ:=rfl
theorem H9{d g:Nat}{e:Bool}{f:FuncId}{args:List X}{l2:List I}{live:List Nat}:Pi P W0 d g e f args l2 live Q .normal ⟨env,σ,n⟩=yH (get env g) e (G2 P W0 n d f (Eh env args) l2 live Q env σ) (J P W0 n live Q l2 ((d,.tup [])::env) σ):=rfl
theorem ML{d:Nat}{x:X}{args:List X}{l2:List I}{live:List Nat}:OG P W0 d x args l2 live Q .normal ⟨env,σ,n⟩=Hl P W0 n d (AZ env x) (Eh env args) l2 live Q env σ:=rfl
theorem U3{d:Nat}{f:FuncId}{first e vs:List V}{l2:List I}{live:List Nat}:Hl P W0 n d (.fn f first e) vs l2 live Q env σ=G2 P W0 n d f (first++vs++e) l2 live Q env σ:=rfl
theorem Sl{d:Nat}{id:Id}{vs:List V}{l2:List I}{live:List Nat}:Hl P W0 n d (.arr id) vs l2 live Q env σ=Sr P W0 n d (.arr id::vs) l2 live Q env σ:=rfl
theorem AbD{d:Nat}{vs:List V}{l2:List I}{live:List Nat}{σi:Aj}{R:Nat->Nat->V->Aj->Prop}(h:S9 P W0 vs σi R)(j:∀id e,lk σi id=some e->lk σ id=some e)
  (i:∀g v σo,n<=g->R n g v σo->J P W0 g live Q l2 ((d,v)::env) (over σi σo σ)):Sr P W0 n d vs l2 live Q env σ:=⟨σi,R,h,j,i⟩
theorem Bd{d:Nat}{f:FuncId}{vs:List V}{l2:List I}{live:List Nat}{σi:Aj}{R:Nat->Nat->V->Aj->Prop}(h:Ez P W0 f vs σi R)(j:∀id e,lk σi id=some e->lk σ id=some e)
  (i:∀g v σo,n<=g->R n g v σo->J P W0 g live Q l2 ((d,v)::env) (over σi σo σ)):G2 P W0 n d f vs l2 live Q env σ:=⟨σi,R,h,j,i⟩
theorem O4:N7 P W0 nt b Q .normal st=aW P W0 nt b Q st:=rfl
theorem T0{k:Nat}:N7 P W0 nt b Q (.exit k) st=Q (.exit k) st:=rfl
theorem Zu:N7 P W0 nt b Q .ret st=Q .ret st:=rfl
theorem BU:∀{ic:IC} {Q:Exit->St->Prop} {st:St},aW P W0 nt ic Q st->Fw P W0 nt ic Q st
 | .ops l live paths,Q,st,h=>by refine XF ?_;refine BI (λenv σ w n' U=>?_) h;have:=w (n'-(st.n+1));grind
 | .seqr l live,Q,st,h=>by refine kG ?_;refine BI (λenv σ w n' U=>?_) h;have:=w (n'-(st.n+1));grind
 | .seq a b,Q,st,h=>by
  refine Abf (LY (BU h) λe s N=>?_);cases e with
  | normal=>exact BU (ic:=b) N
  | _=>exact N
 | .cond c a b,Q,st,h=>by
  simp only[aW] at h;split at h
  .rename_i F;exact Rx F (λ_=>BU h) (λh=>by cases h)
  .rename_i F;exact Rx F (λh=>by cases h) (λ_=>BU h)
  .rename_i F;exact aG F (BU h.1) (BU h.2)
  .cases h
 | .mnext O S x live,Q,st,h=>by have h:N3 P W0 nt O S x live Q st:=h;unfold N3 at h;exact h
 | .block id a,Q,st,h=>Y9 (BU (ic:=a) h)
 | .loop c,Q,st,h=>by have h:GT P W0 nt c Q st:=h;unfold GT at h;exact h
 | .scope c,Q,st,h=>False.elim h
 | .rfn g ps a b W live,Q,st,h=>h
 | .wk c,Q,st,h=>by have h:WkW P W0 nt c Q st:=h;unfold WkW at h;exact AlM h
 | .opx l1 i d f args l2 live,Q,st,h=>by refine Aax ?_;refine BI (λenv σ w u q=>?_) (show J P W0 st.n i (MD P W0 d f args l2 live Q) l1 st.env st.σ from h);have j:=w (u-(st.n+1));rw[Azr q] at j;obtain⟨σi,R,y,z,A⟩:=j;refine⟨σi,R,y,z,λp v σo o B=>?_⟩;refine BI (λenv σ D r C=>?_) (A p v σo o B);have:=D (r-(p+1));grind
 | .opxq l1 i d g H f args l2 live,Q,st,h=>by
  refine mV ?_;refine BI (λenv σ w u q=>?_) (show J P W0 st.n i (Pi P W0 d g H f args l2 live Q) l1 st.env st.σ from h);have j:=w (u-(st.n+1));rw[Azr q] at j;rw[H9] at j;unfold yH at j⊢;have G:∀{env:A9} {σ:Aj},J P W0 u live Q l2 env σ->Au P W0 u l2 env σ λenv σ=>∀r,u<r->Q .normal ⟨restrict live env,σ,r⟩:=λh=>BI (λenv σ D r C=>by have:=D (r-(u+1));grind) h;split at j
  .rename_i t Y;refine⟨λL=>?_,λL=>G (j.2 L)⟩;obtain⟨σi,R,y,z,A⟩:=j.1 L;refine⟨σi,R,y,z,λp v σo o B=>?_⟩;refine BI (λenv σ D r C=>?_) (A p v σo o B);have:=D (r-(p+1));grind
  .exact G j
  .exact j.elim
 | .opxd l1 i d f args live paths,Q,st,h=>by refine eB ?_;refine BI (λenv σ w u q=>?_) (show J P W0 st.n i (MD P W0 d f args [] live Q) l1 st.env st.σ from h);have j:G2 P W0 (st.n+1+(u-(st.n+1))) d f (Eh (restrict i env) args) [] live Q (restrict i env) σ:=w (u-(st.n+1));rw[Azr q] at j;obtain⟨σi,R,y,z,A⟩:=j;refine⟨σi,R,y,z,λp v σo o B r C=>?_⟩;have T:∀k,Q .normal ⟨restrict live ((d,v)::restrict i env),over σi σo σ,p+1+k⟩:=A p v σo o B;have:=T (r-(p+1));grind
 | .opxv l1 i d x args l2 live,Q,st,h=>by
  refine xA ?_;refine BI (λenv σ w u q=>?_) (show J P W0 st.n i (OG P W0 d x args l2 live Q) l1 st.env st.σ from h);have j:Hl P W0 (st.n+1+(u-(st.n+1))) d (AZ (restrict i env) x) (Eh (restrict i env) args) l2 live Q (restrict i env) σ:=w (u-(st.n+1));rw[Azr q] at j;have G:∀{p:Nat} {env:A9} {σ:Aj},J P W0 p live Q l2 env σ->Au P W0 p l2 env σ λenv σ=>∀r,p<r->Q .normal ⟨restrict live env,σ,r⟩:=fun{p} _ _ h=>BI (λenv σ D r C=>by have:=D (r-(p+1));grind) h;unfold Hl at j;split at j
  .rename_i f first E M
   obtain⟨σi,R,y,z,A⟩:=j;exact .inl ⟨f,first,E,M,σi,R,y,z,λp v σo o B=>G (A p v σo o B)⟩
  .rename_i id M;obtain⟨σi,R,y,z,A⟩:=j;exact .inr ⟨id,M,σi,R,y,z,λp v σo o B=>G (A p v σo o B)⟩
  .exact j.elim
 | .opxe ..,Q,st,h=>False.elim h
 | .anyr ..,Q,st,h=>False.elim h
 | .exit id,Q,st,h=>cP h
 | .ret,Q,st,h=>Ade h
 | .skip,Q,st,h=>jV h
theorem Xl{j h s:Nat}{live:List Nat}{id mid:Id}{es:List (V×V)}{seen:List Nat}(u:get env s=.arr id)(r:lk σ id=some (.mit mid es.length seen es.length))(p:lk σ mid=some (.map es))(o:j∉live)(q:j≠h)
  (e:∀i w,es[i]?=some w->i∉seen->Q .normal ⟨restrict live ((h,.b true)::env),upd σ id (.mit mid es.length (seen++[i]) es.length),n+1⟩)
  (g:(∀i,i<es.length->i∈seen)->Q .normal ⟨restrict live ((h,.b false)::env),σ,n+1⟩):N3 P W0 nt j h (.t s) live Q ⟨env,σ,n⟩:=by
 unfold N3;exact Y0 u r p e g o q
def Ak(W0:World)(nt:Nat)(st e:St):Prop:=∀B a w,At W0 nt B st a w->At W0 nt B e a w
theorem Ak.refl:Ak W0 nt st st:=λ_ _ _ h=>h
theorem Ak.trans{e g i:St}(h:Ak W0 nt e g)(k:Ak W0 nt g i):Ak W0 nt e i:=λB a w x=>k B a w (h B a w x)
theorem U6{ic:IC}{g:St}(h:Ak W0 nt st g)(k:Fw P W0 nt ic Q g):Fw P W0 nt ic Q st:=λe j B a w o i=>k e j B a w o (h B a w i)
def QW(W0:World)(nt:Nat)(Q:Exit->St->Prop)(e:Exit)(st:St):Prop:=∃g,Ak W0 nt st g/\Q e g
theorem Mx{ic:IC}(h:Fw P W0 nt ic (QW W0 nt Q) st):Fw P W0 nt ic Q st:=by intro g q B a w t i;refine Bf (h g q B a w t i) λe a w r=>?_;obtain⟨o,y,s,⟨z,j,u⟩,p⟩:=r;exact⟨o,y,z,u,j o a w p⟩
def PH(W0:World)(nt:Nat)(Inv:Nat->St->Prop)(m:Nat)(Q:Exit->St->Prop):Exit->St->Prop
 | .normal,st=>∃h g,h<m/\Ak W0 nt st g/\Inv h g
 | e,st=>Q e st
theorem MO{Inv:Nat->St->Prop}{m:Nat}:PH W0 nt Inv m Q .normal st=∃g e,g<m/\Ak W0 nt st e/\Inv g e:=rfl
theorem QI{Inv:Nat->St->Prop}{m k:Nat}:PH W0 nt Inv m Q (.exit k) st=Q (.exit k) st:=rfl
theorem SJ{Inv:Nat->St->Prop}{m:Nat}:PH W0 nt Inv m Q .ret st=Q .ret st:=rfl
theorem Am{Inv:Nat->St->Prop}(m:Nat)(h:∃i,Ak W0 nt st i/\Inv m i)(g:∀m st,Inv m st->aW P W0 nt c (PH W0 nt Inv m Q) st):GT P W0 nt c Q st:=by
 unfold GT;obtain⟨i,o,j⟩:=h;refine U6 o (dC (Inv:=Inv) (λm st u=>?_) m j);refine Mx (LY (BU (g m st u)) λe s p=>?_);cases e with
 | normal=>obtain⟨w,y,q,r,t⟩:=p;exact⟨y,r,w,q,t⟩
 | _=>exact⟨s,Ak.refl,p⟩
theorem LW{e:St}(h:Ak W0 nt st e)(k:aW P W0 nt c Q e):WkW P W0 nt c Q st:=by unfold WkW;exact U6 h (BU k)
def KC(W0:World)(nt:Nat)(e:List R)(vs:List V)(σ':Aj):Exit->St->Prop:=QW W0 nt (Fin e vs σ')
def AfC(W0:World)(nt s:Nat)(x:A5)(σ':Aj):Exit->St->Prop:=QW W0 nt (An0 s x σ')
theorem Ae{f:FuncId}{ic:IC}{o:List R}(j:Av P f nt ic o=true){args:List V}(g:args.length<=nt){σ σ':Aj}{vs:List V}(i:∀id,lk σ' id≠none->lk σ id≠none)
  (h:∀n,(∀id e,lk σ id=some e->id.1<n)->aW P W0 nt ic (KC W0 nt o vs σ') ⟨params 0 args,σ,n⟩):Al P W0 f args σ (LB vs) σ':=
 AgK j g i λn p=>Mx (BU (h n p))
def AeG(W0:World)(nt:Nat)(e:List R)(R:Nat->Nat->V->Aj->Prop)(n0:Nat):Exit->St->Prop:=QW W0 nt (AmR e R n0)
theorem BN{f:FuncId}{ic:IC}{j:List R}(i:Av P f nt ic j=true){args:List V}(g:args.length<=nt){σ:Aj}{R:Nat->Nat->V->Aj->Prop}
  (h:∀n,(∀id e,lk σ id=some e->id.1<n)->aW P W0 nt ic (AeG W0 nt j R n) ⟨params 0 args,σ,n⟩):Ez P W0 f args σ R:=
 Acd i g λn o=>Mx (BU (h n o))
theorem VK{f:FuncId}{ic:IC}{s:Nat}(j:Av P f nt ic [.t s]=true){args:List V}(g:args.length<=nt){σ σ':Aj}{x:A5}(i:∀id,lk σ' id≠none->lk σ id≠none)
  (h:∀n,(∀id e,lk σ id=some e->id.1<n)->aW P W0 nt ic (AfC W0 nt s x σ') ⟨params 0 args,σ,n⟩):Iu P W0 f args σ x σ':=
 Al9 j g i λn o=>Mx (BU (h n o))
theorem Af{s:Nat}{v:V}(h:get env s=v):KC W0 nt [.t s] [v] [] .ret ⟨env,σ,n⟩:=⟨_,Ak.refl,⟨h,trivial⟩,λid e h=>by simp[lk] at h⟩
theorem Bn{s:Nat}{v:V}{σ':Aj}(h:get env s=v)(g:∀id e,lk σ' id=some e->lk σ id=some e):KC W0 nt [.t s] [v] σ' .ret ⟨env,σ,n⟩:=⟨_,Ak.refl,⟨h,trivial⟩,g⟩
theorem C7(σ:Aj):over σ σ σ=σ:=by
 have:∀(p:Id×A5),p∈σ->(lk σ p.1).isNone=false:=by
  intro p hp
  induction σ with
  | nil=>cases hp
  | cons q σ e=>grind[lk]
 unfold over;rw[AyE.2 (λp hp=>by simp[this p hp]),Arm]
theorem Ak.weak(φ:Id->Option (List V)){env':A9}{σ':Aj}{n':Nat}
  (j:∀id es,φ id=some es->(∃e sz,lk σ id=some (.arr e sz es))/\lk σ' id=none)
  (g:∀s,Jw φ (get env s) (get env' s))(i:∀id o,lk σ' id=some o->∃e,lk σ id=some e/\Ks φ e o)(p:n<=n'):Ak W0 nt ⟨env,σ,n⟩ ⟨env',σ',n'⟩:=
 λB a w h=>h.weak φ j g i p
theorem Ak.own{s e sz k:Nat}(C:get env s=.nil):Ak W0 nt ⟨env,σ,n⟩ ⟨(s,.arr (n,k))::env,((n,k),.arr e sz [])::σ,n+1⟩:=by
 intro B a w r;obtain⟨μ,H,y,hp,A,p,o,t⟩:=r;have g:μ (n,k)=none:=hp.bd _ (AzR _);have j:=Bm (v:=.slice none 0 0) g;have i:=(hp.more (Am9 n)).new_ (n':=n+1) (w':=w) (R:=λ_=>False) ⟨rfl,rfl,rfl,AzR _,λ_ _ _=>rfl⟩ (λ_ h=>h.elim) (σ1:=σ) (λid e h=>⟨h,λ_ _ h=>h⟩) (id:=(n,k)) (e:=.arr e sz []) (val:=.slice none 0 0) g (AzS _) (AzR _) (λF z=>by simp[BB] at z)
  ⟨.slice none 0 0,[],Ap _ _ _,rfl,Azg w _ e sz,Aqn _,(λx D=>by cases D),AK.nil_⟩
 refine⟨_,H,⟨y.size,λE=>?_⟩,i.1,A.trans i.2,λid u q=>?_,Am5 o (Am9 _),t⟩
 .simp only[get];split
  .rename_i q;subst q;have:=y.at_ s;simp only[C] at this;rw[this.nil_inv];exact .arr _ _ (Ap _ _ _) rfl
  .exact(y.at_ E).mono j (λ_ _ h=>h)
 .simp only at o;rw[B0 _ _ (by grind)];exact p id u q
theorem Ak.drop{σ':Aj}{n':Nat}(h:∀id e,lk σ' id=some e->lk σ id=some e)(j:n<=n'):Ak W0 nt ⟨env,σ,n⟩ ⟨env,σ',n'⟩:=
 Ak.weak (λ_=>none) (λ_ _ h=>by cases h) (λ_=>.refl _) (λid g i=>⟨g,h id g i,.refl _⟩) j
end
end Go.Ir
end
section
namespace Go.Ir
variable[F2]
theorem Ac0{ys:List V}:yG [] ys=True:=rfl
theorem xR{x:V}{xs ys:List V}:yG (x::xs) ys=((∀y∈ys,∀id,BP x=some id->BP y≠some id)/\yG xs ys):=rfl
def o1(d:Nat)(op:AE):I:=⟨some d,op,none,[]⟩
def o0(op:AE):I:=⟨none,op,none,[]⟩
def m1(d x:Nat):I:=⟨some d,.mv (.t x),none,[]⟩
def ci(z:Int):X:=.c (.i .i64 z)
def mZ(d:Nat)(z:Int):I:=⟨some d,.mv (.c (.i .i64 z)),none,[]⟩
def mC(d:Nat)(v:V):I:=⟨some d,.mv (.c v),none,[]⟩
def l1(d s:Nat):I:=⟨some d,.load (.t s) 1 false,none,[]⟩
def lA(d s n:Nat):I:=⟨some d,.load (.t s) n true,none,[]⟩
def fA(d s k:Nat):I:=⟨some d,.faddr (.t s) k,none,[]⟩
def xT(d s k:Nat):I:=⟨some d,.ext (.t s) k,none,[]⟩
def bT(d:Nat)(o:BinOp)(a b:Nat):I:=⟨some d,.bin o (.t a) (.t b),none,[]⟩
def bZ(d:Nat)(o:BinOp)(a:Nat)(z:Int):I:=⟨some d,.bin o (.t a) (.c (.i .i64 z)),none,[]⟩
def bC(d:Nat)(o:BinOp)(a:Nat)(v:V):I:=⟨some d,.bin o (.t a) (.c v),none,[]⟩
def q1(d f a:Nat):I:=⟨some d,.call f [.t a],none,[]⟩
def q2(d f a b:Nat):I:=⟨some d,.call f [.t a,.t b],none,[]⟩
def q3(d f a b c:Nat):I:=⟨some d,.call f [.t a,.t b,.t c],none,[]⟩
def pO(d a b:Nat):I:=⟨some d,.pick (.t a) (.c (.b true)) (.t b),none,[]⟩
def pA(d a b:Nat):I:=⟨some d,.pick (.t a) (.t b) (.c (.b false)),none,[]⟩
def nL(d s:Nat):I:=⟨some d,.lenL (.t s),none,[]⟩
def nS(d s:Nat):I:=⟨some d,.lenS (.t s),none,[]⟩
def nT(d s:Nat):I:=⟨some d,.not (.t s),none,[]⟩
def nC(d s:Nat):I:=⟨some d,.nilck (.t s),none,[]⟩
def bX(d s:Nat):I:=⟨some d,.box (.t s),none,[]⟩
def iA(d a b e z:Nat):I:=⟨some d,.iaddr (.t a) (.t b) e z,none,[]⟩
def sT(a b n:Nat):I:=⟨none,.store (.t a) (.t b) n,none,[]⟩
def gT(d g:Nat)(o:AE):I:=⟨some d,o,some (g,true),[]⟩
def gF(d g:Nat)(o:AE):I:=⟨some d,o,some (g,false),[]⟩
def By(d g s:Nat):I:=⟨some d,.mv (.t s),some (g,true),[]⟩
def Br(d g s:Nat):I:=⟨some d,.mv (.t s),some (g,false),[]⟩
def Db(d g s:Nat):I:=⟨some d,.load (.t s) 1 false,some (g,true),[]⟩
def CM(d g s:Nat):I:=⟨some d,.load (.t s) 1 false,some (g,false),[]⟩
def Dv(d g s k:Nat):I:=⟨some d,.faddr (.t s) k,some (g,true),[]⟩
def Du(d g s k:Nat):I:=⟨some d,.faddr (.t s) k,some (g,false),[]⟩
def C8(d g:Nat)(o:BinOp)(a:Nat)(z:Int):I:=⟨some d,.bin o (.t a) (.c (.i .i64 z)),some (g,true),[]⟩
def Dg(d g:Nat)(o:BinOp)(a:Nat)(z:Int):I:=⟨some d,.bin o (.t a) (.c (.i .i64 z)),some (g,false),[]⟩
def oP(l:List I)(v:List Nat):IC:=.ops l v []
def oR(l:List I)(v:List Nat):IC:=.seq (.ops l v []) .ret
def oS(l:List I)(v:List Nat)(b:IC):IC:=.seq (.ops l v []) b
def rS(l:List I)(v:List Nat)(b:IC):IC:=.seq (.seqr l v) b
def sQ(a b:IC):IC:=.seq a b
def cD(n:Nat)(a b:IC):IC:=.cond (.t n) a b
theorem bq:(!true)=false/\(!false)=true/\(∀b,(true||b)=true)/\(∀b,(false||b)=b)/\(∀b,(b||true)=true)/\(∀b,(b||false)=b)/\(∀b,(true&&b)=b)/\(∀b,(false&&b)=false)/\(∀b,(b&&true)=b)/\(∀b,(b&&false)=false)/\((false=true)=False):=by simp
theorem AL{c d:IC}(h:c=d)(P:Program)(W0:World)(nt:Nat)(Q:Exit->St->Prop)(env:A9)(σ:Aj)(n:Nat):aW P W0 nt c Q ⟨env,σ,n⟩=aW P W0 nt d Q ⟨env,σ,n⟩:=by rw[h]
theorem Aq{c d:IC}{p:Prop}(h:c=d)(q:p):(∀P W0 nt Q env σ n,aW P W0 nt c Q ⟨env,σ,n⟩=aW P W0 nt d Q ⟨env,σ,n⟩)/\p:=⟨AL h,q⟩
section
variable{P:Program}{W0:World}{nt n d f:Nat}{Q:Exit→St→Prop}{env:A9}{σ:Aj}{l1 l2:List I}{v1 v:List Nat}{x:X}{args:List X}{ps:List (List Nat)}
theorem AgJ:aW P W0 nt (.opx l1 v1 d f args l2 v) Q ⟨env,σ,n⟩=J P W0 n v1 (MD P W0 d f args l2 v Q) l1 env σ:=rfl
theorem zS{g:Nat}{e:Bool}:aW P W0 nt (.opxq l1 v1 d g e f args l2 v) Q ⟨env,σ,n⟩=J P W0 n v1 (Pi P W0 d g e f args l2 v Q) l1 env σ:=rfl
theorem Aaq:aW P W0 nt (.opxv l1 v1 d x args l2 v) Q ⟨env,σ,n⟩=J P W0 n v1 (OG P W0 d x args l2 v Q) l1 env σ:=rfl
theorem yW:aW P W0 nt (.opxd l1 v1 d f args v ps) Q ⟨env,σ,n⟩=J P W0 n v1 (MD P W0 d f args [] v Q) l1 env σ:=rfl
end
attribute [push_cast] put params AlG Apy if_true if_false Aw5 AyJ cL sU wN pL GF lk upd del Es Da sub Xf Atq Option.getD_some AyC AwW and_true true_and AvY Int.natCast_nonneg Int.zero_le_ofNat Ayf AxG AiL Ank cond_true cond_false AcT Au9 AuR AbW Anz Ay7 and_self and_false false_and Awv AuI AtZ AvS AwM Auh Arm AaZ AuV Ab2 AvA Aar Au8 a7 Ak8 eL ApA ZF Akc Y8 Ags YY Aig SI Ac2 qE AnP oD AmK eH Asw cG AnW wL Aol Aa4 AsM Anf ArY Aow AnB AqM Anj lJ T6 zI ZK QG uG yN Yr AiN AgE Z3 Ua Tw Zj a8 Sz TL ZI iO Tu SO Si QK Ux Ai5 o4 Alq AbJ Ak1 yV kI tA fU tG TD Qg Qk U1 AkM Ahl AlU Aia wD QM Aj8 Aqr Aq1 Acl tW AcA mO ZE Tg Ym YR ZJ TI Bv zR Oy MW Le Pa Rp OU SF YT Ave Amj Apo AmT ApS Apl AcH AaD AoO AlT Aay An1 AbG AbN AhC Aja AoW Ar8 AlQ Ahb AmQ As9 Aky Aul Abs Ahr Aoc Ab9 Aao Aab y8 Ac1 Avn iX vZ oI dF Aq4 ZP Alh zA AcD AbP v7 TA Z9 TU AuW ArP AsE AoI AaW AaP AoN AkE AqK Arz AcL AbT xI xJ tV d7 zB Ama Abz AjC eM Acb xO Acp vY oW Zo oO tI gQ oC Aoi Ao3 Aqs ApX Aml Ao1 xL kQ bP Aac Y6 ZR Zs Yl aZ Zk y7 vJ nF dL mW Rq Rc Rm RO Qb gK tB Azb List.all_nil Bool.and_self Ax6 AiD Ajm AbR qM AcC Aqp AaB AlB AbV Abu Aai OV ML U3 Sl Alt O4 T0 Zu MO QI SJ Amv AE.cs Ac0 xR o1 o0 m1 ci mZ mC l1 lA fA xT bT bZ bC q1 q2 q3 pO pA nL nS nT nC bX iA sT gT gF By Br Db CM Dv Du C8 Dg oP oR oS rS sQ cD AgJ zS H9 Alo Alr Aaq yW Abc decide_true decide_false
end Go.Ir
end
section
namespace Go.Ir
open Go.Proofs Go.RowKit
section
variable{P:Program}{W0:World}
theorem HC{G:FuncId}{T:TypeId}{u t:V}{id:Id}{off:Nat}(y:callable P G=true)(hc:(cells u)[off]?=some .np)(E:Da u off 1 (.ref id off)=some t)
  (p:∀(b:Nat) (w:World),w.cell? ⟨b,off,none⟩=some (.pointer none)->w.shape? b=some (T,(cells u).length)->w.frozen? ⟨b,off,none⟩=false->off<(cells u).length->
   Calls P G #[.pointer (some ⟨b,off,none⟩)] w λe w'=>e=.returned (.tuple #[])/\w'=w.setCell ⟨b,off,none⟩ (.pointer (some ⟨b,off,none⟩))) :
  Al P W0 G [.ref id off] [(id,.tbox T u)] (.tup []) [(id,.tbox T t)] where
 callable:=y
 dom:=λi hi=>by simp only[lk] at hi⊢;grind
 run:=by
  intro n w μ H vals hp q;have R:lk [(id,A5.tbox T u)] id=some (.tbox T u):=by simp[lk]
  obtain⟨ac,O,j⟩:=Ih E;have D:off<(cells u).length:=by omega
  have U:∀{μ:Id->Option Value} {H:Addr->Option Value},Ao μ H (.tup []) (.tuple #[]):=.tup [] [] rfl (λk c v L=>by simp at L);obtain⟨x,rfl,hx⟩:=q.one_;obtain⟨g,F,rfl⟩:=hx.ref_inv;obtain⟨Y,o,C,hB,z,h⟩:=hp.ents _ _ R;rw[F] at C;cases C;obtain⟨x0,N,M⟩:=h.toVRels.get hc;rw[M.np_inv'] at N;have B:(cells u).length=o.size:=by rw[h.len];simp
  have A:off<o.size:=by omega
  have J:o[off]=.pointer none:=by grind
  refine AwZ (p g w (by simp[World.cell?,z,A,J]) (by simp[World.shape?,z,B]) (by simp[World.frozen?,z]) D) ?_;rintro e w' ⟨rfl,rfl⟩;have s:w.setCell ⟨g,off,none⟩ (.pointer (some ⟨g,off,none⟩))=w.setRow g (o.setIfInBounds off (.pointer (some ⟨g,off,none⟩))):=setCell_eq_setRow w g off o T (0,0) _ z;rw[s];have r:AK μ H (cells t) (o.setIfInBounds off (.pointer (some ⟨g,off,none⟩))).toList:=by
   have Z:AK μ H (cells (V.ref id off)) [.pointer (some ⟨g,off,none⟩)]:=⟨VRels.nil_.cons (.ref id off g F),λv W=>by simp at W;subst W;rfl⟩
   have:=Eg h Z off (off+1);rw[j,Azp,Az2,if_pos (by simpa using A)];simpa using this
  have S:=hp.set_ (e:=.tbox T t) R ((AR.setRow w g _).to (λk L=>by subst L;simp[F,BB])) ⟨g,_,F,hB,setRow_heap w g o _ T (0,0) z,r⟩;have ad:upd [(id,A5.tbox T u)] id (.tbox T t)=[(id,.tbox T t)]:=by simp[upd]
  grind
theorem IY{t:FuncId}{T:TypeId}{u:V}{id:Id}{off:Nat}(j:callable P t=true)(G:(cells u)[off]?=some (.ref id off))
  (s:∀(b:Nat) (w:World),w.cell? ⟨b,off,none⟩=some (.pointer (some ⟨b,off,none⟩))->Calls P t #[.pointer (some ⟨b,off,none⟩)] w λe w'=>e=.returned (.tuple #[])/\w'=w) :
  Al P W0 t [.ref id off] [(id,.tbox T u)] (.tup []) [(id,.tbox T u)] where
 callable:=j
 dom:=λi L=>L
 run:=by
  intro n w μ H vals hp g;have N:lk [(id,A5.tbox T u)] id=some (.tbox T u):=by simp[lk]
  have r:∀{μ:Id->Option Value} {H:Addr->Option Value},Ao μ H (.tup []) (.tuple #[]):=.tup [] [] rfl (λk c v M=>by simp at M);obtain⟨x,rfl,O⟩:=g.one_;obtain⟨B,D,rfl⟩:=O.ref_inv;obtain⟨E,C,o,hB,J,q⟩:=hp.ents _ _ N;rw[D] at o;cases o;obtain⟨S,R,A⟩:=q.toVRels.get G;obtain⟨F,p,rfl⟩:=A.ref_inv;rw[D] at p;cases p;have z:off<C.size:=by grind
  have y:C[off]=.pointer (some ⟨B,off,none⟩):=by grind
  refine AwZ (s B w (by simp[World.cell?,J,z,y])) ?_;rintro e w' ⟨rfl,rfl⟩;exact⟨_,μ,H,n,rfl,r,hp,AzR _,Fr.refl _ _ _ _,λ_ _ h=>h⟩
theorem K8{O:FuncId}{e:TypeId}{T:TypeId}{u:V}{id g:Id}{off:Nat}{l:List UInt8}(C:callable P O=true)(hc:(cells u)[Nat.succ off]?=some (.arr g))(p:g≠id)(E:l.length<=AJ)
  (M:∀(b:Nat) (v:Value) (B:Nat) (w:World),w.cell? ⟨b,Nat.succ off,none⟩=some v->w.ownsRow B e 1 v l.length (Lib.byteCells l)->
   Calls P O #[.pointer (some ⟨b,off,none⟩)] w λe w'=>e=.returned (.string ⟨l.toArray⟩)/\w.grownBy w' v.ownBlock) :
  Al P W0 O [.ref id off] [(id,.tbox T u),(g,.arr e 1 (Ay l))] (.s l) [(id,.tbox T u)] where
 callable:=C
 dom:=λi hi=>by simp only[lk] at hi⊢;grind
 run:=by
  intro n w μ H vals hp q;have hl:lk [(id,A5.tbox T u),(g,.arr e 1 (Ay l))] id=some (.tbox T u):=by simp[lk]
  have t:lk [(id,A5.tbox T u),(g,.arr e 1 (Ay l))] g=some (.arr e 1 (Ay l)):=by simp[lk,AfT p]
  obtain⟨y,rfl,hy⟩:=q.one_;obtain⟨Z,hm,rfl⟩:=hy.ref_inv;obtain⟨ab,cv,F,hB,hg,L⟩:=hp.ents _ _ hl;rw[hm] at F;cases F;obtain⟨val,A,hr⟩:=L.toVRels.get hc;have r:w.cell? ⟨Z,Nat.succ off,none⟩=some val:=by
   have o:=(Af8.1 A).1;have o:Nat.succ off<cv.size:=by simpa using o
   rw[Ays,Avi o] at A;simp only[World.cell?,hg,Avi o];exact A
  obtain⟨G,ae⟩:=hr.arr_inv;obtain⟨N,_,j,U,an,z⟩:=Di hp t G;rw[LE z,show(Ay l).length=l.length by simp[Ay]] at j;refine AwZ (M Z val W0.heap.size w r j) ?_;rintro ad w' ⟨rfl,S⟩;have J:∀k,some k=val.ownBlock->BB (μ g)=some k:=by
   intro k D;rw[G];obtain⟨Y,aa,W⟩:=BX j;rw[W] at D⊢;cases Y with
   | none=>simp[Value.ownBlock] at D
   | some Y=>simpa[Value.ownBlock,BB] using D.symm
  have hd:del [(id,A5.tbox T u),(g,.arr e 1 (Ay l))] g=[(id,.tbox T u)]:=by simp[del,AfT p]
  have:=hp.lose (σ1:=del [(id,A5.tbox T u),(g,.arr e 1 (Ay l))] g) (AR.of_grown S) (λk D=>⟨g,_,t,J k D⟩) (λap e' h=>by
   rw[CA] at h;split at h
   .cases h
   .rename_i p;exact⟨h,λb hb R=>p (hp.sep _ _ _ _ b t h (J b R) hb)⟩)
  rw[hd] at this;exact⟨_,μ,H,n,rfl,.s l E,this.1,AzR _,this.2,λ_ _ h=>h⟩
end
variable(W0:World)
theorem Aal{T:TypeId}{id:Id}{r:List V}(e:liesAt Tryz.prog Tryz.prog.depth T ((r.length+1) / Tryz.prog.cellsOf T) 0 98 1=true) :
  Al Tryz.prog W0 180 [.ref id 0] [(id,.tbox T (.agg (.np::r)))] (.tup []) [(id,.tbox T (.agg (.ref id 0::r)))]:=
 HC (by kernel_rfl) rfl (by simp[Da,cells,MP]) λb w j i h g=>Lf T (r.length+1) 0 e b w j i h g
theorem Abo{T:TypeId}{id:Id}{r:List V}:Al Tryz.prog W0 180 [.ref id 0] [(id,.tbox T (.agg (.ref id 0::r)))] (.tup []) [(id,.tbox T (.agg (.ref id 0::r)))]:=
 IY (by kernel_rfl) rfl λb w e=>Of b 0 w e
theorem ZA{T:TypeId}{id e:Id}{l:List UInt8}{a:V}{r:List V}(g:e≠id)(i:l.length<=AJ) :
  Al Tryz.prog W0 45 [.ref id 0] [(id,.tbox T (.agg (a :: .arr e::r))),(e,.arr 5 1 (Ay l))] (.s l) [(id,.tbox T (.agg (a :: .arr e::r)))]:=
 K8 (by kernel_rfl) rfl g i λb v B w h j=>K3 b 0 l v B w h j
end Go.Ir
end
section
namespace Go.Ir
abbrev Aa:=List UInt8
structure Aw where
 kind:Int
 text:Aa
 name:Aa
 style:Aa
 cases:List (Aa×List Aw)
 parts:List Aw
abbrev DR:=Aa×List Aw
mutual
def Aw.enc:Aw->V
 | ⟨k,t,n,s,cs,ps⟩=>.agg [.i .i64 k,.s t,.s n,.s s,.sl (Qd cs),.sl (M0 ps)]
def M0:List Aw->List V
 | []=>[]
 | p::ps=>p.enc::M0 ps
def Qd:List (Aa×List Aw)->List V
 | []=>[]
 | (k,ps)::cs=>.agg [.s k,.sl (M0 ps)]::Qd cs
end
mutual
def Aw.wt:Aw->Nat
 | ⟨_,t,n,s,cs,ps⟩=>1+t.length+n.length+s.length+Io cs+Eo ps
def Eo:List Aw->Nat
 | []=>0
 | p::ps=>p.wt+Eo ps
def Io:List (Aa×List Aw)->Nat
 | []=>0
 | (k,ps)::cs=>1+k.length+Eo ps+Io cs
end
def DR.enc(c:DR):V:=.agg [.s c.1,.sl (M0 c.2)]
theorem Jz:∀ps,M0 ps=ps.map Aw.enc
 | []=>by simp[M0]
 | p::ps=>by simp[M0,Jz ps]
theorem N9:∀cs,Qd cs=cs.map DR.enc
 | []=>by simp[Qd]
 | (k,ps)::cs=>by simp[Qd,N9 cs,DR.enc]
@[push_cast] theorem Aw.enc_eq(p:Aw):p.enc=.agg [.i .i64 p.kind,.s p.text,.s p.name,.s p.style,.sl (p.cases.map DR.enc),.sl (p.parts.map Aw.enc)]:=by cases p;simp[Aw.enc,Jz,N9]
@[push_cast] theorem DR.enc_eq(c:DR):DR.enc c=.agg [.s c.1,.sl (c.2.map Aw.enc)]:=by simp[DR.enc,Jz]
theorem Aw.wt_eq(p:Aw):p.wt=1+p.text.length+p.name.length+p.style.length+Io p.cases+Eo p.parts:=by cases p;simp[Aw.wt]
theorem FM(p:Aw)(ps:List Aw):Eo (p::ps)=p.wt+Eo ps:=by simp[Eo]
theorem E5(c:DR)(cs:List DR):Io (c::cs)=1+c.1.length+Eo c.2+Io cs:=by obtain⟨k,ps⟩:=c;simp[Io]
theorem iV:Io []=0:=by simp[Io]
theorem jY{ps:List Aw}{p:Aw}(h:p∈ps):p.wt<=Eo ps:=by
 induction ps with
 | nil=>cases h
 | cons d ps e=>rw[FM];grind
theorem iT{cs:List DR}{c:DR}(h:c∈cs):1+c.1.length+Eo c.2<=Io cs:=by
 induction cs with
 | nil=>cases h
 | cons d cs e=>rw[E5];grind
theorem eJ(ps:List Aw):ps.length<=Eo ps:=by
 induction ps with
 | nil=>simp
 | cons p ps e=>rw[FM,AiL,p.wt_eq];omega
theorem nQ(cs:List DR):cs.length<=Io cs:=by
 induction cs with
 | nil=>simp
 | cons p ps e=>rw[E5,AiL];omega
section zip
variable{α β:Type}{f:α→β}{dn rest:List α}{x:α}
@[push_cast] theorem AtK:decide ((dn.length:Int)<((dn++x::rest).length:Int))=true:=by simp;omega
@[push_cast] theorem AsX:(List.map f (dn++x::rest))[dn.length]?=some (f x):=by simp
@[push_cast] theorem Aqz:(dn++x::rest)[dn.length]?=some x:=by simp
@[push_cast] theorem Ata(n:Int):decide (n<n)=false:=by simp
theorem Ai(x:α){dn:List α}(h:dn.length<2^62):IntKind.i64.wrap ((dn.length:Int)+1)=((dn++[x]).length:Int):=by rw[wrap64 (by omega) (by omega)];simp
theorem AM{xs:List α}(h:xs=dn++x::rest):dn.length<xs.length:=by rw[h];simp
end zip
attribute [push_cast] Abn
@[push_cast] theorem Amz{c:UInt8}{r:List UInt8}:(c::r==[])=false:=rfl
@[push_cast] theorem AmA:(([]:List UInt8)==[])=true:=rfl
@[push_cast] theorem ep1(a k:Nat):(a+1+k=a)=False:=by simp;omega
@[push_cast] theorem Ayc(a k:Nat):(a=a+1+k)=False:=by simp;omega
@[push_cast] theorem ep2(a k j:Nat):(a+1+k+1+j=a)=False:=by simp;omega
@[push_cast] theorem AyP(a k j:Nat):(a=a+1+k+1+j)=False:=by simp;omega
@[push_cast] theorem ep3(a k j i:Nat):(a+1+k+1+j+1+i=a)=False:=by simp;omega
@[push_cast] theorem Ayq(a k j i:Nat):(a=a+1+k+1+j+1+i)=False:=by simp;omega
@[push_cast] theorem ep4(a k j i h:Nat):(a+1+k+1+j+1+i+1+h=a)=False:=by simp;omega
@[push_cast] theorem AxR(a k j i h:Nat):(a=a+1+k+1+j+1+i+1+h)=False:=by simp;omega
@[push_cast] theorem ep5(a k j i h g:Nat):(a+1+k+1+j+1+i+1+h+1+g=a)=False:=by simp;omega
@[push_cast] theorem AyT(a k j i h g:Nat):(a=a+1+k+1+j+1+i+1+h+1+g)=False:=by simp;omega
@[push_cast] theorem Apb(l:List V):BP (.sl l)=none:=rfl
@[push_cast] theorem Am1:BP .nil=none:=rfl
@[push_cast] theorem Aqg(v:V)(k:Nat):BP (v.ep k)=none:=rfl
@[push_cast] theorem AsY(l:Aa):BP (.s l)=none:=rfl
@[push_cast] theorem AsQ(l:Bool):BP (.b l)=none:=rfl
@[push_cast] theorem Atc(k:IntKind)(l:Int):BP (.i k l)=none:=rfl
@[push_cast] theorem Am6(l:List V):BP (.agg l)=none:=rfl
@[push_cast] theorem Am0(id:Id)(o:Nat):BP (.ref id o)=some id:=rfl
@[push_cast] theorem Am4(id:Id):BP (.arr id)=some id:=rfl
attribute [push_cast] List.forall_mem_cons AxN false_imp_iff implies_true Amy forall_eq' ne_eq not_false_eq_true
def Aw.v(p:Aw):V:=.agg [.i .i64 p.kind,.s p.text,.s p.name,.s p.style,.sl (p.cases.map DR.enc),.sl (p.parts.map Aw.enc)]
def DR.v(c:DR):V:=.agg [.s c.1,.sl (c.2.map Aw.enc)]
theorem Ka(x:UInt8){dn:List UInt8}(h:dn.length<AJ):IntKind.i64.wrap ((dn.length:Int)+1)=((dn++[x]).length:Int):=Ai x (by unfold AJ at h;omega)
@[push_cast] theorem AvO(w r:Aa):(if 0<=w.length/\w.length<=(w++r).length then some (V.s (List.take w.length (w++r))) else none)=some (V.s w):=by grind
@[push_cast] theorem Avl(w r:Aa):(if w.length<=(w++r).length/\(w++r).length<=(w++r).length then some (V.s (List.drop w.length (List.take (w++r).length (w++r)))) else none)=some (V.s r):=by grind
@[push_cast] theorem Atp(w r:Aa)(c:UInt8):(if(w++[c]).length<=(w++c::r).length/\(w++c::r).length<=(w++c::r).length then some (V.s (List.drop (w++[c]).length (List.take (w++c::r).length (w++c::r)))) else none)=some (V.s r):=by rw[if_pos ⟨by simp,AzR _⟩,Am7,show w++c::r=(w++[c])++r by simp];simp only[AzH]
@[push_cast] theorem Atg(w:Aa):(if 0<=w.length/\w.length<=w.length then some (V.s (List.take w.length w)) else none)=some (V.s w):=by grind
@[push_cast] theorem Au5{α:Type}(f:α->V)(w r:List α):(if 0<=w.length/\w.length<=(w++r).length then some (V.sl (List.take w.length (List.map f (w++r)))) else none)=some (V.sl (List.map f w)):=by grind
end Go.Ir
end
namespace Go.Ir
open Go.Proofs
variable{P:Program}{W0:World}{nt n:Nat}{Q:Exit→St→Prop}{env:A9}{σ:Aj}
end Go.Ir

namespace Go.Ir
open Go.Proofs
end Go.Ir

namespace Go.Ir
open Go.Proofs
variable{P:Program}{W0:World}{nt n:Nat}{Q:Exit→St→Prop}{env:A9}{σ:Aj}
def AdH:IC:=oR [m1 3 0,bC 4 .geq 3 (.i .u8 97),m1 5 4,By 6 5 0,gT 7 5 (.bin .leq (.t 6) (.c (.i .u8 122))),pA 8 5 7,m1 9 8,Br 10 9 0,gF 11 9 (.bin .geq (.t 10) (.c (.i .u8 65))),Br 12 9 11,By 13 12 0,gT 14 12 (.bin .leq (.t 13) (.c (.i .u8 90))),gF 15 9 (.pick (.t 12) (.t 14) (.c (.b false))),pO 16 9 15,m1 17 16,Br 18 17 0,gF 19 17 (.bin .geq (.t 18) (.c (.i .u8 48))),Br 20 17 19,By 21 20 0,gT 22 20 (.bin .leq (.t 21) (.c (.i .u8 57))),gF 23 17 (.pick (.t 20) (.t 22) (.c (.b false))),pO 24 17 23,m1 2 24] [2]
def AeV:IC:=oS [mC 2 (.b false)] [0] AdH
@[push_cast]def AtW:List R:=[.t 2]
@[push_cast]def AyO:=Aq AdH.eq_1<|AL AeV.eq_1
theorem Aqt:Av Tryz.prog 97 25 AeV AtW=true:=by kernel_rfl
def jN:IC:=oS [m1 26 0,m1 27 3,o1 28 (.idx (.t 26) (.t 27)),q1 29 97 28,nT 30 29,m1 31 30,By 32 31 0,By 33 31 3,gT 34 31 (.idx (.t 32) (.t 33)),gT 35 31 (.bin .neq (.t 34) (.c (.i .u8 95))),pA 36 31 35,m1 37 36,By 38 37 0,By 39 37 3,gT 40 37 (.idx (.t 38) (.t 39)),gT 41 37 (.bin .neq (.t 40) (.c (.i .u8 45))),pA 42 37 41] [0,22,23,42] (cD 42 (oR [mC 2 (.b false)] [2]) .skip)
def uQ:IC:=oS [bT 24 .lss 23 22] [0,22,23,24] (sQ (cD 24 .skip (.exit 0)) (sQ (.block 1 (oS [m1 25 23,m1 3 25] [0,3,22,23] jN)) (oP [bZ 43 .add 23 1,m1 23 43] [0,22,23])))
def Agg:IC:=sQ (oS [m1 4 0,bC 5 .eql 4 (.s []),m1 6 5,Br 7 6 0,gF 8 6 (.lenS (.t 7)),Dg 9 6 .gtr 8 40,pO 10 6 9,m1 11 10,Br 12 11 0,gF 13 11 (.idx (.t 12) (ci 0)),gF 14 11 (.bin .lss (.t 13) (.c (.i .u8 97))),pO 15 11 14,m1 16 15,Br 17 16 0,gF 18 16 (.idx (.t 17) (ci 0)),gF 19 16 (.bin .gtr (.t 18) (.c (.i .u8 122))),pO 20 16 19] [0,20] (cD 20 (oR [mC 2 (.b false)] [2]) .skip)) (sQ (oS [m1 21 0,nS 22 21,mZ 23 0] [0,22,23] (.block 0 (.loop uQ))) (oR [mC 2 (.b true)] [2]))
def Aes:IC:=oS [mC 2 (.b false)] [0] Agg
@[push_cast]def AvB:List R:=[.t 2]
@[push_cast]def Ax8:=Aq jN.eq_1<|Aq uQ.eq_1<|Aq Agg.eq_1<|AL Aes.eq_1
theorem Ap7:Av Tryz.prog 62 44 Aes AvB=true:=by kernel_rfl
def Ad4:IC:=oS [mC 2 (.b false)] [0] (oR [m1 3 0,bZ 4 .geq 3 7,m1 5 4,By 6 5 0,C8 7 5 .leq 6 9,pA 8 5 7,m1 2 8] [2])
@[push_cast]def AuM:List R:=[.t 2]
@[push_cast]def AxI:=AL Ad4.eq_1
theorem ArJ:Av Tryz.prog 79 9 Ad4 AuM=true:=by kernel_rfl
end Go.Ir

namespace Go.Ir
theorem Ad{W0:World}{nt n:Nat}{g:List R}{vs:List V}{env:A9}{σ:Aj}(h:Dd ⟨env,σ,n⟩ g vs):KC W0 nt g vs [] .ret ⟨env,σ,n⟩:=
 ⟨_,Ak.refl,h,λid e h=>by simp[lk] at h⟩
def Ac8(o:Option A5)(off k:Nat)(e:Bool)(v:V):Prop:=∃u,o=some (.box u)/\sub u off k e=some v
def Ag0(x:V)(σ:Aj)(k:Nat)(e:Bool)(v:V):Prop:=∃id off u,x=.ref id off/\lk σ id=some (.box u)/\sub u off k e=some v
@[push_cast] theorem AmU{u v:V}{off k:Nat}{e:Bool}:Ac8 (some (.box u)) off k e v=(sub u off k e=some v):=by simp[Ac8]
@[push_cast] theorem Aqx{id:Id}{off k:Nat}{σ:Aj}{e:Bool}{v:V}:Ag0 (.ref id off) σ k e v=Ac8 (lk σ id) off k e v:=by unfold Ag0 Ac8;grind
@[push_cast] theorem AnK{env:A9}{σ:Aj}{n s k:Nat}{e:Bool}{g:List R}{v:V}{vs:List V}:Dd ⟨env,σ,n⟩ (.c s k e::g) (v::vs)=(Ag0 (get env s) σ k e v/\Dd ⟨env,σ,n⟩ g vs):=rfl
@[push_cast] theorem AoF{env:A9}{σ:Aj}{n s:Nat}{e:List R}{v:V}{vs:List V}:Dd ⟨env,σ,n⟩ (.t s::e) (v::vs)=(get env s=v/\Dd ⟨env,σ,n⟩ e vs):=rfl
@[push_cast] theorem AhR{st:St}:Dd st [] []=True:=rfl
theorem Ak.drop1{W0:World}{nt n n':Nat}{env:A9}{σ:Aj}{id:Id}{x:A5}(h:lk σ id=none)(i:n<=n'):Ak W0 nt ⟨env,(id,x)::σ,n⟩ ⟨env,σ,n'⟩:=by
 refine Ak.drop (λj e g=>?_) i;simp only[lk];rw[if_neg]
 .exact g
 grind
theorem Ct{σ:Aj}{g:Id}{x:A5}(h:lk σ g=none):∀id e,lk σ id=some e->lk ((g,x)::σ) id=some e:=by
 intro id e i;simp only[lk];rw[if_neg]
 .exact i
 grind
end Go.Ir
section
namespace Go.Ir
theorem Ar{P:Program}{W0:World}{ep:Nat}{live:List Nat}{Q:Exit->St->Prop}{p:Prop}{l:List I}{env:A9}{σ:Aj}(h:p)(k:J P W0 ep live Q l env σ):JP P W0 ep live Q p l env σ:=⟨h,k⟩
section
variable{P:Program}{W0:World}{ep d:Nat}{live:List Nat}{Q:Exit→St→Prop}{l:List I}{env:A9}{σ:Aj}
theorem I7{id:Id}{e g:A5}(h:∀p∈σ,p.1≠id):over [(id,e)] [(id,g)] ((id,e)::σ)=(id,g)::σ:=by
 have:List.filter (λp:Id×A5=>(lk [(id,e)] p.1).isNone) σ=σ:=by rw[AzF];intro p hp;have:=h p hp;simp[lk,AfT this]
 unfold over;rw[List.filter_cons_of_neg (by simp[lk]),this];rfl
theorem MC{f:FuncId}{vs:List V}{v:V}{id:Id}{e j:A5}(h:Al P W0 f vs [(id,e)] v [(id,j)])(g:∀p∈σ,p.1≠id)
  (o:J P W0 ep live Q l ((d,v)::env) ((id,j)::σ)):Im P W0 ep live Q f vs l d env ((id,e)::σ):=by
 refine Bw h (λi y q=>?_) (by rw[I7 g];exact o);simp only[lk] at q⊢;grind
end
end Go.Ir
end
namespace Go.Ir
open Go.Proofs
variable(W0:World)
def Jj(n:Int):Bool:=decide (n>=97)&&decide (n<=122)||decide (n>=65)&&decide (n<=90)||decide (n>=48)&&decide (n<=57)
theorem aU(n:Int):Al Tryz.prog W0 97 [.i .u8 n] [] (.b (Jj n)) []:=by
 refine Ae (vs:=[.b (Jj n)]) Aqt (by simp) (by simp) λn0 e=>?_;clear e;simp only[push_cast,reduceEqDiff]
 repeat' (first|(((first|apply Ab|apply Ag|apply Ah)<;>intro _h)<;>(simp only[push_cast,reduceEqDiff,_h];try (have _g:=_h;simp at _g)))|intro _)
 all_goals (first|(refine Af ?_;simp[Jj, *]<;>(intros;omega);done)|(refine Ad ?_;simp[push_cast,Jj, *];done)|skip)
def Dc(n:Int):Bool:=decide (n>=7)&&decide (n<=9)
theorem TE(n:Int):Al Tryz.prog W0 79 [.i .i64 n] [] (.b (Dc n)) []:=by
 refine Ae (vs:=[.b (Dc n)]) ArJ (by simp) (by simp) λn0 e=>?_;clear e;simp only[push_cast,reduceEqDiff]
 repeat' (first|(((first|apply Ab|apply Ag|apply Ah)<;>intro _h)<;>(simp only[push_cast,reduceEqDiff,_h];try (have _g:=_h;simp at _g)))|intro _)
 all_goals (first|(refine Af ?_;simp[Dc, *]<;>(intros;omega);done)|(refine Ad ?_;simp[push_cast,Dc, *];done)|skip)
def PY(n:Int):Bool:=n==123||n==125||n==60||n==62||n==35||n==92
def J1(s:Aa):Bool:=s==[122,101,114,111]||s==[111,110,101]||s==[116,119,111]||s==[102,101,119]||s==[109,97,110,121]||s==[111,116,104,101,114]
def ME(n:Int):Bool:=decide (n>=97)&&decide (n<=122)
def Mm(n:Int):Bool:=Jj n||n==95||n==45
def Lq(f:Int->Bool):Aa->Bool
 | []=>true
 | c::r=>f c.toNat&&Lq f r
def De:Aa->Bool
 | []=>false
 | c::r=>decide (((c::r).length:Int)<=40)&&ME c.toNat&&Lq Mm (c::r)
theorem Gp(s:Aa)(r:s.length<AJ):Al Tryz.prog W0 62 [.s s] [] (.b (De s)) []:=by
 generalize hS:De s=S;refine Ae (vs:=[.b S]) Ap7 (by simp) (by simp) λn0 o=>?_;clear o;simp only[push_cast,seval,reduceEqDiff];cases s with
 | nil=>
  simp only[push_cast,seval,reduceEqDiff]
  repeat' (first|(((first|apply Ab|apply Ag|apply Ah)<;>intro _h)<;>(simp only[push_cast,seval,reduceEqDiff,_h];try (have _g:=_h;simp at _g)))|intro _)
  all_goals exact Af (by simp[get,<-hS,De])
 | cons e h=>
  unfold De at hS;simp only at hS;simp only[push_cast,seval,reduceEqDiff]
  repeat' (first|(((first|apply Ab|apply Ag|apply Ah)<;>intro _h)<;>(simp only[push_cast,seval,reduceEqDiff,_h];try (have _g:=_h;simp at _g)))|intro _)
  all_goals (first|(refine Af ?_;simp[get,<-hS,ME, *]<;>(intros;omega);done)|(refine Ad ?_;simp[push_cast,get,<-hS,ME, *];done)|skip)
  have p:(decide (((e::h).length:Int)<=40)&&ME e.toNat)=true:=by simp[ME];omega
  rw[p,Au4] at hS;refine Am (e::h).length (Inv:=λm st=>∃dn rest n,e::h=dn++rest/\m=rest.length/\Lq Mm rest=S/\st=⟨[(0,.s (e::h)),(22,.i .i64 (e::h).length),(23,.i .i64 dn.length)],[],n⟩) ⟨_,Ak.refl,[],_,_,rfl,rfl,hS,by simp;rfl⟩ ?_;clear hS;rintro m _ ⟨dn,rest,n,j,rfl,g,rfl⟩;cases rest with
  | nil=>
   simp only[push_cast,seval,reduceEqDiff,j]
   repeat' (first|(((first|apply Ab|apply Ag|apply Ah)<;>intro _h)<;>(simp only[push_cast,seval,reduceEqDiff,_h];try (have _g:=_h;simp at _g)))|intro _)
   all_goals (first|(refine Af ?_;simp[get,<-g,Lq, *]<;>(intros;omega);done)|(refine Ad ?_;simp[push_cast,get,<-g,Lq, *];done)|skip)
  | cons c rest=>
   have q:=AM j;simp only[push_cast,seval,reduceEqDiff,j,Ka c (dn:=dn) (by omega)];have _h:=trivial;repeat' (first|(first|((first|apply Ab|apply Ag|apply Ah)<;>intro _h)|refine Ac (aU W0 _) ?_)<;>(simp only[push_cast,seval,reduceEqDiff,_h,j,Ka c (dn:=dn) (by omega)];try (have _g:=_h;simp at _g))|intro _)
   all_goals (first|(refine Af ?_;simp[get,<-g,Lq,Mm, *]<;>(intros;omega);done)|(refine Ad ?_;simp[push_cast,get,<-g,Lq,Mm, *];done)|skip)
   all_goals (first|(refine⟨_,_,AzS _,Ak.refl,dn++[c],rest,_,?_,rfl,?_,rfl⟩<;>first|rfl|assumption|(simp[*];done)|(simp[<-g,Lq,Mm, *]<;>(intros;omega);done))|skip)
def R2(n:Int):Bool:=decide (n>=97)&&decide (n<=122)||decide (n>=65)&&decide (n<=90)
def E6(s:Aa):Bool:=Lq R2 s&&(decide ((s.length:Int)>=1)&&decide ((s.length:Int)<=40))
end Go.Ir

namespace Go.Ir
variable{P:Program}{W0:World}{nt n:Nat}{Q:Exit→St→Prop}{env:A9}{σ:Aj}
def Aen(e sz:Nat)(g:Bool):IC:=.ops [o1 4 (.mv (ci 0))] [0,1] []
def AeW(e sz:Nat)(g:Bool):IC:=.ops [m1 6 0,o1 7 (.lenL (.t 6)),o1 8 (.mv (ci 0))] [0,1,7,8] []
def AdF(e sz:Nat)(g:Bool):IC:=.ops [o1 9 (.bin .lss (.t 8) (.t 7))] [0,1,7,8,9] []
def jT(e sz:Nat)(g:Bool):IC:=.cond (.t 9) .skip (.exit 0)
def s9(e sz:Nat)(g:Bool):IC:=.ops [m1 10 8,m1 5 10] [0,1,5,7,8] []
def nB(e sz:Nat)(g:Bool):IC:=.ops [m1 11 1,m1 12 0,m1 13 5,o1 14 (.iaddr (.t 12) (.t 13) e sz),o1 15 (.load (.t 14) sz g),o1 16 (.callvs (.t 11) [(.t 15)])] [0,1,5,7,8,16] []
def cT(e sz:Nat)(g:Bool):IC:=.ops [m1 17 5,m1 4 17] [4] []
def gN(e sz:Nat)(g:Bool):IC:=.seq (cT e sz g) .ret
def nZ(e sz:Nat)(g:Bool):IC:=.cond (.t 16) (gN e sz g) .skip
def rG(e sz:Nat)(g:Bool):IC:=.seq (nB e sz g) (nZ e sz g)
def jQ(e sz:Nat)(g:Bool):IC:=.seq (s9 e sz g) (rG e sz g)
def sL(e sz:Nat)(g:Bool):IC:=.block 1 (jQ e sz g)
def cE(e sz:Nat)(g:Bool):IC:=.ops [o1 18 (.bin .add (.t 8) (ci 1)),m1 8 18] [0,1,7,8] []
def jP(e sz:Nat)(g:Bool):IC:=.seq (sL e sz g) (cE e sz g)
def AfE(e sz:Nat)(g:Bool):IC:=.seq (jT e sz g) (jP e sz g)
def Aef(e sz:Nat)(g:Bool):IC:=.seq (AdF e sz g) (AfE e sz g)
def Aet(e sz:Nat)(g:Bool):IC:=.loop (Aef e sz g)
def AdB(e sz:Nat)(g:Bool):IC:=.block 0 (Aet e sz g)
def Ael(e sz:Nat)(g:Bool):IC:=.seq (AeW e sz g) (AdB e sz g)
def t7(e sz:Nat)(g:Bool):IC:=.ops [o1 4 (.mv (ci (-1)))] [4] []
def vW(e sz:Nat)(g:Bool):IC:=.seq (t7 e sz g) .ret
def AeS(e sz:Nat)(g:Bool):IC:=.seq (Ael e sz g) (vW e sz g)
def M5(e sz:Nat)(g:Bool):IC:=.seq (Aen e sz g) (AeS e sz g)
def ZS:List R:=[.t 4]
@[push_cast]def Avv(e sz:Nat)(g:Bool):=AL (Aen.eq_1 e sz g)
@[push_cast]def AuD(e sz:Nat)(g:Bool):=AL (AeW.eq_1 e sz g)
@[push_cast]def Av9(e sz:Nat)(g:Bool):=AL (AdF.eq_1 e sz g)
@[push_cast]def AsV(e sz:Nat)(g:Bool):=AL (jT.eq_1 e sz g)
@[push_cast]def Atb(e sz:Nat)(g:Bool):=AL (s9.eq_1 e sz g)
@[push_cast]def AsP(e sz:Nat)(g:Bool):=AL (nB.eq_1 e sz g)
@[push_cast]def Att(e sz:Nat)(g:Bool):=AL (cT.eq_1 e sz g)
@[push_cast]def Atm(e sz:Nat)(g:Bool):=AL (gN.eq_1 e sz g)
@[push_cast]def Ati(e sz:Nat)(g:Bool):=AL (nZ.eq_1 e sz g)
@[push_cast]def Ath(e sz:Nat)(g:Bool):=AL (rG.eq_1 e sz g)
@[push_cast]def Atw(e sz:Nat)(g:Bool):=AL (jQ.eq_1 e sz g)
@[push_cast]def AsU(e sz:Nat)(g:Bool):=AL (sL.eq_1 e sz g)
@[push_cast]def Atk(e sz:Nat)(g:Bool):=AL (cE.eq_1 e sz g)
@[push_cast]def Atl(e sz:Nat)(g:Bool):=AL (jP.eq_1 e sz g)
@[push_cast]def AvM(e sz:Nat)(g:Bool):=AL (AfE.eq_1 e sz g)
@[push_cast]def AtF(e sz:Nat)(g:Bool):=AL (Aef.eq_1 e sz g)
@[push_cast]def AtJ(e sz:Nat)(g:Bool):=AL (Aet.eq_1 e sz g)
@[push_cast]def AtI(e sz:Nat)(g:Bool):=AL (AdB.eq_1 e sz g)
@[push_cast]def At2(e sz:Nat)(g:Bool):=AL (Ael.eq_1 e sz g)
@[push_cast]def AsR(e sz:Nat)(g:Bool):=AL (t7.eq_1 e sz g)
@[push_cast]def Atn(e sz:Nat)(g:Bool):=AL (vW.eq_1 e sz g)
@[push_cast]def Avw(e sz:Nat)(g:Bool):=AL (AeS.eq_1 e sz g)
@[push_cast]def AtU(e sz:Nat)(g:Bool):=AL (M5.eq_1 e sz g)
def Ad6(g:Nat):IC:=.ops [o1 4 (.mv (.c (.b false)))] [0,1] []
def Adk(g:Nat):IC:=.ops [m1 5 0,m1 6 1,o1 7 (.calls g [(.t 5),(.t 6)]),o1 8 (.bin .geq (.t 7) (ci 0)),m1 4 8] [4] []
def Afv(g:Nat):IC:=.seq (Adk g) .ret
def NB(g:Nat):IC:=.seq (Ad6 g) (Afv g)
def iE:List R:=[.t 4]
@[push_cast]def AvI(g:Nat):=AL (Ad6.eq_1 g)
@[push_cast]def Auv(g:Nat):=AL (Adk.eq_1 g)
@[push_cast]def At8(g:Nat):=AL (Afv.eq_1 g)
@[push_cast]def AvJ(g:Nat):=AL (NB.eq_1 g)
def AdO(e:Nat):IC:=.ops [o1 4 (.mv (ci 0))] [0,1] []
def AdG(e:Nat):IC:=.ops [m1 6 0,o1 7 (.lenL (.t 6)),o1 8 (.mv (ci 0))] [0,1,7,8] []
def Aec(e:Nat):IC:=.ops [o1 9 (.bin .lss (.t 8) (.t 7))] [0,1,7,8,9] []
def nN(e:Nat):IC:=.cond (.t 9) .skip (.exit 0)
def gU(e:Nat):IC:=.ops [m1 10 8,m1 5 10] [0,1,5,7,8] []
def eF(e:Nat):IC:=.ops [m1 11 1,m1 12 0,m1 13 5,o1 14 (.iaddr (.t 12) (.t 13) e 1),o1 15 (.load (.t 14) 1 false),o1 16 (.bin .eql (.t 11) (.t 15))] [0,1,5,7,8,16] []
def qI(e:Nat):IC:=.ops [m1 17 5,m1 4 17] [4] []
def iU(e:Nat):IC:=.seq (qI e) .ret
def nK(e:Nat):IC:=.cond (.t 16) (iU e) .skip
def lO(e:Nat):IC:=.seq (eF e) (nK e)
def lV(e:Nat):IC:=.seq (gU e) (lO e)
def vX(e:Nat):IC:=.block 1 (lV e)
def kO(e:Nat):IC:=.ops [o1 18 (.bin .add (.t 8) (ci 1)),m1 8 18] [0,1,7,8] []
def kE(e:Nat):IC:=.seq (vX e) (kO e)
def Afq(e:Nat):IC:=.seq (nN e) (kE e)
def Afh(e:Nat):IC:=.seq (Aec e) (Afq e)
def Adv(e:Nat):IC:=.loop (Afh e)
def AdW(e:Nat):IC:=.block 0 (Adv e)
def Ae6(e:Nat):IC:=.seq (AdG e) (AdW e)
def jK(e:Nat):IC:=.ops [o1 4 (.mv (ci (-1)))] [4] []
def mS(e:Nat):IC:=.seq (jK e) .ret
def Afl(e:Nat):IC:=.seq (Ae6 e) (mS e)
def RC(e:Nat):IC:=.seq (AdO e) (Afl e)
def z8:List R:=[.t 4]
@[push_cast]def Av7(e:Nat):=AL (AdO.eq_1 e)
@[push_cast]def AtH(e:Nat):=AL (AdG.eq_1 e)
@[push_cast]def AvL(e:Nat):=AL (Aec.eq_1 e)
@[push_cast]def Atj(e:Nat):=AL (nN.eq_1 e)
@[push_cast]def AsS(e:Nat):=AL (gU.eq_1 e)
@[push_cast]def AsW(e:Nat):=AL (eF.eq_1 e)
@[push_cast]def Atu(e:Nat):=AL (qI.eq_1 e)
@[push_cast]def AsO(e:Nat):=AL (iU.eq_1 e)
@[push_cast]def AsZ(e:Nat):=AL (nK.eq_1 e)
@[push_cast]def Ato(e:Nat):=AL (lO.eq_1 e)
@[push_cast]def Atv(e:Nat):=AL (lV.eq_1 e)
@[push_cast]def Ate(e:Nat):=AL (vX.eq_1 e)
@[push_cast]def Atf(e:Nat):=AL (kO.eq_1 e)
@[push_cast]def Atx(e:Nat):=AL (kE.eq_1 e)
@[push_cast]def Avs(e:Nat):=AL (Afq.eq_1 e)
@[push_cast]def Aub(e:Nat):=AL (Afh.eq_1 e)
@[push_cast]def Avk(e:Nat):=AL (Adv.eq_1 e)
@[push_cast]def Aug(e:Nat):=AL (AdW.eq_1 e)
@[push_cast]def AuU(e:Nat):=AL (Ae6.eq_1 e)
@[push_cast]def Atr(e:Nat):=AL (jK.eq_1 e)
@[push_cast]def Aty(e:Nat):=AL (mS.eq_1 e)
@[push_cast]def Av5(e:Nat):=AL (Afl.eq_1 e)
@[push_cast]def Avr(e:Nat):=AL (RC.eq_1 e)
def AdC(g:Nat):IC:=.ops [o1 4 (.mv (.c (.b false)))] [0,1] []
def AdU(g:Nat):IC:=.ops [m1 5 0,m1 6 1,o1 7 (.call g [(.t 5),(.t 6)]),o1 8 (.bin .geq (.t 7) (ci 0)),m1 4 8] [4] []
def AeK(g:Nat):IC:=.seq (AdU g) .ret
def Xr(g:Nat):IC:=.seq (AdC g) (AeK g)
def Alu:List R:=[.t 4]
@[push_cast]def Auc(g:Nat):=AL (AdC.eq_1 g)
@[push_cast]def Av0(g:Nat):=AL (AdU.eq_1 g)
@[push_cast]def AtQ(g:Nat):=AL (AeK.eq_1 g)
@[push_cast]def Aue(g:Nat):=AL (Xr.eq_1 g)
end Go.Ir

namespace Go.Ir
open Go.Proofs
variable{P:Program}(W0:World){α:Type}
def B7(p:α->Bool):List α->Int
 | []=>-1
 | x::xs=>bif p x then 0 else if B7 p xs<0 then -1 else B7 p xs+1
theorem Gi(p:α->Bool):∀xs,decide (B7 p xs>=0)=xs.any p
 | []=>by simp[B7]
 | x::xs=>by
  have e:=Gi p xs;rw[Az3,<-e];rcases Ay4 (p x) with hp|hp
  .simp[B7,hp]
  .simp only[B7,hp,cond_false,AxP];grind
theorem Gf(p:α->Bool):∀xs,-1<=B7 p xs
 | []=>by simp[B7]
 | x::xs=>by have e:=Gf p xs;simp only[B7];cases p x<;>simp;split<;>omega
def Rk(e:Bool)(sz:Nat)(v:V):Prop:=(cells v).length=sz/\sub v 0 sz e=some v
theorem Ja{sz:Nat}{cs:List V}(h:cs.length=sz):Rk true sz (.agg cs):=by subst h;simp[Rk,cells,sub,Xf]
theorem Rk.get{e:Bool}{sz:Nat}{v:V}(h:Rk e sz v):(if e=true then some (V.agg (cells v)) else(cells v)[0]?)=some v:=by have:=h.2;unfold sub at this;simpa[h.1,Xf] using this
theorem nD{v:V}(h:cells v=[v]):Rk false 1 v:=by simp[Rk,h,sub]
theorem CE{f e sz:Nat}{t:Bool}(q:Av P f 19 (M5 e sz t) ZS=true)(enc:α->V)(xs:List α)(p:α->Bool)(g:FuncId)(first j:List V)(σ:Aj)
  (u:∀x∈xs,Rk t sz (enc x))(A:∀x∈xs,Al P W0 g (first++[enc x]++j) σ (.b (p x)) σ)(w:xs.length<2^62) :
  Al P W0 f [.sl (xs.map enc),.fn g first j] σ (.i .i64 (B7 p xs)) σ:=by
 generalize hS:B7 p xs=S;refine Ae (vs:=[.i .i64 S]) q (by simp) (λ_ h=>h) λn0 C=>?_;simp only[push_cast,reduceEqDiff];intro _ _;refine Am xs.length (Inv:=λm st=>∃dn rest n,xs=dn++rest/\m=rest.length/\(if B7 p rest<0 then -1 else B7 p rest+dn.length)=S/\st=⟨[(0,.sl (xs.map enc)),(1,.fn g first j),(7,.i .i64 xs.length),(8,.i .i64 dn.length)],σ,n⟩) ⟨_,Ak.refl,[],_,_,rfl,rfl,?_,rfl⟩ ?_
 .have:=Gf p xs;rw[<-hS];simp;omega
 clear hS;rintro m _ ⟨dn,rest,n,o,rfl,r,rfl⟩;cases rest with
 | nil=>simp only[push_cast,reduceEqDiff,o];intro _ _;refine Bn ?_ (λ_ _ h=>h);rw[<-r];simp[B7,get]
 | cons x rest=>
  have D:=AM o;have s:x∈xs:=by rw[o];simp
  have y:=(u x s).1;have z:=(u x s).get;simp only[push_cast,reduceEqDiff,o,y,z];intro _ _;refine Bw (σi:=σ) (σo:=σ) (A x s) (λ_ _ h=>h) ?_;rw[C7];simp only[push_cast,reduceEqDiff];intro _
  ((first|apply Ab|apply Ag|apply Ah)<;>intro hp)<;>simp only[push_cast,reduceEqDiff,Ai x (dn:=dn) (by omega)]
  .intro _;refine Bn ?_ (λ_ _ h=>h);rw[<-r];simp[B7,hp,get]
  .intro _;refine⟨_,_,AzS _,Ak.refl,dn++[x],rest,_,by simp ,rfl,?_,rfl⟩;rw[<-r];have B:=Gf p rest;simp only[B7,hp,cond_false];grind
theorem C3{f g:Nat}(e:Av P f 9 (NB g) iE=true)(v w:V)(i:Int)(σ:Aj)(h:Al P W0 g [v,w] σ (.i .i64 i) σ):Al P W0 f [v,w] σ (.b (decide (i>=0))) σ:=by refine Ae (vs:=[.b (decide (i>=0))]) e (by simp) (λ_ h=>h) λn0 j=>?_;simp only[push_cast];intro _;refine Bw (σi:=σ) (σo:=σ) h (λ_ _ h=>h) ?_;rw[C7];simp only[push_cast];intro _;exact Bn (by simp[get]) (λ_ _ h=>h)
theorem vU{n d:Nat}{e x:A5}{id:Id}{σ:Aj}(g:id.1<n)(h:lk σ id=some e):lk (((n,d),x)::σ) id=some e:=by simp only[lk];grind
theorem HV{f e:Nat}(g:Av P f 19 (RC e) z8=true)(xs:List Aa)(v:Aa)(o:xs.length<2^62):Al P W0 f [.sl (xs.map V.s),.s v] [] (.i .i64 (B7 (λx=>v==x) xs)) []:=by
 generalize hS:B7 (λx=>v==x) xs=S;refine Ae (vs:=[.i .i64 S]) g (by simp) (by simp) λn0 q=>?_;simp only[push_cast,reduceEqDiff];intro _ _;refine Am xs.length (Inv:=λm st=>∃dn rest n,xs=dn++rest/\m=rest.length/\(if B7 (λx=>v==x) rest<0 then -1 else B7 (λx=>v==x) rest+dn.length)=S/\st=⟨[(0,.sl (xs.map V.s)),(1,.s v),(7,.i .i64 xs.length),(8,.i .i64 dn.length)],[],n⟩) ⟨_,Ak.refl,[],_,_,rfl,rfl,?_,rfl⟩ ?_
 .have:=Gf (λx=>v==x) xs;rw[<-hS];simp;omega
 clear hS;rintro m _ ⟨dn,rest,n,j,rfl,h,rfl⟩;cases rest with
 | nil=>simp only[push_cast,reduceEqDiff,j];intro _ _;refine Af ?_;rw[<-h];simp[B7,get]
 | cons x rest=>
  have r:=AM j;simp only[push_cast,reduceEqDiff,j];intro _ _ _
  ((first|apply Ab|apply Ag|apply Ah)<;>intro hp)<;>simp only[push_cast,reduceEqDiff,Ai x (dn:=dn) (by omega)]
  .intro _;refine Af ?_;rw[<-h];simp[B7,hp,get]
  .intro _;refine⟨_,_,AzS _,Ak.refl,dn++[x],rest,_,by simp ,rfl,?_,rfl⟩;rw[<-h];have p:=Gf (λx=>v==x) rest;simp only[B7,hp,cond_false];grind
theorem T3{f e:Nat}(g:Av P f 19 (RC e) z8=true)(xs:List Int)(v:Int)(o:xs.length<2^62):Al P W0 f [.sl (xs.map (V.i .i64)),.i .i64 v] [] (.i .i64 (B7 (λx=>v==x) xs)) []:=by
 generalize hS:B7 (λx=>v==x) xs=S;refine Ae (vs:=[.i .i64 S]) g (by simp) (by simp) λn0 q=>?_;simp only[push_cast,reduceEqDiff];intro _ _;refine Am xs.length (Inv:=λm st=>∃dn rest n,xs=dn++rest/\m=rest.length/\(if B7 (λx=>v==x) rest<0 then -1 else B7 (λx=>v==x) rest+dn.length)=S/\st=⟨[(0,.sl (xs.map (V.i .i64))),(1,.i .i64 v),(7,.i .i64 xs.length),(8,.i .i64 dn.length)],[],n⟩) ⟨_,Ak.refl,[],_,_,rfl,rfl,?_,rfl⟩ ?_
 .have:=Gf (λx=>v==x) xs;rw[<-hS];simp;omega
 clear hS;rintro m _ ⟨dn,rest,n,j,rfl,h,rfl⟩;cases rest with
 | nil=>simp only[push_cast,reduceEqDiff,j];intro _ _;refine Af ?_;rw[<-h];simp[B7,get]
 | cons x rest=>
  have r:=AM j;simp only[push_cast,reduceEqDiff,j];intro _ _ _
  ((first|apply Ab|apply Ag|apply Ah)<;>intro hp)<;>simp only[push_cast,reduceEqDiff,Ai x (dn:=dn) (by omega)]
  .intro _;refine Af ?_;rw[<-h];simp[B7,hp,get]
  .intro _;refine⟨_,_,AzS _,Ak.refl,dn++[x],rest,_,by simp ,rfl,?_,rfl⟩;rw[<-h];have p:=Gf (λx=>v==x) rest;simp only[B7,hp,cond_false];grind
theorem HB{f g:Nat}(e:Av P f 9 (Xr g) Alu=true)(v w:V)(i:Int)(h:Al P W0 g [v,w] [] (.i .i64 i) []):Al P W0 f [v,w] [] (.b (decide (i>=0))) []:=by
 refine Ae (vs:=[.b (decide (i>=0))]) e (by simp) (by simp) λn0 j=>?_;simp only[push_cast];have _h:=trivial;repeat' (first|(first|((first|apply Ab|apply Ag|apply Ah)<;>intro _h)|refine Ac h ?_)<;>(simp only[push_cast];try (have _g:=_h;simp at _g))|intro _)
 all_goals (first|(refine Af ?_;simp[get]<;>(intros;omega);done)|(refine Ad ?_;simp[push_cast,get];done)|skip)
end Go.Ir
section
namespace Go.Ir
open Go.Proofs
variable{P:Program}(W0:World){α:Type}
section
variable{P:Program}{W0:World}{nt n:Nat}{Q:Exit→St→Prop}{env:A9}{σ:Aj}
@[push_cast] def Afz(g:Nat):List I:=[⟨some 4,.mv (.c (.b false)),none,[]⟩]
def u0(g:Nat):IC:=.ops (Afz g) [0,1] []
@[push_cast] theorem AtT{g:Nat}:aW P W0 nt (u0 g) Q ⟨env,σ,n⟩=J P W0 n [0,1] Q (Afz g) env σ:=rfl
@[push_cast] def Af9(g:Nat):List I:=[⟨some 5,.mv (.t 0),none,[]⟩,
 ⟨some 6,.mv (.t 1),none,[]⟩,
 ⟨some 7,.calls g [(.t 5),(.t 6)],none,[]⟩,
 ⟨some 8,.bin .geq (.t 7) (.c (.i .i64 0)),none,[]⟩,
 ⟨some 4,.mv (.t 8),none,[]⟩]
def qX(g:Nat):IC:=.ops (Af9 g) [4] []
@[push_cast] theorem At9{g:Nat}:aW P W0 nt (qX g) Q ⟨env,σ,n⟩=J P W0 n [4] Q (Af9 g) env σ:=rfl
def pQ(g:Nat):IC:=.seq (qX g) .ret
@[push_cast] theorem Avp{g:Nat}:aW P W0 nt (pQ g) Q ⟨env,σ,n⟩=aW P W0 nt (qX g) (N7 P W0 nt .ret Q) ⟨env,σ,n⟩:=rfl
def As3(g:Nat):IC:=.seq (u0 g) (pQ g)
@[push_cast] theorem Aui{g:Nat}:aW P W0 nt (As3 g) Q ⟨env,σ,n⟩=aW P W0 nt (u0 g) (N7 P W0 nt (pQ g) Q) ⟨env,σ,n⟩:=rfl
end
end Go.Ir
end
namespace Go.Ir
open Go.Proofs
variable{P:Program}{W0:World}{nt n:Nat}{Q:Exit→St→Prop}{env:A9}{σ:Aj}
def rL:IC:=sQ (.block 3 (oP [m1 21 3,m1 22 0,m1 23 4,iA 24 22 23 172 1,l1 25 24,m1 26 5,iA 27 25 26 175 4,fA 28 27 3,l1 29 28,nL 30 29,o1 31 (.bin .add (ci 1) (.t 30)),bT 32 .add 21 31,m1 3 32] [0,3,4,5])) (oP [m1 19 5,bZ 20 .add 19 1,m1 5 20] [0,3,4,5])
def qV:IC:=sQ (.block 1 (sQ (oS [mZ 5 0] [0,3,4,5] (.block 2 (.loop (sQ (oS [m1 12 5,m1 13 0,m1 14 4,iA 15 13 14 172 1,l1 16 15,nL 17 16,bT 18 .lss 12 17] [0,3,4,5,18] (cD 18 .skip (.exit 2))) rL)))) (oS [m1 33 3,bZ 34 .gtr 33 80] [0,3,4,34] (cD 34 (oR [mC 2 (.b false)] [2]) .skip)))) (oP [m1 10 4,bZ 11 .add 10 1,m1 4 11] [0,3,4])
def AfG:IC:=oS [mZ 3 0] [0,3] (sQ (oS [mZ 4 0] [0,3,4] (.block 0 (.loop (sQ (oS [m1 6 4,m1 7 0,nL 8 7,bT 9 .lss 6 8] [0,3,4,9] (cD 9 .skip (.exit 0))) qV)))) (oR [m1 35 0,nL 36 35,bZ 37 .leq 36 30,m1 2 37] [2]))
def Afg:IC:=oS [mC 2 (.b false)] [0] AfG
@[push_cast]def At4:List R:=[.t 2]
@[push_cast]def AyN:=Aq rL.eq_1<|Aq qV.eq_1<|Aq AfG.eq_1<|AL Afg.eq_1
theorem AsC:Av Tryz.prog 53 38 Afg At4=true:=by kernel_rfl
end Go.Ir
section
namespace Go.Ir
open Go.Proofs
variable(W0:World)
mutual
def Aw.solid:Aw->Bool
 | ⟨k,_,_,_,cs,ps⟩=>!Dc k&&KX ps&&V4 cs
def KX:List Aw->Bool
 | []=>true
 | p::ps=>p.solid&&KX ps
def V4:List (Aa×List Aw)->Bool
 | []=>true
 | (_,ps)::cs=>KX ps&&V4 cs
end
end Go.Ir
end
namespace Go.Ir
open Go.Proofs
variable(W0:World)
end Go.Ir
section
namespace Go.Ir
open Go.Proofs
variable(W0:World)
mutual
def Aw.depth:Aw->Nat
 | ⟨_,_,_,_,cs,ps⟩=>max (max 1 (1+O9 ps)) (VI cs)
def O9:List Aw->Nat
 | []=>0
 | p::ps=>max p.depth (O9 ps)
def VI:List (Aa×List Aw)->Nat
 | []=>0
 | (_,ps)::cs=>max (1+O9 ps) (VI cs)
end
mutual
def Aw.size:Aw->Nat
 | ⟨_,t,_,_,cs,ps⟩=>1+P9 ps+t.length / 20+SQ cs
def P9:List Aw->Nat
 | []=>0
 | p::ps=>p.size+P9 ps
def SQ:List (Aa×List Aw)->Nat
 | []=>0
 | (_,ps)::cs=>1+P9 ps+SQ cs
end
theorem Aw.size_eq(p:Aw):p.size=1+P9 p.parts+p.text.length / 20+SQ p.cases:=by cases p;simp[Aw.size]
end Go.Ir
end
namespace Go.Ir
open Go.Proofs
variable(W0:World)
end Go.Ir

namespace Go.Ir
structure FR where
 lo:Int
 hi:Int
structure CF where
 op:Int
 mod:Int
 neg:Bool
 spans:List FR
structure AF where
 cls:Aa
 cond:List (List CF)
def FR.enc(s:FR):V:=.agg [.i .i64 s.lo,.i .i64 s.hi]
def CF.enc(r:CF):V:=.agg [.i .i64 r.op,.i .i64 r.mod,.b r.neg,.sl (r.spans.map FR.enc)]
def EQ(l:List CF):V:=.sl (l.map CF.enc)
def AF.enc(r:AF):V:=.agg [.s r.cls,.sl (r.cond.map EQ)]
@[push_cast] theorem FR.enc_eq(s:FR):s.enc=.agg [.i .i64 s.lo,.i .i64 s.hi]:=rfl
@[push_cast] theorem CF.enc_eq(r:CF):r.enc=.agg [.i .i64 r.op,.i .i64 r.mod,.b r.neg,.sl (r.spans.map FR.enc)]:=rfl
@[push_cast] theorem QH(l:List CF):EQ l=.sl (l.map CF.enc):=rfl
@[push_cast] theorem AF.enc_eq(r:AF):r.enc=.agg [.s r.cls,.sl (r.cond.map EQ)]:=rfl
def CF.wt(r:CF):Nat:=1+r.spans.length
def Cx:List CF->Nat
 | []=>1
 | r::e=>r.wt+Cx e
def Dh:List (List CF)->Nat
 | []=>0
 | r::e=>Cx r+Dh e
def AF.wt(r:AF):Nat:=1+r.cls.length+Dh r.cond
def A7:List AF->Nat
 | []=>0
 | r::e=>r.wt+A7 e
theorem Ib{l:List CF}{r:CF}(h:r∈l):r.wt<=Cx l:=by
 induction l with
 | nil=>cases h
 | cons d l e=>rw[Cx];grind
theorem Ik{l:List (List CF)}{r:List CF}(h:r∈l):Cx r<=Dh l:=by
 induction l with
 | nil=>cases h
 | cons d l e=>rw[Dh];grind
theorem EV{l:List AF}{r:AF}(h:r∈l):r.wt<=A7 l:=by
 induction l with
 | nil=>cases h
 | cons d l e=>rw[A7];grind
theorem ES(l:List CF):l.length<Cx l:=by
 induction l with
 | nil=>simp[Cx]
 | cons d l e=>rw[Cx,AiL,CF.wt];omega
theorem HY(l:List (List CF)):l.length<=Dh l:=by
 induction l with
 | nil=>simp
 | cons d l e=>rw[Dh,AiL];have:=ES d;omega
theorem Fl(l:List AF):l.length<=A7 l:=by
 induction l with
 | nil=>simp
 | cons d l e=>rw[A7,AiL,AF.wt];omega
structure Loc where
 tag:Aa
 parent:Aa
 dir:Aa
 card:List AF
 ord:List AF
 rest:List V
def Loc.enc(l:Loc):V:=.agg (.s l.tag :: .s l.parent :: .s l.dir :: .sl (l.card.map AF.enc) :: .sl (l.ord.map AF.enc)::l.rest)
@[push_cast] theorem Loc.enc_eq(l:Loc):l.enc=.agg (.s l.tag :: .s l.parent :: .s l.dir :: .sl (l.card.map AF.enc) :: .sl (l.ord.map AF.enc)::l.rest):=rfl
end Go.Ir
section
namespace Go.Ir
structure CJ where
 style:Aa
 two:Aa
 start:Aa
 mid:Aa
 fin:Aa
structure D6 where
 unit:Aa
 cls:Aa
 pat:Aa
structure CO where
 skel:Aa
 pat:Aa
structure BR where
 tag:Aa
 parent:Aa
 dir:Aa
 card:List AF
 ord:List AF
 dec:Aa
 grp:Aa
 minus:Aa
 perc:Aa
 prim:Int
 sec:Int
 lists:List CJ
 units:List D6
 dates:List CO
 months:List Aa
 days:List Aa
def CJ.enc(x:CJ):V:=.agg [.s x.style,.s x.two,.s x.start,.s x.mid,.s x.fin]
def D6.enc(x:D6):V:=.agg [.s x.unit,.s x.cls,.s x.pat]
def CO.enc(x:CO):V:=.agg [.s x.skel,.s x.pat]
@[push_cast] theorem CJ.enc_eq(x:CJ):x.enc=.agg [.s x.style,.s x.two,.s x.start,.s x.mid,.s x.fin]:=rfl
@[push_cast] theorem D6.enc_eq(x:D6):x.enc=.agg [.s x.unit,.s x.cls,.s x.pat]:=rfl
@[push_cast] theorem CO.enc_eq(x:CO):x.enc=.agg [.s x.skel,.s x.pat]:=rfl
def BR.enc(l:BR):V:=.agg [.s l.tag,.s l.parent,.s l.dir,.sl (l.card.map AF.enc),.sl (l.ord.map AF.enc),.s l.dec,.s l.grp,.s l.minus,.s l.perc,.i .i64 l.prim,.i .i64 l.sec,.sl (l.lists.map CJ.enc),.sl (l.units.map D6.enc),.sl (l.dates.map CO.enc),.sl (l.months.map V.s),.sl (l.days.map V.s)]
@[push_cast] theorem BR.enc_eq(l:BR):l.enc=.agg [.s l.tag,.s l.parent,.s l.dir,.sl (l.card.map AF.enc),.sl (l.ord.map AF.enc),.s l.dec,.s l.grp,.s l.minus,.s l.perc,.i .i64 l.prim,.i .i64 l.sec,.sl (l.lists.map CJ.enc),.sl (l.units.map D6.enc),.sl (l.dates.map CO.enc),.sl (l.months.map V.s),.sl (l.days.map V.s)]:=rfl
def CJ.wt(x:CJ):Nat:=1+x.style.length+x.two.length+x.start.length+x.mid.length+x.fin.length
def D6.wt(x:D6):Nat:=1+x.unit.length+x.cls.length+x.pat.length
def CO.wt(x:CO):Nat:=1+x.skel.length+x.pat.length
def B5{α:Type}(f:α->Nat):List α->Nat
 | []=>0
 | x::l=>f x+B5 f l
theorem ET{α:Type}{f:α->Nat}(e:∀x,1<=f x)(l:List α):l.length<=B5 f l:=by
 induction l with
 | nil=>simp
 | cons d l g=>rw[B5,AiL];have:=e d;omega
def swt(s:Aa):Nat:=1+s.length
def BR.wt(l:BR):Nat:=1+l.tag.length+l.parent.length+l.dir.length+A7 l.card+A7 l.ord+l.dec.length+l.grp.length+l.minus.length+l.perc.length+B5 CJ.wt l.lists+B5 D6.wt l.units+B5 CO.wt l.dates+B5 swt l.months+B5 swt l.days
mutual
def Aw.bare:Aw->Bool
 | ⟨k,_,_,_,_,ps⟩=>(k==1||k==11)&&rU ps
def rU:List Aw->Bool
 | []=>true
 | p::ps=>p.bare&&rU ps
end
mutual
def Aw.out:Aw->Aa
 | ⟨k,t,e,_,_,ps⟩=>if k==1 then t else([60]++e++[62])++Ae1 ps++([60,47]++e++[62])
def Ae1:List Aw->Aa
 | []=>[]
 | p::ps=>p.out++Ae1 ps
end
end Go.Ir
end
namespace Go.Ir
def BZ(s:Aa):Bool:=s.all λc=>!(decide (c<48)||decide (c>57))
def Dw(s:Aa):Bool:=s.all λc=>c==48
def IM(s:Aa):Bool:=match s with
 | 45::_=>true
 | _=>false
def GL(s:Aa):Aa:=if IM s then s.tail else s
def AN(s:Aa):Aa:=(GL s).takeWhile (· != 46)
def OY(s:Aa):Aa:=(GL s).dropWhile (· != 46)
def Bo(s:Aa):Aa:=(OY s).tail
def l6(s:Aa):Bool:=match s[0]? with
 | some c=>(c.toNat:Int)==48
 | none=>false
def DI(s:Aa):Bool:=
 !(decide (((AN s).length:Int)<1)||decide (((AN s).length:Int)>15)||!BZ (AN s)||decide (((AN s).length:Int)>1)&&l6 (AN s))
  && !((!(OY s).isEmpty&&((Bo s).length:Int)==0)||decide (((Bo s).length:Int)>6)||!BZ (Bo s))&&(!IM s||!(Dw (AN s)&&Dw (Bo s)))
theorem Jg(s:Aa):GL s=AN s++OY s:=(List.takeWhile_append_dropWhile).symm
theorem RF(s:Aa):(GL s).length<=s.length:=by unfold GL;split<;>simp
theorem J7(s:Aa):(AN s).length<=s.length:=by have:=RF s;rw[Jg,AhT] at this;omega
theorem QD(s:Aa):(AN s).length+(Bo s).length<=s.length:=by have:=RF s;rw[Jg,AhT] at this;unfold Bo;grind
theorem Ab3{w t:Aa}{c:UInt8}(h:∀x∈w,(x !=c)=true):Lib.indexByte (w++c::t) c=w.length:=by
 induction w with
 | nil=>simp[Lib.indexByte]
 | cons x w g=>have i:=h x (by simp);have:=g (λy e=>h y (by simp[e]));simp only[Auh,Lib.indexByte,this];grind
theorem uU{w:Aa}{c:UInt8}(h:∀x∈w,(x !=c)=true):Lib.indexByte w c=-1:=by
 induction w with
 | nil=>simp[Lib.indexByte]
 | cons x w g=>have i:=h x (by simp);have:=g (λy e=>h y (by simp[e]));simp only[Lib.indexByte,this];grind
theorem Ng{α:Type}{p:α->Bool}(l:List α):∀x∈l.takeWhile p,p x=true:=by intro x e;exact Am3.1 List.all_takeWhile x e
theorem GR{α:Type}{p:α->Bool}{l t:List α}{c:α}(h:l.dropWhile p=c::t):p c=false:=by
 induction l with
 | nil=>simp at h
 | cons x l e=>rw[List.dropWhile_cons] at h;grind
theorem rM{α:Type}{p:α->Bool}{w r:List α}(h:∀x∈w,p x=true)(e:∀x∈r.head?,p x=false):(w++r).takeWhile p=w/\(w++r).dropWhile p=r:=by
 induction w with
 | nil=>
  cases r with
  | nil=>simp
  | cons x r=>simp_all
 | cons x w g=>simp_all
def AnA(d:Nat)(c:UInt8):Nat:=10*d+(c.toNat-48)
def LS(d:Nat)(s:Aa):Nat:=s.foldl AnA d
theorem fH(d:Nat):LS d []=d:=rfl
theorem Og(d:Nat)(c:UInt8)(s:Aa):LS d (c::s)=LS (10*d+(c.toNat-48)) s:=AvR ..
theorem Qu(s:Aa):∀d,BZ s=true->Lib.decFrom d s=some (LS d s):=by
 induction s with
 | nil=>intro d _;rw[fH,Lib.decFrom]
 | cons c s i=>
  intro d h;simp only[BZ,Azb,AzP] at h;have e:=h.1;simp[UInt8.lt_iff_toNat_lt] at e;have g:Lib.digitVal c=some (c.toNat-48):=by unfold Lib.digitVal;simp;omega
  rw[Lib.decFrom,g];simp only[Og];rw[Nat.mul_comm 10 d];exact i _ h.2
theorem tZ(s:Aa)(h:BZ s=true):Lib.atoi (48::s)=some (LS 0 s:Int):=by have:=Qu (48::s) 0 (by simpa[BZ] using h);simp[Lib.atoi,Lib.decNat,this,Og]
def Jd(s:Aa):Aa:=Lib.trimRightS s [48]
theorem Fs{α:Type}{p:α->Bool}{l:List α}:l.dropWhile p=[]↔∀x∈l,p x=true:=by
 induction l with
 | nil=>simp
 | cons x l e=>rw[List.dropWhile_cons];grind
theorem NX(s cs:Aa):(Lib.trimS s cs==[])=s.all (λc=>cs.contains c):=by
 rcases Ay4 (s.all (λc=>cs.contains c)) with h|h
 .rw[h];have:s.reverse.dropWhile (λc=>cs.contains c)=[]:=by rw[Fs];grind
  unfold Lib.trimS Lib.trimLeftS Lib.trimRightS;rw[this];rfl
 .rw[h];rw[List.all_eq_false] at h;obtain⟨x,j,hp⟩:=h;rw[beq_eq_false_iff_ne];intro e;unfold Lib.trimS Lib.trimLeftS Lib.trimRightS at e;rw[Fs] at e;cases g:s.reverse.dropWhile (λc=>cs.contains c) with
  | nil=>rw[Fs] at g;grind
  | cons d t=>have i:=GR g;grind
theorem OW(s:Aa):(Lib.trimS s [48,49,50,51,52,53,54,55,56,57]==[])=BZ s:=by rw[NX];unfold BZ;congr 1;funext c;rw[Ats];simp[UInt8.lt_iff_toNat_lt,<-AzC];omega
theorem TN(s:Aa):(Lib.trimS s [48]==[])=Dw s:=by rw[NX];unfold Dw;grind
theorem DP(s:Aa):Lib.hasPrefix s [45]=IM s:=by
 unfold Lib.hasPrefix IM;split
 .simp 
 .rename_i h;cases s with
  | nil=>simp 
  | cons c s=>simp only[List.isPrefixOf,Ax6,beq_eq_false_iff_ne];intro e;exact h s (by rw[<-e])
theorem EJ(s:Aa):Lib.trimPrefix s [45]=GL s:=by unfold Lib.trimPrefix GL;rw[DP];split<;>simp
theorem wG(s:Aa):∀x∈(OY s).head?,(x !=46)=false:=by
 intro x e;cases h:OY s with
 | nil=>rw[h] at e;simp at e
 | cons c t=>rw[h] at e;simp at e;subst e;exact GR (p:=(· != 46)) h
theorem P7{s:Aa}(h:BZ s=true):BZ (Jd s)=true:=by unfold BZ at *;rw[Am3] at *;intro x e;refine h x ?_;unfold Jd Lib.trimRightS at e;have:=(AyF (l:=s.reverse) (λc=>List.contains [48] c)).mem (by simpa using e);simpa using this
theorem mP(s:Aa):(Jd s).length<=s.length:=by unfold Jd Lib.trimRightS;rw[AzG];exact Am5 (AyF _).length_le (by simp)
def opV(s:Aa)(op:Int):Int×Int:=
 if DI s then
  if op=1 then(if Jd (Bo s)==[] then(LS 0 (AN s),0) else(0,8))
  else if op=2 then(LS 0 (AN s),0)
  else if op=3 then((Bo s).length,0)
  else if op=4 then((Jd (Bo s)).length,0)
  else if op=5 then(LS 0 (Bo s),0)
  else if op=6 then(LS 0 (Jd (Bo s)),0)
  else(0,1)
 else(0,1)
theorem Gn{s:Aa}(h:DI s=true):BZ (AN s)=true/\BZ (Bo s)=true/\(AN s).length<=15/\(Bo s).length<=6:=by unfold DI at h;grind
abbrev Dt:=List (Aa×Int)
def AU:Dt->Aa->Option Int
 | [],_=>none
 | e::m,n=>if e.1==n then some e.2 else AU m n
def Ep:Dt->Aa->Int->Dt
 | [],n,k=>[(n,k)]
 | e::m,n,k=>if e.1==n then(e.1,k)::m else e::Ep m n k
end Go.Ir
