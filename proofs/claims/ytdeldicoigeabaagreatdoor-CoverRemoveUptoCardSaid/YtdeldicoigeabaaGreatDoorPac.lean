/-
  THE EVALUATOR, part F: code, loops, functions.
  THE EVALUATOR, part R: ranges over functions: entering the ..
  THE EVALUATOR, part G: loops, functions, the whole.
  THE EVALUATOR, part H: the same, in a form in which the ..
  THE EVALUATOR, part I: contracts that were proved by hand, ..
  A builder of the library at this program: the check of ..
  THE EVALUATOR, part K: tables of codes.
  THE EVALUATOR, part L: closed calls that were proved ..
  THE EVALUATOR, part P: a call that was run before over no ..
  Symbolic steps of the IR: one DE for each operation, for ..
  Symbolic steps of the IR, second part.
  Symbolic steps of the IR: what their functions yield at ..
  Symbolic steps of the IR: the same laws, with the slots' ..
  THE JUDGEMENT AS EQUATIONS: what a region and code ask, ..
  The laws of a walk, as one set for simp
-/
import Derived.Test.YtdeldicoigeabaaGreatDoorPab
import Derived.Lib.UnsafeStr
import Derived.Shelf.Strings.Builder1
import Derived.KernelRfl
set_option linter.all false
section
namespace Go.Ir
open Go.RowKit
noncomputable section
variable[FV]
def Nh(m:Nat)(v:V):Bool:=V.rec (motive_1:=λ_=>Bool) (motive_2:=λ_=>Bool) (λ_=>true) (λ_ _=>true) (λ_=>true) true (λ_ h=>h) (λ_ h=>h) (λ_ h=>h) (λid _=>Nat.blt id.1 m) (λid=>Nat.blt id.1 m) (λid _ _ _=>Nat.blt id.1 m) (λ_ _ h=>h) (λ_ _ _ e g=>e&&g) true true true true true true true true (λ_ _ e g=>e&&g) v
def IS(m:Nat):List V->Bool
 | []=>true
 | v::vs=>Nh m v&&IS m vs
theorem MI{a m:Nat}(h:Nat.blt a m=true):a<m:=Nat.blt_eq ▸ h
def AlM(m:Nat)(vs:List V):Bool:=V.rec_1 (motive_1:=λ_=>Bool) (motive_2:=λ_=>Bool) (λ_=>true) (λ_ _=>true) (λ_=>true) true (λ_ h=>h) (λ_ h=>h) (λ_ h=>h) (λid _=>Nat.blt id.1 m) (λid=>Nat.blt id.1 m) (λid _ _ _=>Nat.blt id.1 m) (λ_ _ h=>h) (λ_ _ _ e g=>e&&g) true true true true true true true true (λ_ _ e g=>e&&g) vs
theorem Ib(m:Nat):∀vs:List V,AlM m vs=IS m vs
 | []=>rfl
 | v::vs=>by show(Nh m v&&AlM m vs)=_;rw[Ib m vs];rfl
theorem AeU{m:Nat}{es:List V}:Nh m (.sl es)=IS m es:=Ib m es
theorem mX{m:Nat}{es:List V}:Nh m (.agg es)=IS m es:=Ib m es
theorem oM{m:Nat}{es:List V}:Nh m (.tup es)=IS m es:=Ib m es
theorem Afr{m:Nat}{f:FuncId}{a c:List V}:Nh m (.fn f a c)=(IS m a&&IS m c):=by rw[<-Ib,<-Ib];rfl
theorem CU{m:Nat}:(∀v:V,Nh m v=true->Bg (Lt m) v)/\∀vs:List V,IS m vs=true->∀v∈vs,Bg (Lt m) v:=by
 have key:∀n:Nat,(∀v:V,SizeOf.sizeOf v<n->Nh m v=true->Bg (Lt m) v)/\∀vs:List V,SizeOf.sizeOf vs<n->IS m vs=true->∀v∈vs,Bg (Lt m) v:=by
  intro n
  induction n with
  | zero=>grind
  | succ n j=>
   refine⟨λv g h=>?_,λvs g h=>?_⟩
   .cases v with
    | sl es=>simp at g;exact .sl _ (j.2 es (by omega) (by rw[<-AeU];exact h))
    | agg es=>simp at g;exact .agg _ (j.2 es (by omega) (by rw[<-mX];exact h))
    | tup es=>simp at g;exact .tup _ (j.2 es (by omega) (by rw[<-oM];exact h))
    | fn f a c=>simp at g;rw[Afr,Bool.and_eq_true] at h;exact .fn _ _ _ (j.2 a (by omega) h.1) (j.2 c (by omega) h.2)
    | b x=>exact .b x
    | i k n=>exact .i k n
    | s l=>exact .s l
    | nil=>exact .nil
    | np=>exact .np
    | nf=>exact .nf
    | ni=>exact .ni
    | nm=>exact .nm
    | ub=>exact .ub
    | iv=>exact .iv
    | any=>exact .any
    | ref=>exact .ref _ _ (MI h)
    | arr=>exact .arr _ (MI h)
    | aref=>exact .aref _ _ _ _ (MI h)
    | ep e o=>simp at g;exact .ep _ _ (j.1 e (by omega) h)
   .cases vs with
    | nil=>intro v p;cases p
    | cons x xs=>simp at g;simp only[IS,Bool.and_eq_true] at h;grind
 exact⟨λv=>(key (SizeOf.sizeOf v+1)).1 v (Nat.lt_succ_self _),λvs=>(key (SizeOf.sizeOf vs+1)).2 vs (Nat.lt_succ_self _)⟩
def Eo(m:Nat):AX->Bool
 | .box v=>Nh m v
 | .tbox _ v=>Nh m v
 | .arr _ _ es=>IS m es
 | .map es=>es.all λp=>Nh m p.1&&Nh m p.2
 | .it _ _=>true
 | .mit mid _ _ _=>Nat.blt mid.1 m
 | .loop _ env _ a b _ _=>((a.cl&&b.cl)&&(a.nr&&b.nr))&&env.all λp=>Nh m p.2
theorem UJ{S:Id->Prop}:∀{env:AB},(∀p∈env,Bg S p.2)->∀s,Bg S (get env s)
 | [],_,s=>.any
 | (k,v)::env,h,s=>by
  simp only[get];split
  .simp_all
  .exact UJ (λp hp=>h p (by simp[hp])) s
theorem ZA{m:Nat}{e:AX}(h:Eo m e=true):Is (Lt m) e:=by
 cases e with
 | box v=>exact .box _ (CU.1 v h)
 | tbox t v=>exact .tbox _ _ (CU.1 v h)
 | arr a b es=>exact .arr _ _ _ (CU.2 es h)
 | map es=>refine .map _ λx g=>?_;have:=List.all_eq_true.1 h x g;simp only[Bool.and_eq_true] at this;exact⟨CU.1 _ this.1,CU.1 _ this.2⟩
 | it l p=>exact .it _ _
 | mit mid s j st=>exact .mit _ _ _ _ (MI h)
 | loop nt env ps a b st i=>
  have h:=(Bool.and_eq_true_iff.1 h)
  exact .loop _ _ _ _ _ _ _ (UJ λp hp=>CU.1 _ (List.all_eq_true.1 h.2 p hp)) h.1
def Eh(m:Nat)(σ:Aj):Bool:=σ.all λp=>Nat.blt p.1.1 m&&Eo m p.2
theorem Kc:∀{σ:Aj} {id:Id} {e:AX},lk σ id=some e->(id,e)∈σ
 | [],_,_,h=>by cases h
 | (k,x)::σ,id,e,h=>by
  simp only[lk] at h;split at h
  .grind
  .exact List.mem_cons_of_mem _ (Kc h)
theorem jF{m:Nat}{σ:Aj}(h:Eh m σ=true):Cu (Lt m) σ:=by intro id e g;have:=List.all_eq_true.1 h _ (Kc g);simp only[Bool.and_eq_true] at this;exact⟨MI this.1,ZA this.2⟩
def WO(v:V)(a:List Id):List Id:=V.rec (motive_1:=λ_=>List Id->List Id) (motive_2:=λ_=>List Id->List Id) (λ_ a=>a) (λ_ _ a=>a) (λ_ a=>a) (λa=>a) (λ_ h=>h) (λ_ h=>h) (λ_ h=>h) (λid _ a=>id::a) (λid a=>id::a) (λid _ _ _ a=>id::a) (λ_ _ h=>h) (λ_ _ _ e g a=>e (g a)) (λa=>a) (λa=>a) (λa=>a) (λa=>a) (λa=>a) (λa=>a) (λa=>a) (λa=>a) (λ_ _ e g a=>e (g a)) v a
def Ul(vs:List V)(a:List Id):List Id:=List.rec (motive:=λ_=>List Id) a (λv _ e=>WO v e) vs
def Auo:AX->List Id->List Id
 | .box v,a=>WO v a
 | .tbox _ v,a=>WO v a
 | .arr _ _ es,a=>Ul es a
 | .map es,a=>es.foldr (λp a=>WO p.1 (WO p.2 a)) a
 | .it _ _,a=>a
 | .mit mid _ _ _,a=>mid::a
 | .loop _ env _ _ _ _ _,a=>env.foldr (λp a=>WO p.2 a) a
def AnH(id:Id)(l:List Id):Bool:=List.rec (motive:=λ_=>Bool) false (λk _ e=>Bool.rec (motive:=λ_=>Bool) e true (PM k id)) l
def T6(σ:Aj)(k:Nat):List Id->List Id->List Id:=Nat.rec (motive:=λ_=>List Id->List Id->List Id) (λ_ seen=>seen) (λ_ h g seen=>match g with
 | []=>seen
 | id::g=>Bool.rec (motive:=λ_=>List Id) (match En σ id with
  | some e=>h (Auo e g) (id::seen)
  | none=>h g seen) (h g seen) (AnH id seen)) k
def Nx(q:Id->Bool)(σ:Aj):Aj:=List.rec (motive:=λ_=>Aj) [] (λp _ e=>Bool.rec (motive:=λ_=>Aj) e (p::e) (q p.1)) σ
theorem Pf(q:Id->Bool):∀σ:Aj,Nx q σ=σ.filter λp=>q p.1
 | []=>rfl
 | p::σ=>by
  have e:Nx q (p::σ)=Bool.rec (motive:=λ_=>Aj) (Nx q σ) (p::Nx q σ) (q p.1):=rfl;rw[e,Pf q σ];cases g:q p.1 with
  | false=>grind
  | true=>grind
theorem Lu(q:Id->Bool)(σ:Aj)(k:Id):lk (Nx q σ) k=if q k then lk σ k else none:=by rw[Pf,NZ]
def L1(o:Option AX):Bool:=Option.rec (motive:=λ_=>Bool) false (λ_=>true) o
theorem LS(o:Option AX):L1 o=o.isSome:=by cases o<;>rfl
def Ih(σ τ:Aj):Aj:=Nx (λid=>L1 (En σ id)) τ
theorem Jr{σ τ:Aj}(id:Id):lk (Ih σ τ) id=if(lk σ id).isSome then lk τ id else none:=by unfold Ih;rw[Lu,LS,B4]
section
variable{P:Program}{W0:World}
def Mg(s:List Id)(σ:Aj):Aj:=Nx (λid=>AnH id s) σ
def IF(args:List V)(σ:Aj):Aj:=Mg (T6 σ 1000 (Ul args []) []) σ
theorem MF(args:List V)(σ:Aj):∀id e,lk (IF args σ) id=some e->lk σ id=some e:=by intro id e h;unfold IF Mg at h;rw[Lu] at h;grind
def LL(f:V->Option V):List V->Option (List V)
 | []=>some []
 | v::vs=>match f v with
  | some w=>match LL f vs with
   | some e=>some (w::e)
   | none=>none
  | none=>none
theorem Er{f:V->Option V}:∀{l e:List V},LL f l=some e->l.length=e.length/\∀(k:Nat) (c i:V),l[k]?=some c->e[k]?=some i->f c=some i
 | [],e,h=>by cases h;grind
 | v::vs,e,h=>by
  rw[LL] at h;split at h
  .rename_i w p;split at h
   .rename_i q g;cases h;obtain⟨j,o⟩:=Er g;grind
   .cases h
  .cases h
def KE(f:V->Option V)(c:V):Option V:=match f c with
 | some e=>chk (c.ok&&e.ok&&Nat.beq (cells e).length (cells c).length) (some e)
 | none=>none
def frz(σ:Aj)(q:Id->Bool):Nat->V->Option V
 | 0=>λ_=>none
 | k+1=>λv=>match v with
  | .arr id=>bif q id then(match En σ id with
   | some (.arr _ _ es)=>(LL (KE (frz σ q k)) es).map .sl
   | _=>none) else some (.arr id)
  | .sl es=>(LL (KE (frz σ q k)) es).map .sl
  | .agg cs=>(LL (frz σ q k) cs).map .agg
  | .tup cs=>(LL (frz σ q k) cs).map .tup
  | v=>some v
def Nk(σ:Aj)(q:Id->Bool):Id->Option (List V):=λid=>if q id=true then(match lk σ id with
 | some (.arr _ _ es)=>some es
 | _=>none) else none
theorem Cm{f:V->Option V}{c e:V}(h:KE f c=some e):f c=some e/\(cells e).length=(cells c).length/\c.ok=true/\e.ok=true:=by
 unfold KE at h;split at h
 .rename_i g o;obtain⟨i,j⟩:=AC.1 h;simp_all
 .cases h
theorem G3{σ:Aj}{q:Id->Bool}:∀{k:Nat} {v t:V},frz σ q k v=some t->HU (Nk σ q) v t
 | 0,v,t,h=>by cases h
 | k+1,v,t,h=>by
  have s:∀{es es':List V},LL (KE (frz σ q k)) es=some es'->es.length=es'.length/\(∀(j:Nat) (c g:V),es[j]?=some c->es'[j]?=some g->HU (Nk σ q) c g)/\∀(j:Nat) (c g:V),es[j]?=some c->es'[j]?=some g->(cells g).length=(cells c).length/\c.ok=true/\g.ok=true:=by intro es es' z;obtain⟨o,i⟩:=Er z;exact⟨o,λj c g a b=>G3 (Cm (i j c g a b)).1,λj c g a b=>(Cm (i j c g a b)).2⟩
  cases v with
  | arr id=>
   simp only[frz] at h;cases w:q id with
   | false=>rw[w] at h;cases h;exact .refl _
   | true=>
    rw[w] at h;simp only[cond_true] at h;split at h
    .rename_i e sz es y;rw[B4] at y;obtain⟨es',o,rfl⟩:=Option.map_eq_some_iff.1 h;obtain⟨i,r,u⟩:=s o;exact .arr id es es' (by unfold Nk;rw[if_pos w,y]) i r u
    .cases h
  | sl es=>obtain⟨es',o,rfl⟩:=Option.map_eq_some_iff.1 h;obtain⟨i,r,u⟩:=s o;exact .sl es es' i r u
  | agg cs=>obtain⟨p,o,rfl⟩:=Option.map_eq_some_iff.1 h;obtain⟨i,r⟩:=Er o;exact .agg cs p i λj c g a b=>G3 (r j c g a b)
  | tup cs=>obtain⟨p,o,rfl⟩:=Option.map_eq_some_iff.1 h;obtain⟨i,r⟩:=Er o;exact .tup cs p i λj c g a b=>G3 (r j c g a b)
  | _=>cases h;exact .refl _
theorem H5{f:V->Option V}{l i:List V}(h:LL f l=some i){g:V}(o:g∈i):∃c∈l,f c=some g:=by
 obtain⟨q,j⟩:=Er h;obtain⟨k,p⟩:=List.mem_iff_getElem?.1 o;have e:k<l.length:=by grind
 exact⟨l[k],List.getElem_mem e,j k _ _ (List.getElem?_eq_getElem e) p⟩
theorem H7{S:Id->Prop}{σ:Aj}{q:Id->Bool}(p:Cu S σ):∀{k:Nat} {v s:V},frz σ q k v=some s->Bg S v->Bg S s
 | 0,v,s,h,_=>by cases h
 | k+1,v,s,h,r=>by
  cases v with
  | arr id=>
   simp only[frz] at h;cases y:q id with
   | false=>grind
   | true=>
    rw[y] at h;simp only[cond_true] at h;split at h
    .rename_i e sz es w;rw[B4] at w;obtain⟨es',i,rfl⟩:=Option.map_eq_some_iff.1 h;refine .sl _ λt g=>?_;obtain⟨c,j,o⟩:=H5 i g;exact H7 p (Cm o).1 ((p _ _ w).2.arr_inv c j)
    .cases h
  | sl es=>obtain⟨es',i,rfl⟩:=Option.map_eq_some_iff.1 h;refine .sl _ λt g=>?_;obtain⟨c,j,o⟩:=H5 i g;exact H7 p (Cm o).1 (r.sl_inv c j)
  | agg cs=>obtain⟨u,i,rfl⟩:=Option.map_eq_some_iff.1 h;refine .agg _ λt g=>?_;obtain⟨c,j,o⟩:=H5 i g;exact H7 p o (r.agg_inv c j)
  | tup cs=>obtain⟨u,i,rfl⟩:=Option.map_eq_some_iff.1 h;refine .tup _ λt g=>?_;obtain⟨c,j,o⟩:=H5 i g;exact H7 p o (r.tup_inv c j)
  | _=>cases h;exact r
def P0(σ:Aj)(q:Id->Bool)(k:Nat):AX->Option AX
 | .box v=>(KE (frz σ q k) v).map .box
 | .tbox t v=>(KE (frz σ q k) v).map (.tbox t)
 | .arr e sz es=>(LL (KE (frz σ q k)) es).map (.arr e sz)
 | e=>some e
theorem W7{σ:Aj}{q:Id->Bool}{k:Nat}{e e':AX}(h:P0 σ q k e=some e'):Js (Nk σ q) e e':=by
 cases e with
 | box v=>obtain⟨u,i,rfl⟩:=Option.map_eq_some_iff.1 h;obtain⟨o,g,r,s⟩:=Cm i;exact .box v u (G3 o) g r s
 | tbox t v=>obtain⟨u,i,rfl⟩:=Option.map_eq_some_iff.1 h;obtain⟨o,g,r,s⟩:=Cm i;exact .tbox t v u (G3 o) g r s
 | arr a b es=>obtain⟨es',i,rfl⟩:=Option.map_eq_some_iff.1 h;obtain⟨o,g⟩:=Er i;exact .arr a b es es' o λj c w p q=>⟨G3 (Cm (g j c w p q)).1,(Cm (g j c w p q)).2⟩
 | _=>cases h;exact .refl _
theorem Wc{S:Id->Prop}{σ:Aj}{q:Id->Bool}{k:Nat}{e e':AX}(o:Cu S σ)(h:P0 σ q k e=some e')(i:Is S e):Is S e':=by
 cases e with
 | box v=>obtain⟨s,g,rfl⟩:=Option.map_eq_some_iff.1 h;exact .box _ (H7 o (Cm g).1 i.box_inv)
 | tbox t v=>obtain⟨s,g,rfl⟩:=Option.map_eq_some_iff.1 h;exact .tbox _ _ (H7 o (Cm g).1 i.tbox_inv)
 | arr a b es=>obtain⟨es',g,rfl⟩:=Option.map_eq_some_iff.1 h;refine .arr _ _ _ λu j=>?_;obtain⟨c,p,r⟩:=H5 g j;exact H7 o (Cm r).1 (i.arr_inv c p)
 | _=>cases h;exact i
def mL(σ:Aj)(q:Id->Bool)(k:Nat):Aj->Option Aj
 | []=>some []
 | (id,e)::r=>match mL σ q k r with
  | some g=>bif q id then some g else match P0 σ q k e with
   | some e'=>some ((id,e')::g)
   | none=>none
  | none=>none
theorem J3{σ:Aj}{q:Id->Bool}{k:Nat}:∀{τ g:Aj},mL σ q k τ=some g->∀id e',lk g id=some e'->q id=false/\∃e,lk τ id=some e/\P0 σ q k e=some e'
 | [],g,h,id,e',i=>by cases h;cases i
 | (j,x)::r,g,h,id,e',i=>by
  rw[mL] at h;split at h
  .rename_i z p;cases o:q j with
   | true=>rw[o] at h;cases h;obtain⟨s,e,t,u⟩:=J3 p id e' i;grind[lk]
   | false=>
    rw[o] at h;simp only[cond_false] at h;split at h
    .rename_i x' y;cases h;simp only[lk] at i⊢;split at i
     .grind
     .rename_i w;obtain⟨s,e,t,u⟩:=J3 p id e' i;grind
    .cases h
  .cases h
def Pj(σ:Aj)(q:Id->Bool)(k:Nat):AB->Option AB
 | []=>some []
 | (s,v)::r=>match frz σ q k v with
  | some g=>match Pj σ q k r with
   | some e=>some ((s,g)::e)
   | none=>none
  | none=>none
theorem IQ{σ:Aj}{q:Id->Bool}{k:Nat}:∀{env env':AB},Pj σ q k env=some env'->∀s,(get env s=.any/\get env' s=.any)\/frz σ q k (get env s)=some (get env' s)
 | [],env',h,s=>by cases h;grind[get]
 | (j,v)::r,env',h,s=>by
  rw[Pj] at h;split at h
  .rename_i p i;split at h
   .rename_i o g;cases h;simp only[get];by_cases e:j=s
    .grind
    .rw[if_neg e,if_neg e];exact IQ g s
   .cases h
  .cases h
def Rf(id:Id)(st:St):Option St:=
 let q:=λj=>decide (j=id)
 match En st.σ id with
 | some (.arr _ _ _)=>match Pj st.σ q 60 st.env with
  | some env=>match mL st.σ q 60 st.σ with
   | some σ=>some ⟨env,σ,st.n⟩
   | none=>none
  | none=>none
 | _=>none
def KW(W0:World)(nt:Nat)(st e:St):Prop:=∀B a w,RS W0 nt B st a w->RS W0 nt B e a w
theorem XE{W0:World}{nt:Nat}{id:Id}{st i:St}(h:Rf id st=some i):KW W0 nt st i/\i.n=st.n/\∀S,BI S st.env->Cu S st.σ->BI S i.env/\Cu S i.σ:=by
 unfold Rf at h;simp only at h;split at h
 .rename_i e sz es L;rw[B4] at L;split at h
  .rename_i env E;split at h
   .rename_i σ p;cases h;have r:∀S,BI S st.env->Cu S st.σ->BI S env/\Cu S σ:=by
     intro S z q;refine⟨λs=>?_,λj x t=>?_⟩
     .rcases IQ E s with⟨_,h⟩|h
      .rw[h];exact .any
      .exact H7 q h (z s)
     .obtain⟨_,y,u,A⟩:=J3 p j x t;exact⟨(q _ _ u).1,Wc q A (q _ _ u).2⟩
    refine⟨λB a w o=>?_,rfl,r⟩;obtain⟨o,z,q,J⟩:=o;obtain⟨G,H⟩:=r _ z q;refine⟨o.weak (Nk st.σ λj=>decide (j=id)) (λj es' g=>?_) (λs=>?_) (λj x t=>?_) (Nat.le_refl _),G,H,J⟩
    .unfold Nk at g;split at g
     .rename_i t;split at g
      .rename_i e' D F C;cases g;refine⟨⟨e',D,C⟩,?_⟩;cases M:lk σ j with
       | none=>rfl
       | some x=>have:=(J3 p j x M).1;grind
      .cases g
     .cases g
    .rcases IQ E s with⟨h5,h6⟩|h5
     .rw[h6];exact .any _
     .exact G3 h5
    .obtain⟨_,y,u,A⟩:=J3 p j x t;exact⟨y,u,W7 A⟩
   .cases h
  .cases h
 .cases h
def DZ(m:Nat):Id->Bool:=λid=>Nat.ble m id.1
def D8(m:Nat)(σ:Aj):Aj:=Nx (λid=>Nat.blt id.1 m) σ
theorem T2{m:Nat}{σ:Aj}(id:Id):lk (D8 m σ) id=if Nat.blt id.1 m=true then lk σ id else none:=by unfold D8;rw[Lu]
theorem DL.frz{f:FuncId}{args:List V}{σ σ1:Aj}{m n' k:Nat}{v q:V}(h:DL P W0 f args σ m v σ1 n')(G:Go.Ir.frz σ1 (DZ m) k v=some q)(L:Nh m q=true):DL P W0 f args σ m q (D8 m σ1) n' where
 callable:=h.callable
 le:=h.le
 vin:=(CU.1 _ L).mono (Lt.mono h.le)
 sin:=by
  intro id e i;rw[T2] at i;split at i
  .exact h.sin id e i
  .cases i
 run:=by
  intro w μ H vals hp o;refine EO.mono (h.run w μ H vals hp o) ?_;rintro e w' ⟨val,C,E,rfl,B,y,u,j⟩;have r:At W0 1 ⟨μ,H,σ,w,m,none,[]⟩ ⟨[(0,v)],σ1,n'⟩ { tmps:=#[val],defers:=[] } w':=by
   refine⟨C,E,⟨rfl,λs=>?_⟩,y,u,j,h.le,rfl⟩;cases s with
   | zero=>exact B
   | succ s=>exact .any _
  have M:=r.weak (Nk σ1 (DZ m)) (env':=[(0,q)]) (σ':=D8 m σ1) (n':=n') (λid es g=>?_) (λs=>?_) (λid e i=>?_) (Nat.le_refl _)
  .obtain⟨D,F,A,z,t,p,_⟩:=M;exact⟨val,D,F,rfl,A.at_ 0,z,t,p⟩
  .unfold Nk at g;split at g
   .rename_i J;split at g
    .rename_i e sz es' i;cases g;refine⟨⟨e,sz,i⟩,?_⟩;rw[T2,if_neg];rw[Nat.blt_eq];exact Nat.not_lt.2 (Nat.le_of_ble_eq_true J)
    .cases g
   .cases g
  .cases s with
   | zero=>exact G3 G
   | succ s=>exact .refl _
  .rw[T2] at i;split at i
   .exact⟨e,i,.refl _⟩
   .cases i
def S4(C:Az):Az:=λf args σ m=>match C f args σ m with
 | some (v,σ1,n')=>match frz σ1 (DZ m) 60 v with
  | some e=>chk (Nh m e) (some (e,D8 m σ1,n'))
  | none=>none
 | none=>none
theorem Lk{C:Az}(o:AF P W0 C):AF P W0 (S4 C):=by
 intro f args σ m v σ' n' h p q;unfold S4 at h;split at h
 .rename_i v1 σ1 r e;split at h
  .rename_i v2 g;obtain⟨i,j⟩:=AC.1 h;cases j;exact(o _ _ _ _ _ _ _ e p q).frz g i
  .cases h
 .cases h
def iB(σi σo σ:Aj):Aj:=List.rec (motive:=λ_=>Aj) (Nx (λid=>Bool.rec (motive:=λ_=>Bool) true false (L1 (En σi id))) σ) (λp _ e=>p::e) σo
theorem Qo(σi σo σ:Aj):iB σi σo σ=over σi σo σ:=by
 have e:Nx (λid=>Bool.rec (motive:=λ_=>Bool) true false (L1 (En σi id))) σ=σ.filter λp=>(lk σi p.1).isNone:=by rw[Pf];congr 1;funext p;rw[LS,B4];cases lk σi p.1<;>rfl
 unfold iB over
 induction σo with
 | nil=>simpa using e
 | cons p σo g=>grind
def Z7(f:FuncId):Bool:=Bool.rec (motive:=λ_=>Bool) true false (Nat.beq f Eq)
theorem Lz{f:FuncId}(h:Z7 f=true):f≠Eq:=by rintro rfl;cases h
def Pq(C:Az)(m:Nat)(f:FuncId)(args:List V):Option V:=
 match S4 C f args [] m with
 | some (v,_,_)=>chk (Nh m v&&Z7 f) (some v)
 | none=>none
theorem Jn{C:Az}(q:AF P W0 C){m:Nat}{f:FuncId}{args:List V}{v:V}(h:Pq C m f args=some v)(i:∀a∈args,Bg (Lt m) a):An P W0 f args [] v []/\Bg (Lt m) v:=by
 unfold Pq at h;split at h
 .rename_i v1 σ1 t o;obtain⟨g,p⟩:=AC.1 h;cases p;rw[Bool.and_eq_true] at g;have j:=CU.1 v g.1;exact⟨An.of_at (Lz g.2) (Lk q _ _ _ _ _ _ _ o i Cu.nil) i Cu.nil (λid e r=>by cases r) (λid s=>absurd rfl s) j Cu.nil,j⟩
 .cases h
def ZZ(C:Az)(m:Nat)(σi σ:Aj)(f:FuncId)(args:List V):Option (V×Aj):=
 match S4 C f args σi m with
 | some (v,σ1,_)=>chk ((Nh m v&&Eh m (Ih σi σ1))&&Z7 f) (some (v,iB σi (Ih σi σ1) σ))
 | none=>none
def TL(C:Az)(m:Nat)(σ:Aj)(f:FuncId)(args:List V):Option (V×Aj):=ZZ C m (IF args σ) σ f args
theorem KG{C:Az}(A:AF P W0 C){m:Nat}{σ σ':Aj}{f:FuncId}{args:List V}{v:V}(h:TL C m σ f args=some (v,σ'))(r:∀a∈args,Bg (Lt m) a)(t:Cu (Lt m) σ):(∃σi σo,An P W0 f args σi v σo/\(∀id e,lk σi id=some e->lk σ id=some e)/\σ'=over σi σo σ)/\Bg (Lt m) v/\Cu (Lt m) σ':=by
 unfold TL ZZ at h;have g:=MF args σ;generalize IF args σ=σi at h g;have j:Cu (Lt m) σi:=λid e p=>t id e (g _ _ p);split at h
 .rename_i v1 σ1 B y;obtain⟨i,z⟩:=AC.1 h;cases z;simp only[Bool.and_eq_true] at i;have q:=Lz i.2;have i:=i.1;have u:=CU.1 v i.1;have o:=jF i.2;refine⟨⟨σi,Ih σi σ1,An.of_at q (Lk A _ _ _ _ _ _ _ y r j) r j (λid e p=>?_) (λid s=>?_) u o,g,Qo _ _ _⟩,u,?_⟩
  .rw[Jr] at p;grind
  .intro w;rw[Jr,w] at s;exact s rfl
  .rw[Qo];exact t.over o
 .cases h
def T9(C:Az)(m:Nat)(σ:Aj)(f:FuncId)(args:List V):Option (AX×Aj):=
 match C f args σ m with
 | some (.arr id,σ1,_)=>match lk σ1 id with
  | some x=>chk ((Eo m x&&Eh m (MM (Ih σ σ1) id))&&Z7 f) (some (x,MM (Ih σ σ1) id))
  | none=>none
 | _=>none
theorem OL{C:Az}(A:AF P W0 C){m:Nat}{σ τ:Aj}{f:FuncId}{args:List V}{x:AX}(h:T9 C m σ f args=some (x,τ))(s:∀a∈args,Bg (Lt m) a)(t:Cu (Lt m) σ):H9 P W0 f args σ x τ/\Is (Lt m) x/\Cu (Lt m) τ:=by
 unfold T9 at h;split at h
 .rename_i id σ1 D y;split at h
  .rename_i x' g;obtain⟨q,z⟩:=AC.1 h;cases z;simp only[Bool.and_eq_true] at q;have r:=Lz q.2;have u:=ZA q.1.1;have o:=jF q.1.2;rw[HE] at o⊢;have i:∀j e,lk (del (Ih σ σ1) id) j=some e->lk (Ih σ σ1) j=some e:=λj e p=>by
    rw[CV] at p;split at p
    .cases p
    .exact p
   refine⟨H9.of_at r (A _ _ _ _ _ _ _ y s t) s t g (λid e g=>?_) (λid B=>?_) u o (by rw[CV,if_pos rfl]),u,o⟩
   .have g:=i _ _ g;rw[Jr] at g;split at g
    .exact g
    .cases g
   .intro w;apply B;cases p:lk (del (Ih σ σ1) _) id with
    | none=>rfl
    | some e=>have:=i _ _ p;rw[Jr,w] at this;cases this
  .cases h
 .cases h
mutual
def PR:V->V->Bool
 | .b x,.b y=>x==y
 | .i k a,.i k' b=>decide (k=k')&&kX a b
 | .s a,.s b=>P4 a b
 | .nil,.nil=>true
 | .sl a,.sl b=>Eb a b
 | .agg a,.agg b=>Eb a b
 | .tup a,.tup b=>Eb a b
 | .ref i o,.ref j p=>decide (i=j)&&Nat.beq o p
 | .arr i,.arr j=>decide (i=j)
 | .aref i a b c,.aref j e h q=>decide (i=j)&&Nat.beq a e&&Nat.beq b h&&Nat.beq c q
 | .ep a o,.ep b p=>PR a b&&Nat.beq o p
 | .fn f a c,.fn g b d=>decide (f=g)&&Eb a b&&Eb c d
 | .np,.np|.nf,.nf|.ni,.ni|.nm,.nm|.ub,.ub|.iv,.iv|.any,.any=>true
 | _,_=>false
def Eb:List V->List V->Bool
 | [],[]=>true
 | a::x,b::y=>PR a b&&Eb x y
 | _,_=>false
end
theorem E5:∀n:Nat,(∀a b:V,SizeOf.sizeOf a<n->PR a b=true->a=b)/\∀a b:List V,SizeOf.sizeOf a<n->Eb a b=true->a=b:=by
 intro n
 induction n with
 | zero=>grind
 | succ n g=>
  refine⟨λa b e h=>?_,λa b e h=>?_⟩
  .unfold PR at h;split at h
   .grind
   .simp only[Bool.and_eq_true,decide_eq_true_eq,L5] at h;rw[h.1,h.2]
   .rw[GM,beq_iff_eq] at h;rw[h]
   .rfl
   .grind
   .grind
   .grind
   .simp_all
   .grind
   .simp_all
   .simp at e;simp only[Bool.and_eq_true,Nat.beq_eq] at h;grind
   .grind
   all_goals first|rfl|cases h
  .unfold Eb at h;grind
def Un:List (V×V)->List (V×V)->Bool
 | [],[]=>true
 | a::x,b::y=>PR a.1 b.1&&PR a.2 b.2&&Un x y
 | _,_=>false
theorem QF:∀{a b:List (V×V)},Un a b=true->a=b
 | [],[],_=>rfl
 | a::x,b::y,h=>by simp only[Un,Bool.and_eq_true] at h;rw[QF h.2,Prod.ext ((E5 _).1 _ _ (Nat.lt_succ_self _) h.1.1) ((E5 _).1 _ _ (Nat.lt_succ_self _) h.1.2)]
 | [],_::_,h=>by cases h
 | _::_,[],h=>by cases h
def oW:AX->AX->Bool
 | .box a,.box b=>PR a b
 | .tbox t a,.tbox e b=>Nat.beq t e&&PR a b
 | .arr t s a,.arr e h b=>Nat.beq t e&&Nat.beq s h&&Eb a b
 | .map a,.map b=>Un a b
 | .it l p,.it g p'=>P4 l g&&Nat.beq p p'
 | _,_=>false
theorem U3{a b:AX}(h:oW a b=true):a=b:=by
 unfold oW at h;split at h
 .rw[(E5 _).1 _ _ (Nat.lt_succ_self _) h]
 .simp only[Bool.and_eq_true,Nat.beq_eq] at h;rw[h.1,(E5 _).1 _ _ (Nat.lt_succ_self _) h.2]
 .simp only[Bool.and_eq_true,Nat.beq_eq] at h;rw[h.1.1,h.1.2,(E5 _).2 _ _ (Nat.lt_succ_self _) h.2]
 .rw[QF h]
 .simp only[Bool.and_eq_true,Nat.beq_eq] at h;rw[GM,beq_iff_eq] at h;rw[h.1,h.2]
 .cases h
def yO(σ τ:Aj):Bool:=σ.all λp=>match lk σ p.1,lk τ p.1 with
 | some a,some b=>oW a b
 | _,_=>false
theorem Xr{σ τ:Aj}(h:yO σ τ=true):∀id e,lk σ id=some e->lk τ id=some e:=by
 intro id e g;have:=List.all_eq_true.1 h _ (Kc g);simp only[g] at this;split at this
 .rename_i a b i j;cases i;rw[j,U3 this]
 .cases this
def SQ(C:Az)(m:Nat)(σ:Aj)(f:FuncId)(args:List V):Option V:=
 match S4 C f args (IF args σ) m with
 | some (v,σ1,_)=>chk ((Nh m v&&yO (IF args σ) σ1)&&Z7 f) (some v)
 | none=>none
theorem Pp{C:Az}(t:AF P W0 C){m:Nat}{σ:Aj}{f:FuncId}{args:List V}{v:V}(h:SQ C m σ f args=some v)(p:∀a∈args,Bg (Lt m) a)(y:Cu (Lt m) σ):(∃σi,An P W0 f args σi v σi/\∀id e,lk σi id=some e->lk σ id=some e)/\Bg (Lt m) v:=by
 unfold SQ at h;split at h
 .rename_i v1 σ1 z r;obtain⟨j,s⟩:=AC.1 h;cases s;simp only[Bool.and_eq_true] at j;have o:=Lz j.2;have j:=j.1;have q:=CU.1 v j.1;have g:=MF args σ;have i:Cu (Lt m) (IF args σ):=λid e u=>y id e (g _ _ u);exact⟨⟨_,An.of_at o (Lk t _ _ _ _ _ _ _ r p i) p i (Xr j.2) (λid w=>w) q i,g⟩,q⟩
 .cases h
def yE(C:Az)(ep:Nat)(d:Option Nat)(op:AE)(g:Nat->V)(σ:Aj):Option (V×Aj):=
 match op with
 | .call f xs=>(Pq C (ep+1) f (xs.map (ev g))).map λv=>(v,σ)
 | .calls f xs=>TL C (ep+1) σ f (xs.map (ev g))
 | .callv x xs=>match ev g x with
  | .fn f a c=>(Pq C (ep+1) f (a++xs.map (ev g)++c)).map λv=>(v,σ)
  | _=>none
 | .callvs x xs=>match ev g x with
  | .fn f a c=>TL C (ep+1) σ f (a++xs.map (ev g)++c)
  | _=>none
 | .calln f xs=>match d with
  | some e=>(T9 C (ep+1) σ f (xs.map (ev g))).map λr=>(.arr (ep,e),((ep,e),r.1)::over σ r.2 σ)
  | none=>none
 | .callr f xs=>(SQ C (ep+1) σ f (xs.map (ev g))).map λv=>(v,σ)
 | op=>fE ep d op g σ
def DO(i:I)(g:Nat->V):Bool:=
 i.ap.isEmpty||i.ap.all λx=>i.op.cs.all λy=>match Cq (ev g x),Cq (ev g y) with
  | some a,some b=>!(a==b)
  | _,_=>true
def D3(i:I):Bool:=i.op.cl&&!i.ap.isEmpty
def Lf(i:I)(g:Nat->V)(σ τ:Aj):Bool:=i.ap.all λx=>match Cq (ev g x) with
 | some id=>(match En σ id with
  | some a=>(match En τ id with
   | some b=>oW a b
   | none=>false)
  | none=>true)
 | none=>true
def Ca(i:I)(g:Nat->V)(σ:Aj)(o:Option (V×Aj)):Option (V×Aj):=bif D3 i then(match o with
 | some (v,τ)=>chk (Lf i g σ τ) (some (v,τ))
 | none=>none) else o
theorem WM{i:I}{g:Nat->V}(h:DO i g=true):S0 i g:=by
 unfold DO at h;rw[Bool.or_eq_true] at h;rcases h with h|h
 .have p:i.ap=[]:=List.isEmpty_iff.1 h;exact λx e=>(by grind)
 .intro x e y q id j o;grind
theorem VN{i:I}{g:Nat->V}{σ τ:Aj}{o:Option (V×Aj)}{v:V}(h:Ca i g σ o=some (v,τ)):o=some (v,τ)/\IT i g σ τ:=by
 unfold Ca at h;cases e:D3 i with
 | false=>rw[e] at h;refine⟨h,λu x p=>?_⟩;unfold D3 at e;grind
 | true=>
  rw[e] at h;simp only[cond_true] at h;split at h
  .rename_i v1 y;obtain⟨q,r⟩:=AC.1 h;cases r;refine⟨rfl,λ_ x p id j w=>?_⟩;have:=List.all_eq_true.1 q x p;rw[j] at this;simp only[B4] at this;split at this
   .rename_i a s;split at this
    .rename_i b t;rw[s,t,U3 this]
    .cases this
   grind
  .cases h
def Dg(C:Az)(ep:Nat)(i:I)(env:AB)(σ:Aj):Option (V×Aj):=
 match JY env i.gd with
 | some true=>chk (DO i (get env)) (Ca i (get env) σ (yE C ep i.dst i.op (get env) σ))
 | some false=>some (.tup [],σ)
 | none=>none
def SF(C:Az)(ep:Nat):List I->AB->Aj->Option (AB×Aj)
 | [],env,σ=>some (env,σ)
 | i::l,env,σ=>match Dg C ep i env σ with
  | some (v,σ')=>SF C ep l (put env i.dst v) σ'
  | none=>none
theorem fT{C:Az}(hC:AF P W0 C){ep:Nat}{i:I}{env:AB}{σ σ':Aj}{v:V}(h:yE C ep i.dst i.op (get env) σ=some (v,σ'))(hcl:i.cl=true)(he:BI (Lt (ep+1)) env)(hs:Cu (Lt (ep+1)) σ) :
  E P W0 ep i.dst i.op (get env) σ v σ'/\Bg (Lt (ep+1)) v/\Cu (Lt (ep+1)) σ':=by
 have hx:=I.cl_xs (S:=Lt (ep+1)) hcl he
 have hz:=I.cl_zs (S:=Lt (ep+1)) hcl
 have hnil:Cu (Lt (ep+1)) []:=Cu.nil
 have simple:i.op.isC=false->fE ep i.dst i.op (get env) σ=some (v,σ')->E P W0 ep i.dst i.op (get env) σ v σ'/\Bg (Lt (ep+1)) v/\Cu (Lt (ep+1)) σ':=by
  intro hc h
  have hE:=Mk (P:=P) (W0:=W0) h
  exact⟨hE,Afu hc (fun dd _=>Nat.lt_succ_self _) hx hz hs hE⟩
 have fnargs:∀{x:X} {xs:List X} {f:FuncId} {a c:List V},ev (get env) x=.fn f a c->(∀y∈x::xs,Bg (Lt (ep+1)) (ev (get env) y))->∀w∈a++xs.map (ev (get env))++c,Bg (Lt (ep+1)) w:=by
  intro x xs f a c hf hy w hw
  have h0:=hy x (by simp)
  rw[hf] at h0
  simp only[List.append_assoc,List.mem_append] at hw
  rcases hw with hw|hw|hw
  .exact h0.fn_inv.1 w hw
  .grind
  .exact h0.fn_inv.2 w hw
 generalize hop:i.op=op at *
 have hsub:∀id e,lk σ id=some e->lk σ id=some e:=fun _ _ h=>h
 cases op with
 | call f xs=>
  obtain⟨v1,h1,h2⟩:=Option.map_eq_some_iff.1 h
  cases h2
  obtain⟨hR,hv⟩:=Jn hC h1 (EV hx)
  exact⟨⟨hR,rfl⟩,hv,hs⟩
 | calls f xs=>
  obtain⟨hR,hv,hτ⟩:=KG hC h (EV hx) hs
  exact⟨hR,hv,hτ⟩
 | callv x xs=>
  simp only[yE] at h
  split at h
  .rename_i f a c hf
   obtain⟨v1,h1,h2⟩:=Option.map_eq_some_iff.1 h
   cases h2
   obtain⟨hR,hv⟩:=Jn hC h1 (fnargs hf hx)
   exact⟨⟨f,a,c,hf,hR,rfl⟩,hv,hs⟩
  .cases h
 | callvs x xs=>
  simp only[yE] at h
  split at h
  .rename_i f a c hf
   obtain⟨⟨σi,σo,hR,h2,h3⟩,hv,hτ⟩:=KG hC h (fnargs hf hx) hs
   exact⟨⟨f,a,c,σi,σo,hf,hR,h2,h3⟩,hv,hτ⟩
  .cases h
 | calln f xs=>
  simp only[yE] at h
  split at h
  .rename_i dd hdd
   obtain⟨⟨x1,τ⟩,h1,h2⟩:=Option.map_eq_some_iff.1 h
   cases h2
   obtain⟨hR,hv,hτ⟩:=OL hC h1 (EV hx) hs
   have hlt:Lt (ep+1) (ep,dd):=Nat.lt_succ_self _
   exact⟨⟨dd,σ,τ,x1,hdd,hR,hsub,rfl,rfl⟩,.arr _ hlt,(hs.over hτ).cons hlt hv⟩
  .cases h
 | callr f xs=>
  obtain⟨v1,h1,h2⟩:=Option.map_eq_some_iff.1 h
  cases h2
  obtain⟨hR,hv⟩:=Pp hC h1 (EV hx) hs
  exact⟨⟨hR,rfl⟩,hv,hs⟩
 | callw x xs=>cases h
 | _=>exact simple rfl h
theorem MB{C:Az}(D:AF P W0 C){ep:Nat}:∀{l:List I} {env:AB} {σ:Aj} {env':AB} {σ':Aj},SF C ep l env σ=some (env',σ')->(∀i∈l,i.cl=true)->BI (Lt (ep+1)) env->Cu (Lt (ep+1)) σ->
  (∀K:AB->Aj->Prop,K env' σ'->Ao P W0 ep l env σ K)/\BI (Lt (ep+1)) env'/\Cu (Lt (ep+1)) σ'
 | [],env,σ,env',σ',h,_,u,w=>by cases h;exact⟨λK h=>h,u,w⟩
 | i::l,env,σ,env',σ',h,r,u,w=>by
  rw[SF] at h;split at h
  .rename_i v τ p;have one:(∀K:AB->Aj->Prop,K (put env i.dst v) τ->CI P W0 ep i env σ K)/\Bg (Lt (ep+1)) v/\Cu (Lt (ep+1)) τ:=by
    unfold Dg at p;split at p
    .rename_i e;obtain⟨L,y⟩:=AC.1 p;obtain⟨y,o⟩:=VN y;obtain⟨E,O,B⟩:=fT D y (r i (by simp)) u w;refine⟨λK q=>?_,O,B⟩;have g:S0 i (get env)/\IT i (get env) σ τ:=⟨WM L,o⟩
     unfold CI;unfold JY at e;cases z:i.gd with
     | none=>exact⟨v,τ,⟨E,g.1,g.2⟩,q⟩
     | some sw=>
      obtain⟨s,F⟩:=sw;rw[z] at e;simp only at e⊢;split at e
      .rename_i t N;simp only[Option.some.injEq,beq_iff_eq] at e;rw[N];exact⟨λ_=>⟨v,τ,⟨E,g.1,g.2⟩,q⟩,λA=>absurd e A⟩
      .cases e
      .cases e
    .rename_i e;cases p;refine⟨λK q=>?_,.tup _ (by simp),w⟩;unfold CI;unfold JY at e;grind
    .cases p
   obtain⟨G,H,J⟩:=MB D h (λj M=>r j (by simp[M])) (u.put one.2.1) one.2.2;exact⟨λK q=>one.1 _ (G K q),H,J⟩
  .cases h
theorem Acj{C:Az}(w:AF P W0 C){ep:Nat}{i:I}{env:AB}{σ:Aj}{n:Nat}{v:V}{τ:Aj}{o:Nat}(g:n9 C ep i env σ n=some (v,τ,o))(h:i.cl=true)(q:ep<n)(t:BI (Lt n) env)(s:Cu (Lt n) σ):n<=o/\Bg (Lt o) v/\Cu (Lt o) τ:=by
 unfold n9 at g;split at g
 .split at g
  .rename_i f args e;have p:=w _ _ _ _ _ _ _ g (NS e h t) s;exact⟨p.le,p.vin,p.sin⟩
  .rename_i e;obtain⟨⟨v1,z⟩,j,u⟩:=Option.map_eq_some_iff.1 g;cases u;have y:=Mk (P:=P) (W0:=W0) j;have r:i.op.isC=false:=xO j;have:=Afu (S:=Lt n) r (λA _=>q) (I.cl_xs h t) (I.cl_zs h) s y;grind
 .cases g;exact⟨Nat.le_refl _,.tup _ (by simp),s⟩
 .cases g
theorem Vb{C:Az}(p:AF P W0 C){ep:Nat}:∀{l:List I} {env:AB} {σ:Aj} {n:Nat} {env':AB} {σ':Aj} {n':Nat},Mj C ep l env σ n=some (env',σ',n')->(∀i∈l,i.cl=true)->ep<n->BI (Lt n) env->Cu (Lt n) σ->
  n<=n'/\BI (Lt n') env'/\Cu (Lt n') σ'
 | [],env,σ,n,env',σ',n',h,_,_,o,q=>by cases h;grind
 | i::l,env,σ,n,env',σ',n',h,e,g,o,q=>by
  rw[Mj] at h;split at h
  .rename_i v τ y r;have one:=Acj p r (e i (by simp)) g o q;obtain⟨t,u,w⟩:=Vb p h (λj s=>e j (by simp[s])) (Nat.lt_of_lt_of_le g one.1) ((o.mono (Lt.mono one.1)).put one.2.1) one.2.2;grind
  .cases h
abbrev JS:=IC->St->Option (Exit×St)
def Q0(C:Az):IC->St->Option (Exit×St)
 | .seqr l live,st=>match Mj C st.n l st.env st.σ (st.n+1) with
  | some (env,σ,n)=>some (.normal,⟨restrict live env,σ,n⟩)
  | none=>none
 | .ops l live _,st=>match SF C st.n l st.env st.σ with
  | some (env,σ)=>some (.normal,⟨restrict live env,σ,st.n+1⟩)
  | none=>none
 | _,_=>none
def AnR:V->Option Id
 | .arr id=>some id
 | .agg cs=>cs.findSome? λc=>match c with
  | .arr id=>some id
  | _=>none
 | _=>none
def Afw:AE->List X
 | .call _ xs|.calls _ xs|.calln _ xs|.callr _ xs=>xs
 | _=>[]
def Aa8(i:I)(env:AB):Option Id:=
 match(Afw i.op).findSome? λx=>AnR (ev (get env) x) with
 | some id=>some id
 | none=>
 let x:=match i.op with
  | .slL x _ _ _=>some x
  | .pu _ (x::_)=>some x
  | .app x _ _ _=>some x
  | _=>none
 match x with
 | some x=>match ev (get env) x with
  | .arr id=>some id
  | _=>none
 | none=>none
def yP(C:Az)(ep:Nat):List I->AB->Aj->Nat->Option Id
 | [],_,_,_=>none
 | i::l,env,σ,n=>match n9 C ep i env σ n with
  | some (v,σ',n')=>yP C ep l (put env i.dst v) σ' n'
  | none=>Aa8 i env
def yD(C:Az)(ep:Nat):List I->AB->Aj->Option Id
 | [],_,_=>none
 | i::l,env,σ=>match Dg C ep i env σ with
  | some (v,σ')=>yD C ep l (put env i.dst v) σ'
  | none=>Aa8 i env
def eI(C:Az):IC->St->Option Id
 | .seqr l _,st=>yP C st.n l st.env st.σ (st.n+1)
 | .ops l _ _,st=>yD C st.n l st.env st.σ
 | _,_=>none
def Ms(C:Az):Nat->IC->St->Option (Exit×St)
 | 0,ic,st=>Q0 C ic st
 | k+1,ic,st=>match Q0 C ic st with
  | some r=>some r
  | none=>match eI C ic st with
   | some id=>match Rf id st with
    | some e=>Ms C k ic e
    | none=>none
   | none=>none
def BZ(C:Az)(L:JS):IC->St->Option (Exit×St)
 | .seqr l live,st=>Ms C 3 (.seqr l live) st
 | .ops l live p,st=>Ms C 3 (.ops l live p) st
 | .seq a b,st=>match BZ C L a st with
  | some (.normal,s)=>BZ C L b s
  | r=>r
 | .cond c a b,st=>match ev (get st.env) c with
  | .b true=>BZ C L a st
  | .b false=>BZ C L b st
  | _=>none
 | .block id a,st=>match BZ C L a st with
  | some (.exit e,s)=>if e=id then some (.normal,s) else some (.exit e,s)
  | r=>r
 | .loop c,st=>L (.loop c) st
 | .rfn g ps a b h live,st=>L (.rfn g ps a b h live) st
 | .wk c,st=>BZ C L c st
 | .exit id,st=>some (.exit id,st)
 | .ret,st=>some (.ret,st)
 | .skip,st=>some (.normal,st)
 | _,_=>none
def XS(P:Program)(W0:World)(nt:Nat)(r:Bool)(ic:IC)(st:St)(e:Exit)(g:St):Prop:=
 BI (Lt st.n) st.env->Cu (Lt st.n) st.σ->(st.n<=g.n/\BI (Lt g.n) g.env/\Cu (Lt g.n) g.σ)/\Og P W0 nt r ic (λe' s=>e'=e/\s=g) st
def TF(P:Program)(W0:World)(nt:Nat)(r:Bool)(L:JS):Prop:=∀ic st e g,ic.cl=true->(r=true\/ic.nr=true)->L ic st=some (e,g)->XS P W0 nt r ic st e g
theorem Mh{C:Az}(s:AF P W0 C){nt:Nat}{r:Bool}:∀{ic:IC} {st:St} {e:Exit} {g:St},ic.cl=true->Q0 C ic st=some (e,g)->XS P W0 nt r ic st e g
 | .seqr l live,st,e,g,j,h=>by
  intro t w;rw[Q0] at h;split at h
  .rename_i env σ n z;cases h;have o:∀i∈l,i.cl=true:=λi u=>List.all_eq_true.1 j i u;obtain⟨y,p,q⟩:=Vb s z o (Nat.lt_succ_self _) (t.mono (Lt.mono (Nat.le_succ _))) (w.mono (Lt.mono (Nat.le_succ _)));exact⟨⟨by simp only;omega,p.restrict _,q⟩,ZS s j z ⟨rfl,rfl⟩⟩
  .cases h
 | .ops l live paths,st,e,g,j,h=>by
  intro t w;rw[Q0] at h;split at h
  .rename_i env σ B;cases h;have o:∀i∈l,i.cl=true:=λi u=>List.all_eq_true.1 j i u;obtain⟨y,p,q⟩:=MB s B o (t.mono (Lt.mono (Nat.le_succ _))) (w.mono (Lt.mono (Nat.le_succ _)));refine⟨⟨Nat.le_succ _,p.restrict _,q⟩,s6 (env':=restrict live env) (σ':=σ) (m:=st.n+1) (QL (y _ λn' A=>⟨rfl,n',rfl⟩)) (Nat.le_succ _) (λ_ _=>⟨p.restrict _,q⟩) ⟨rfl,rfl⟩⟩
  .cases h
 | .opxe ..,st,e,g,j,h=>by cases h
 | .anyr ..,st,e,g,j,h=>by cases h
 | .seq ..,st,e,g,j,h=>by cases h
 | .cond ..,st,e,g,j,h=>by cases h
 | .block ..,st,e,g,j,h=>by cases h
 | .loop ..,st,e,g,j,h=>by cases h
 | .wk ..,st,e,g,j,h=>by cases h
 | .exit ..,st,e,g,j,h=>by cases h
 | .ret,st,e,g,j,h=>by cases h
 | .skip,st,e,g,j,h=>by cases h
 | .mnext ..,st,e,g,j,h=>by cases h
 | .opx ..,st,e,g,j,h=>by cases h
 | .opxq ..,st,e,g,j,h=>by cases h
 | .opxd ..,st,e,g,j,h=>by cases h
 | .opxv ..,st,e,g,j,h=>by cases h
 | .scope ..,st,e,g,j,h=>by cases h
 | .rfn ..,st,e,g,j,h=>by cases h
theorem Hq{C:Az}(o:AF P W0 C){nt:Nat}{r:Bool}{ic:IC}(q:ic.cl=true):∀(k:Nat) {st:St} {e:Exit} {g:St},Ms C k ic st=some (e,g)->XS P W0 nt r ic st e g
 | 0,st,e,g,h=>Mh o q h
 | k+1,st,e,g,h=>by
  rw[Ms] at h;split at h
  .rename_i r H;cases h;exact Mh o q H
  .split at h
   .split at h
    .rename_i L G;obtain⟨t,A,s⟩:=XE (W0:=W0) (nt:=nt) G;intro F J;have D:=Hq (nt:=nt) (r:=r) o q k h;obtain⟨u,y⟩:=s _ F J;rw[<-A] at u y;obtain⟨z,E⟩:=D u y;rw[A] at z;exact⟨z,λj i B a w hB p=>E j i B a w hB (t B a w p)⟩
    .cases h
   .cases h
theorem Bn{C:Az}(y:AF P W0 C){L:JS}{nt:Nat}{r:Bool}(z:TF P W0 nt r L):∀{ic:IC} {st:St} {e:Exit} {i:St},ic.cl=true->(r=true\/ic.nr=true)->BZ C L ic st=some (e,i)->XS P W0 nt r ic st e i
 | .seqr l live,st,e,i,j,_,h=>Hq y j 3 h
 | .ops l live p,st,e,i,j,_,h=>Hq y j 3 h
 | .opxe ..,st,e,i,j,_,h=>by cases h
 | .anyr ..,st,e,i,j,_,h=>by cases h
 | .seq a b,st,e,i,j,o,h=>by
  intro q t;simp only[IC.cl,Bool.and_eq_true] at j;simp only[IC.nr,Bool.and_eq_true] at o;have A:=o.imp id And.left;have D:=o.imp id And.right;rw[BZ] at h;split at h
  .rename_i s F;obtain⟨⟨u,M,N⟩,w⟩:=Bn y z j.1 A F q t;obtain⟨⟨O,R,S⟩,W⟩:=Bn y z j.2 D h M N;refine⟨⟨Nat.le_trans u O,R,S⟩,Vd (Gx w λe' E B=>?_)⟩;grind
  .rename_i T;obtain⟨u,w⟩:=Bn y z j.1 A h q t;refine⟨u,Vd (Gx w λe' E B=>?_)⟩;simp_all
 | .cond c a b,st,e,i,j,o,h=>by
  intro q t;simp only[IC.cl,Bool.and_eq_true] at j;simp only[IC.nr,Bool.and_eq_true] at o;have A:=o.imp id And.left;have D:=o.imp id And.right;rw[BZ] at h;split at h
  .rename_i H;obtain⟨u,w⟩:=Bn y z j.1 A h q t;exact⟨u,PH H w⟩
  .rename_i H;obtain⟨u,w⟩:=Bn y z j.2 D h q t;exact⟨u,PH H w⟩
  .cases h
 | .block id a,st,e,i,j,o,h=>by
  intro q t;rw[BZ] at h;split at h
  .rename_i J s F;obtain⟨u,w⟩:=Bn y z (ic:=a) j o F q t;split at h
   .rename_i G;cases h;refine⟨u,Kx (Gx w λe' E B=>?_)⟩;obtain⟨rfl,rfl⟩:=B;simp only[DU];grind
   .rename_i G;cases h;refine⟨u,Kx (Gx w λe' E B=>?_)⟩;obtain⟨rfl,rfl⟩:=B;simp only[DU];grind
  .rename_i T;obtain⟨u,w⟩:=Bn y z (ic:=a) j o h q t;refine⟨u,Kx (Gx w λe' E B=>?_)⟩;obtain⟨rfl,rfl⟩:=B;cases e' with
   | exit J=>grind
   | _=>exact⟨rfl,rfl⟩
 | .loop c,st,e,i,j,o,h=>z _ st e i j o h
 | .wk c,st,e,i,j,o,h=>by intro q t;obtain⟨u,w⟩:=Bn y z (ic:=c) j o h q t;exact⟨u,Agx w⟩
 | .exit id,st,e,i,j,o,h=>by intro q t;cases h;exact⟨⟨Nat.le_refl _,q,t⟩,gP ⟨rfl,rfl⟩⟩
 | .ret,st,e,i,j,o,h=>by intro q t;cases h;exact⟨⟨Nat.le_refl _,q,t⟩,sD ⟨rfl,rfl⟩⟩
 | .skip,st,e,i,j,o,h=>by intro q t;cases h;exact⟨⟨Nat.le_refl _,q,t⟩,f7 ⟨rfl,rfl⟩⟩
 | .mnext ..,st,e,i,j,o,h=>by cases h
 | .opx ..,st,e,i,j,o,h=>by cases h
 | .opxq ..,st,e,i,j,o,h=>by cases h
 | .opxd ..,st,e,i,j,o,h=>by cases h
 | .opxv ..,st,e,i,j,o,h=>by cases h
 | .scope ..,st,e,i,j,o,h=>by cases h
 | .rfn g ps a b U live,st,e,i,j,o,h=>z _ st e i j o h
end
end
end Go.Ir
end
section
namespace Go.Ir
open Go.RowKit
noncomputable section
variable[FV]
def XR(C:Az)(nt:Nat)(g:X)(ps:List Nat)(a b:IC)(h live:List Nat)(st:St):Option (Exit×St):=
 match ev (get st.env) g with
 | .fn f first e=>match Ws f (first++[.arr (st.n,0)]++e) with
  | some (f,args)=>match C f args (((st.n,0),.loop nt (restrict h st.env) ps a b .ready none)::st.σ) (st.n+1) with
   | some (_,σ',n')=>match En σ' (st.n,0) with
    | some (.loop _ _ _ _ _ s i)=>bif KB s then none else some (tM i,⟨restrict live st.env,MM σ' (st.n,0),n'⟩)
    | _=>none
   | none=>none
  | none=>none
 | _=>none
section
variable{P:Program}{W0:World}{nt:Nat}
theorem Tz{C:Az}(hC:AF P W0 C)(hP:GZ P){g:X}{ps:List Nat}{a b:IC}{E live:List Nat}{st:St}{e:Exit}{p:St}(Z:(IC.rfn g ps a b E live).cl=true)(h:XR C nt g ps a b E live st=some (e,p)):XS P W0 nt true (.rfn g ps a b E live) st e p:=by
 intro O hs;unfold XR at h;split at h
 .rename_i f0 first D hg
  split at h
  .rename_i f args N;split at h
   .rename_i v σ' n' y;split at h
    .rename_i ak W al a1 b1 s pd J;rw[B4] at J;cases u:KB s with
     | true=>rw[u] at h;cases h
     | false=>
     rw[u] at h;simp only[cond_false,Option.some.injEq,Prod.mk.injEq] at h;obtain⟨rfl,rfl⟩:=h;rw[HE];obtain⟨rfl,i,q⟩:=H4 N;simp only[IC.cl,Bool.and_eq_true] at Z;have F:Bg (Lt st.n) (.fn f0 first D):=by rw[<-hg];exact X.cl_in Z.1.1 O
     have r:Lt (st.n+1) (st.n,0):=Nat.lt_succ_self _;have S:Cu (Lt (st.n+1)) (((st.n,0),AX.loop nt (restrict E st.env) ps a b .ready none)::st.σ):=
      (hs.mono (Lt.mono (Nat.le_succ _))).cons r (.loop _ _ _ _ _ _ _ ((O.restrict E).mono (Lt.mono (Nat.le_succ _))) (by grind))
     have L:∀x∈args,Bg (Lt (st.n+1)) x:=by
      rw[<-i];intro x o;simp only[List.append_assoc,List.mem_append,List.mem_singleton] at o;rcases o with o|rfl|o
      .exact(F.fn_inv.1 x o).mono (Lt.mono (Nat.le_succ _))
      .exact .arr _ r
      .exact(F.fn_inv.2 x o).mono (Lt.mono (Nat.le_succ _))
     have A:=hC _ _ _ _ _ _ _ y L S;have G:st.n<=n':=Nat.le_of_succ_le A.le;have Y:=(O.restrict live).mono (Lt.mono G);refine⟨⟨G,Y,A.sin.del _⟩,λU z B ad w hB M=>?_⟩;refine Bm (Q4 (Q:=λe s=>e=tM pd/\s=⟨restrict live st.env,del σ' (st.n,0),n'⟩) hP hg (A.callable q) (λw μ H vals hp hv=>?_) z (hB rfl) M.1) λe a' w' ⟨B',o,p,⟨h1,h2⟩,ha⟩=>⟨B',o.1,p,⟨h1,h2⟩,ha,by rw[h2];exact Y,by rw[h2];exact A.sin.del _,o.2⟩
     have t:=A.run w μ H vals hp (by rw[<-i];exact hv);rw[CB q] at t;refine Calls.mono t ?_;rintro e w' ⟨val,T,H',rfl,aj,R,hf,j⟩;exact⟨val,T,H',n',σ',rfl,⟨_,_,_,_,_,s,pd,J,u,rfl,rfl⟩,R,A.le,hf,j⟩
    .cases h
   .cases h
  .cases h
 .cases h
end
end
end Go.Ir
end
section
namespace Go.Ir
open Go.RowKit
noncomputable section
variable[FV]
def FH(σ' σ:Aj):Prop:=∀id e,lk σ' id=some e->lk σ id=some e
theorem RS.sub{W0:World}{nt:Nat}{B:Ic}{env:AB}{σ σ':Aj}{n:Nat}{a:Act}{w:World}(h:RS W0 nt B ⟨env,σ,n⟩ a w)(q:FH σ' σ):RS W0 nt B ⟨env,σ',n⟩ a w:=by obtain⟨⟨μ,H,A,hp,i,j,y,o⟩,u,r,t⟩:=h;refine⟨⟨μ,H,A,hp.part q,⟨i.mu,i.hp,i.size,i.keep,i.pin,λs g z=>i.dom s g ?_⟩,j,y,o⟩,u,λid e p=>r id e (q _ _ p),t⟩;obtain⟨id,e,p,g⟩:=z;exact⟨id,e,q _ _ p,g⟩
def uO(n0:Nat)(σ:Aj):List Id:=List.rec (motive:=λ_=>List Id) [] (λp _ e=>Bool.rec (motive:=λ_=>List Id) e (p.1::e) (Nat.blt p.1.1 n0)) σ
def AhN(n0:Nat)(σ:Aj):Nat:=List.rec (motive:=λ_=>Nat) 0 (λp _ e=>Bool.rec (motive:=λ_=>Nat) (Nat.succ e) e (Nat.blt p.1.1 n0)) σ
def ZT(n0:Nat)(e:List V)(σ:Aj):Aj:=
 Bool.rec (motive:=λ_=>Aj) (Mg (T6 σ 100000 (Ul e (uO n0 σ)) []) σ) σ (Nat.ble (AhN n0 σ) 12)
theorem JH(n0:Nat)(g:List V)(σ:Aj):FH (ZT n0 g σ) σ:=by
 intro id e h;unfold ZT at h;cases i:Nat.ble (AhN n0 σ) 12 with
 | true=>rw[i] at h;exact h
 | false=>rw[i] at h;have h:lk (Mg (T6 σ 100000 (Ul g (uO n0 σ)) []) σ) id=some e:=h;unfold Mg at h;rw[Lu] at h;grind
def OA(n0:Nat)(st:St):St:=⟨st.env,ZT n0 (st.env.map (·.2)) st.σ,st.n⟩
section
variable{P:Program}{W0:World}
def Cp(C:Az)(nt n0:Nat):Nat->JS
 | 0=>λ_ _=>none
 | k+1=>λic st=>match ic with
  | .loop c=>match BZ C (Cp C nt n0 k) c st with
   | some (.normal,s)=>Cp C nt n0 k (.loop c) (OA n0 s)
   | r=>r
  | .rfn g ps a b e live=>XR C nt g ps a b e live st
  | _=>none
theorem Hg{C:Az}(A:AF P W0 C)(hP:GZ P){nt n0:Nat}{r:Bool}:∀k,TF P W0 nt r (Cp C nt n0 k):=by
 intro k
 induction k using Nat.strongRecOn with
 | _ k W=>
 cases k with
 | zero=>intro c st e i _ _ h;cases h
 | succ k=>
  have U:=W k (Nat.lt_succ_self _);intro ic st e i q j h;cases ic with
  | rfn g ps a b en live=>
   have hr:r=true:=by
    rcases j with t|t
    .exact t
    .cases t
   subst hr;exact Tz A hP q h
  | loop c=>
   have q:c.cl=true:=q;have j:r=true\/c.nr=true:=j;intro N S;have o:(match BZ C (Cp C nt n0 k) c st with
    | some (.normal,s)=>Cp C nt n0 k (.loop c) (OA n0 s)
    | r=>r)=some (e,i):=h
   have names:∀s,BZ C (Cp C nt n0 k) c st=some (.normal,s)->XS P W0 nt r c st .normal s:=λs p=>Bn A U q j p;have O:st.n<=i.n/\BI (Lt i.n) i.env/\Cu (Lt i.n) i.σ:=by
    split at o
    .rename_i s p;obtain⟨⟨t,Y,G⟩,_⟩:=names s p N S;have H:Cu (Lt s.n) (OA n0 s).σ:=λid e R=>G id e (JH _ _ _ _ _ R);obtain⟨⟨J,z,h6⟩,_⟩:=U (.loop c) (OA n0 s) e i q j o Y H;exact⟨Nat.le_trans t J,z,h6⟩
    .exact(Bn A U q j o N S).1
   refine⟨O,?_⟩;refine bP (Inv:=λm s=>m<=k+1/\Cp C nt n0 m (.loop c) s=some (e,i)/\BI (Lt s.n) s.env/\Cu (Lt s.n) s.σ) (λm s hI=>?_) (k+1) ⟨Nat.le_refl _,h,N,S⟩;obtain⟨hm,p,D,E⟩:=hI;cases m with
   | zero=>cases p
   | succ m=>
    have p:(match BZ C (Cp C nt n0 m) c s with
     | some (.normal,s)=>Cp C nt n0 m (.loop c) (OA n0 s)
     | r=>r)=some (e,i):=p
    have F:TF P W0 nt r (Cp C nt n0 m):=W m (by omega);split at p
    .rename_i s1 t;obtain⟨⟨Y,G,J⟩,z⟩:=Bn A F q j t D E;have L:Cu (Lt s1.n) (OA n0 s1).σ:=λid e R=>J id e (JH _ _ _ _ _ R);intro y u B a w hB M;refine Bm (z y u B a w hB M) λe' a w Z=>?_;obtain⟨B',T,s2,⟨rfl,rfl⟩,ha⟩:=Z;exact⟨B',T,OA n0 s2,⟨m,Nat.lt_succ_self _,by omega,p,G,L⟩,RS.sub ha (JH _ _ _)⟩
    .rename_i hr;obtain⟨_,z⟩:=Bn A F q j p D E;refine Gx z λe' s' Z=>?_;simp_all
  | _=>cases h
theorem LH{S:Id->Prop}:∀{ps:List Nat} {vs:List V} {env:AB},(∀v∈vs,Bg S v)->BI S env->BI S (IZ ps vs env)
 | [],_,_,_,e=>e
 | _::_,[],_,_,e=>e
 | p::ps,v::vs,env,g,e=>LH (ps:=ps) (λx h=>g x (by simp[h])) (e.put (d:=some p) (g v (by simp)))
def QN(C:Az)(K:Nat)(args:List V)(σ:Aj)(n:Nat):Option (V×Aj×Nat):=match args with
 | .arr id::vs=>match En σ id with
  | some (.loop nt env ps a b .ready B)=>bif Nat.beq vs.length ps.length&&ps.all (λp=>Nat.blt p nt) then(match BZ C (Cp C nt n K) a ⟨IZ ps vs env,σ,n⟩ with
   | some (.normal,s1)=>(match En s1.σ id with
    | some (.loop j h r u w .ready q)=>(match BZ C (Cp C nt n K) b ⟨s1.env,Ke s1.σ id (.loop j h r u w .busy q),s1.n⟩ with
     | some (e,t)=>(match DS e with
      | some g=>(match En t.σ id with
       | some (.loop o i s a2 y A z)=>some (.b g.isNone,ZT n [] (Ke t.σ id (.loop o i s a2 y (bif g.isNone then .ready else .done) g)),t.n)
       | _=>none)
      | none=>none)
     | none=>none)
    | _=>none)
   | _=>none) else none
  | _=>none
 | _=>none
theorem sJ{C:Az}(hC:AF P W0 C)(hP:GZ P){K:Nat}{args:List V}{σ σ':Aj}{n n':Nat}{v:V}(h:QN C K args σ n=some (v,σ',n'))(ha:∀a∈args,Bg (Lt n) a)(hs:Cu (Lt n) σ):DL P W0 Eq args σ n v σ' n':=by
 unfold QN at h;split at h
 .rename_i id vs;split at h
  .rename_i nt env ps a b pd L;rw[B4] at L;cases T:(Nat.beq vs.length ps.length&&ps.all λp=>Nat.blt p nt) with
   | false=>rw[T] at h;cases h
   | true=>
   rw[T] at h;simp only[cond_true] at h;rw[Bool.and_eq_true,Nat.beq_eq] at T;split at h
   .rename_i s1 ay;split at h
    .rename_i ad A af a1 b1 ae u;rw[B4] at u;split at h
     .rename_i e G ab;split at h
      .rename_i g aw;split at h
       .rename_i s i t a2 O aB az y;rw[B4] at y;cases h;rw[FD] at ab⊢;obtain⟨D,q⟩:=(hs _ _ L).2.loop_inv;simp only[Bool.and_eq_true] at q;have aa:∀x∈vs,Bg (Lt n) x:=λx hx=>ha x (by simp[hx]);have am:=Bn (nt:=nt) (r:=false) hC (Hg hC hP K) q.1.1 (.inr q.2.1) ay;obtain⟨⟨q1,q2,q3⟩,q4⟩:=am (LH aa D) hs;have ag:Cu (Lt s1.n) (upd s1.σ id (.loop ad A af a1 b1 .busy ae)):=q3.upd u (by obtain⟨h1,M⟩:=(q3 _ _ u).2.loop_inv;exact .loop _ _ _ _ _ _ _ h1 M);have an:=Bn (nt:=nt) (r:=false) hC (Hg hC hP K) q.1.2 (.inr q.2.2) ab;obtain⟨⟨q5,q6,q7⟩,q8⟩:=an q2 ag;have aA:Cu (Lt G.n) (upd G.σ id (.loop s i t a2 O (bif g.isNone then .ready else .done) g)):=q7.upd y (by obtain⟨h1,M⟩:=(q7 _ _ y).2.loop_inv;exact .loop _ _ _ _ _ _ _ h1 M);have E:=JH n [] (upd G.σ id (.loop s i t a2 O (bif g.isNone then .ready else .done) g));simp only at q1 q5;refine⟨λh=>absurd rfl h,Nat.le_trans q1 q5,.b _,λj x hj=>aA j x (E _ _ hj),λw μ H vals hp J=>?_⟩;refine EO.mono (f:=Eq) (R:=λe w'=>∃val z H' n' vv σ',e=.returned val/\(n'=G.n/\vv=.b g.isNone/\σ'=ZT n [] (upd G.σ id (.loop s i t a2 O (bif g.isNone then .ready else .done) g)))/\Ap z H' vv val/\Hp W0 σ' n' z H' w'/\n<=n'/\Fr μ H σ w z H' σ' w'/\∀id,id.1<n->μ id=none->z id=none) ?_ ?_
        .unfold EO;rw[if_pos rfl];refine MZ (R:=λ_ n' vv σ'=>n'=G.n/\vv=.b g.isNone/\σ'=ZT n [] (upd G.σ id (.loop s i t a2 O (bif g.isNone then .ready else .done) g))) hp J L T.1 T.2 λl ca cb ap aq aJ ao=>?_;refine Bm (q4 ca ((hP _ _ _).1 ap) _ _ _ (λh=>by cases h) ⟨ao,LH aa D,hs,λid av=>hp.bd id av⟩) λe1 N w1 ar=>?_;obtain⟨B1,F,aR,⟨U,Y⟩,o⟩:=ar;rw[Y] at o;refine⟨U,B1,s1,ad,A,af,a1,b1,ae,F,o.1,u,λw2 S=>?_⟩;have M:=q8 cb ((hP _ _ _).1 aq) B1 N w2 (λh=>by cases h) ⟨S,q2,ag,o.2.2.2⟩;rw[F.ro] at M;refine Bm M λe2 aE w3 au=>?_;obtain⟨B2,ac,aS,⟨W,Z⟩,B⟩:=au;rw[Z] at B;rw[W];exact⟨B2,G,g,s,i,t,a2,O,aB,az,_,Zj aw,ac,B.1,y,E,rfl,rfl,rfl⟩
        grind
       .cases h
      .cases h
     .cases h
    .cases h
   .cases h
  .cases h
 .cases h
def Abk(env:AB)(σ:Aj):R->Option V
 | .t s=>some (get env s)
 | .c s n g=>match get env s with
  | .ref id e=>match En σ id with
   | some (.box u)=>sub u e n g
   | _=>none
  | _=>none
def KZ(env:AB)(σ:Aj):List R->Option (List V)
 | []=>some []
 | r::e=>match Abk env σ r with
  | some v=>match KZ env σ e with
   | some vs=>some (v::vs)
   | none=>none
  | none=>none
theorem nI{S:Id->Prop}{st:St}{r:R}{v:V}(h:Abk st.env st.σ r=some v)(i:BI S st.env)(o:Cu S st.σ):KU st r v/\Bg S v:=by
 cases r with
 | t s=>cases h;exact⟨rfl,i s⟩
 | c s n p=>
  simp only[Abk] at h;split at h
  .rename_i id g j;split at h
   .rename_i u e;rw[B4] at e;exact⟨⟨id,g,u,j,e,h⟩,I2 h (o _ _ e).2.box_inv⟩
   .cases h
  .cases h
theorem PG{S:Id->Prop}{st:St}(g:BI S st.env)(i:Cu S st.σ):∀{e:List R} {vs:List V},KZ st.env st.σ e=some vs->D4 st e vs/\∀v∈vs,Bg S v
 | [],vs,h=>by cases h;exact⟨trivial,λv s=>by cases s⟩
 | r::e,vs,h=>by
  rw[KZ] at h;split at h
  .rename_i v j;split at h
   .rename_i t o;cases h;obtain⟨p,u⟩:=nI j g i;obtain⟨q,w⟩:=PG g i o;exact⟨⟨p,q⟩,λx y=>by grind
⟩
   .cases h
  .cases h
theorem mT{S:Id->Prop}{vs:List V}(h:∀v∈vs,Bg S v):Bg S (JA vs):=by
 unfold JA;split
 .exact h _ (by simp)
 .exact .tup _ h
structure B7 where
 nt:Nat
 ic:IC
 rs:List R
def X0(F:B7)(n:Nat)(st:St):Option (V×Aj×Nat):=
 match KZ st.env st.σ F.rs with
 | some vs=>some (JA vs,ZT n [JA vs] st.σ,st.n)
 | none=>none
def zX(C:Az)(k:Nat)(F:B7)(args:List V)(σ:Aj)(n:Nat):Option (V×Aj×Nat):=
 bif Nat.ble args.length F.nt then(match BZ C (Cp C F.nt n k) F.ic ⟨params 0 args,σ,n⟩ with
  | some (.ret,st)=>X0 F n st
  | some (.normal,st)=>X0 F n st
  | _=>none) else none
def Fw(P:Program)(T:FuncId->Option B7):Prop:=∀f F,T f=some F->AD P f F.nt F.ic F.rs=true/\F.ic.cl=true
def EI(T:FuncId->Option B7)(B:Az)(K:Nat):Nat->Az
 | 0=>λ_ _ _ _=>none
 | k+1=>λf args σ n=>bif Nat.beq f Eq then QN (EI T B K k) K args σ n else(match T f with
  | some F=>zX (EI T B K k) K F args σ n
  | none=>B f args σ n)
theorem NT{S:Id->Prop}{args:List V}(h:∀a∈args,Bg S a):BI S (params 0 args):=by
 intro s;rw[Iy];simp only[Nat.zero_le,Nat.sub_zero];cases e:args[s]? with
 | none=>exact .any
 | some v=>exact Dt h e
theorem LA{T:FuncId->Option B7}{B:Az}{K:Nat}(hT:Fw P T)(hB:AF P W0 B)(hP:GZ P):∀k,AF P W0 (EI T B K k):=by
 intro k
 induction k with
 | zero=>intro f args σ n v σ' n' h;cases h
 | succ k ih=>
  intro f args σ n v σ' n' h J L;have h:(bif Nat.beq f Eq then QN (EI T B K k) K args σ n else(match T f with
   | some F=>zX (EI T B K k) K F args σ n
   | none=>B f args σ n))=some (v,σ',n'):=h
  cases M:Nat.beq f Eq with
  | true=>rw[M] at h;have hf:f=Eq:=Nat.eq_of_beq_eq_true M;subst hf;exact sJ ih hP h J L
  | false=>
  rw[M] at h;simp only[cond_false] at h;have ab:f≠Eq:=by rintro rfl;simp at M
  split at h
  .rename_i F hF;obtain⟨W,Y⟩:=hT f F hF;unfold zX at h;cases O:Nat.ble args.length F.nt with
   | false=>rw[O] at h;cases h
   | true=>
   rw[O] at h;simp only[cond_true] at h;have u:args.length<=F.nt:=Nat.le_of_ble_eq_true O;have key:∀e st,(e=.ret\/e=.normal)->BZ (EI T B K k) (Cp (EI T B K k) F.nt n K) F.ic ⟨params 0 args,σ,n⟩=some (e,st)->X0 F n st=some (v,σ',n')->DL P W0 f args σ n v σ' n':=by
    intro e st Z p g;unfold X0 at g;split at g
    .rename_i vs ah;cases g;obtain⟨⟨h1,h2,h3⟩,h4⟩:=Bn (nt:=F.nt) (r:=true) ih (Hg ih hP K) Y (.inl rfl) p (NT J) L;obtain⟨h5,h6⟩:=PG h2 h3 ah;have j:=JH n [JA vs] st.σ;obtain⟨fn,c,hf,S,o,ae,ag,t⟩:=HF W;refine⟨λ_=>t,h1,mT h6,λid e hl=>h3 id e (j _ _ hl),λw μ H vals hp hv=>?_⟩;rw[CB ab];have y:fn.ntmps=F.nt:=ae;have N:=Jv (nt:=F.nt) u hp hv;refine E8 (nt:=F.nt) (Q:=λe' s=>e'=e/\s=st) hf S hp ?_ (λe' s C=>by
      rw[C.1];rcases Z with rfl|rfl
      .exact .inr rfl
      .exact .inl rfl) (λe' G a aj H' C _ hn z w' af A i=>?_)
     .rw[y];exact Bm (h4 c o ⟨μ,H,σ,w,n,none,[]⟩ _ w (λ_=>rfl) ⟨N,NT J,L,λid ac=>hp.bd id ac⟩) λe' a' w' hh=>by obtain⟨B',p,G,C,q⟩:=hh;exact⟨B',p,G,C,q.1⟩
     .obtain⟨_,rfl⟩:=C;obtain⟨val,E,D⟩:=FJ af A ag h5;refine⟨val,E,val,aj,H',rfl,D,A.part j,⟨i.mu,i.hp,i.size,i.keep,i.pin,λbk U ho=>i.dom bk U ?_⟩,z⟩;obtain⟨id,e,hl,R⟩:=ho;exact⟨id,e,j _ _ hl,R⟩
    .cases g
   split at h
   .rename_i st p;exact key _ st (.inl rfl) p h
   .rename_i st p;exact key _ st (.inr rfl) p h
   .cases h
  .exact hB f args σ n v σ' n' h J L
theorem MT{T:FuncId->Option B7}{B:Az}{K k:Nat}(j:Fw P T)(hB:AF P W0 B)(i:GZ P){f:FuncId}{args:List V}{v:V}{σ':Aj}{n':Nat}(h:EI T B K k f args [] 0=some (v,σ',n'))(g:IS 0 args=true)(r:Nh 0 v=true)(o:f≠Eq:=by decide):An P W0 f args [] v []:=
 An.of_at o (LA j hB i k _ _ _ _ _ _ _ h (CU.2 args g) Cu.nil) (CU.2 args g) Cu.nil (λid e p=>by cases p) (λid q=>absurd rfl q) (CU.1 v r) Cu.nil
end
end
end Go.Ir
end
section
namespace Go.Ir
open Go.RowKit
noncomputable section
variable[FV]
section force
variable{β:Type}
def Cy(n:Nat)(k:Nat->β):β:=Nat.rec (motive:=λ_=>β) (k 0) (λm _=>k (Nat.succ m)) n
theorem BT(n:Nat)(k:Nat->β):Cy n k=k n:=by cases n<;>rfl
def IM(n:Int)(k:Int->β):β:=Int.rec (motive:=λ_=>β) (λa=>Cy a λa=>k (.ofNat a)) (λa=>Cy a λa=>k (.negSucc a)) n
theorem Ks(n:Int)(k:Int->β):IM n k=k n:=by
 cases n with
 | ofNat a=>exact BT a λa=>k (.ofNat a)
 | negSucc a=>exact BT a λa=>k (.negSucc a)
def IV(b:Bool)(k:Bool->β):β:=Bool.rec (motive:=λ_=>β) (k false) (k true) b
theorem HK(b:Bool)(k:Bool->β):IV b k=k b:=by cases b<;>rfl
def P3(c:UInt8)(k:UInt8->β):β:=Cy c.toNat λn=>k (UInt8.ofNat n)
theorem Xd(c:UInt8)(k:UInt8->β):P3 c k=k c:=by unfold P3;rw[BT,UInt8.ofNat_toNat]
def OZ(l:List UInt8)(k:List UInt8->β):β:=List.rec (motive:=λ_=>(List UInt8->β)->β) (λk=>k []) (λc _ e k=>P3 c λc=>e λl=>k (c::l)) l k
theorem Wt(l:List UInt8):∀k:List UInt8->β,OZ l k=k l:=by
 induction l with
 | nil=>intro k;rfl
 | cons c l e=>intro k;rw[show OZ (c::l) k=P3 c λc=>OZ l λl=>k (c::l) from rfl,Xd];exact e _
def hB(x:Bool)(k:V->β):β:=k (.b x)
def hI(a:IntKind)(n:Int)(k:V->β):β:=k (.i a n)
def hS(l:List UInt8)(k:V->β):β:=k (.s l)
def AuL(k:V->β):β:=k .nil
def GB(l:List V)(k:V->β):β:=k (.sl l)
def AsX(l:List V)(k:V->β):β:=k (.agg l)
def AsA(l:List V)(k:V->β):β:=k (.tup l)
def Ata(id:Id)(o:Nat)(k:V->β):β:=k (.ref id o)
def Aua(id:Id)(k:V->β):β:=k (.arr id)
def Ah8(id:Id)(a b c:Nat)(k:V->β):β:=k (.aref id a b c)
def GD(e:V)(o:Nat)(k:V->β):β:=k (.ep e o)
def Im(f:FuncId)(a c:List V)(k:V->β):β:=k (.fn f a c)
def Jz(k:V->β):β:=k .np
def Ha(k:V->β):β:=k .nf
def Lb(k:V->β):β:=k .ni
def Hi(k:V->β):β:=k .nm
def Ia(k:V->β):β:=k .ub
def J7(k:V->β):β:=k .iv
def Asj(k:V->β):β:=k .any
def CW(v:V)(k:V->β):β:=V.casesOn (motive_1:=λ_=>(V->β)->β) v hB hI hS AuL GB AsX AsA Ata Aua Ah8 GD Im Jz Ha Lb Hi Ia J7 Asj k
theorem Dp(v:V)(k:V->β):CW v k=k v:=by cases v<;>rfl
def Ba(l:List V)(k:List V->β):β:=List.rec (motive:=λ_=>(List V->β)->β) (λk=>k []) (λv _ e k=>CW v λv=>e λl=>k (v::l)) l k
theorem Bi(l:List V):∀k:List V->β,Ba l k=k l:=by
 induction l with
 | nil=>intro k;rfl
 | cons c l e=>intro k;rw[show Ba (c::l) k=CW c λc=>Ba l λl=>k (c::l) from rfl,Dp];exact e _
def GC(id:Id)(k:Id->β):β:=Cy id.1 λa=>Cy id.2 λb=>k (a,b)
theorem IB(id:Id)(k:Id->β):GC id k=k id:=by unfold GC;rw[BT,BT]
def SL(a:IntKind)(k:IntKind->β):β:=
 match a with
 | .i8=>k .i8|.i16=>k .i16|.i32=>k .i32|.i64=>k .i64|.u8=>k .u8|.u16=>k .u16|.u32=>k .u32|.u64=>k .u64
theorem Wb(a:IntKind)(k:IntKind->β):SL a k=k a:=by cases a<;>rfl
def vB(x:Bool)(_:Bool)(k:V->β):β:=IV x λx=>k (.b x)
def vI(a:IntKind)(n:Int)(_:Bool)(k:V->β):β:=SL a λa=>IM n λn=>k (.i a n)
def AnO(l:List UInt8)(e:Bool)(k:V->β):β:=bif e then OZ l λl=>k (.s l) else k (.s l)
def Ama(_:Bool)(k:V->β):β:=k .nil
def Gq(es:List V)(_:Bool)(k:V->β):β:=Ba es λes=>k (.sl es)
def Alp(es:List V)(_:Bool)(k:V->β):β:=Ba es λes=>k (.agg es)
def As9(es:List V)(_:Bool)(k:V->β):β:=Ba es λes=>k (.tup es)
def Ajx(id:Id)(o:Nat)(_:Bool)(k:V->β):β:=GC id λid=>Cy o λo=>k (.ref id o)
def Aln(id:Id)(_:Bool)(k:V->β):β:=GC id λid=>k (.arr id)
def uE(id:Id)(a b c:Nat)(_:Bool)(k:V->β):β:=GC id λid=>Cy a λa=>Cy b λb=>Cy c λc=>k (.aref id a b c)
def Fi(e:V)(o:Nat)(_:Bool)(k:V->β):β:=CW e λe=>Cy o λo=>k (.ep e o)
def Ga(f:FuncId)(a c:List V)(_:Bool)(k:V->β):β:=Ba a λa=>Ba c λc=>k (.fn f a c)
def E2(_:Bool)(k:V->β):β:=k .np
def FA(_:Bool)(k:V->β):β:=k .nf
def EH(_:Bool)(k:V->β):β:=k .ni
def FP(_:Bool)(k:V->β):β:=k .nm
def Fh(_:Bool)(k:V->β):β:=k .ub
def Gv(_:Bool)(k:V->β):β:=k .iv
def Am9(_:Bool)(k:V->β):β:=k .any
def E4(e:Bool)(v:V)(k:V->β):β:=V.casesOn (motive_1:=λ_=>Bool->(V->β)->β) v vB vI AnO Ama Gq Alp As9 Ajx Aln uE Fi Ga E2 FA EH FP Fh Gv Am9 e k
theorem AM(d:Bool)(v:V)(k:V->β):E4 d v k=k v:=by
 cases v with
 | b x=>exact HK x λx=>k (.b x)
 | i a n=>show SL a (λa=>IM n λn=>k (.i a n))=_;rw[Wb,Ks]
 | s l=>cases d
        .rfl
        .exact Wt l λl=>k (.s l)
 | sl es=>exact Bi es λes=>k (.sl es)
 | agg es=>exact Bi es λes=>k (.agg es)
 | tup es=>exact Bi es λes=>k (.tup es)
 | ref id o=>show GC id (λid=>Cy o λo=>k (.ref id o))=_;rw[IB,BT]
 | arr id=>exact IB id λid=>k (.arr id)
 | aref id a b c=>show GC id (λid=>Cy a λa=>Cy b λb=>Cy c λc=>k (.aref id a b c))=_;rw[IB,BT,BT,BT]
 | ep e o=>show CW e (λe=>Cy o λo=>k (.ep e o))=_;rw[Dp,BT]
 | fn f a c=>show Ba a (λa=>Ba c λc=>k (.fn f a c))=_;rw[Bi,Bi]
 | _=>rfl
def L8(l:List V)(k:List V->β):β:=List.rec (motive:=λ_=>(List V->β)->β) (λk=>k []) (λv _ e k=>E4 true v λv=>e λl=>k (v::l)) l k
theorem Tj(l:List V):∀k:List V->β,L8 l k=k l:=by
 induction l with
 | nil=>intro k;rfl
 | cons c l e=>intro k;rw[show L8 (c::l) k=E4 true c λc=>L8 l λl=>k (c::l) from rfl,AM];exact e _
def ArR(es:List V)(e:Bool)(k:V->β):β:=bif e then L8 es λes=>k (.tup es) else Ba es λes=>k (.tup es)
def FX(e:Bool)(v:V)(k:V->β):β:=V.casesOn (motive_1:=λ_=>Bool->(V->β)->β) v vB vI AnO Ama Gq Alp ArR Ajx Aln uE Fi Ga E2 FA EH FP Fh Gv Am9 e k
theorem DM(d:Bool)(v:V)(k:V->β):FX d v k=k v:=by
 cases v with
 | tup es=>cases d
           .exact Bi es λes=>k (.tup es)
           .exact Tj es λes=>k (.tup es)
 | b x=>exact AM d (.b x) k
 | i a n=>exact AM d (.i a n) k
 | s l=>exact AM d (.s l) k
 | nil=>exact AM d (.nil ) k
 | sl es=>exact AM d (.sl es) k
 | agg es=>exact AM d (.agg es) k
 | ref id o=>exact AM d (.ref id o) k
 | arr id=>exact AM d (.arr id) k
 | aref id a b c=>exact AM d (.aref id a b c) k
 | ep e o=>exact AM d (.ep e o) k
 | fn f a c=>exact AM d (.fn f a c) k
 | np=>exact AM d (.np ) k
 | nf=>exact AM d (.nf ) k
 | ni=>exact AM d (.ni ) k
 | nm=>exact AM d (.nm ) k
 | ub=>exact AM d (.ub ) k
 | iv=>exact AM d (.iv ) k
 | any=>exact AM d (.any ) k
def LC(l:List (V×V))(k:List (V×V)->β):β:=List.rec (motive:=λ_=>(List (V×V)->β)->β) (λk=>k []) (λp _ e k=>CW p.1 λa=>CW p.2 λb=>e λl=>k ((a,b)::l)) l k
theorem Tb(l:List (V×V)):∀k:List (V×V)->β,LC l k=k l:=by
 induction l with
 | nil=>intro k;rfl
 | cons c l e=>intro k;rw[show LC (c::l) k=CW c.1 λa=>CW c.2 λb=>LC l λl=>k ((a,b)::l) from rfl,Dp,Dp];exact e _
def Lq(l:AB)(k:AB->β):β:=List.rec (motive:=λ_=>(AB->β)->β) (λk=>k []) (λp _ e k=>Cy p.1 λa=>CW p.2 λb=>e λl=>k ((a,b)::l)) l k
theorem Si(l:AB):∀k:AB->β,Lq l k=k l:=by
 induction l with
 | nil=>intro k;rfl
 | cons c l e=>intro k;rw[show Lq (c::l) k=Cy c.1 λa=>CW c.2 λb=>Lq l λl=>k ((a,b)::l) from rfl,BT,Dp];exact e _
def My(e:AX)(k:AX->β):β:=
 match e with
 | .box v=>E4 false v λv=>k (.box v)
 | .tbox t v=>E4 false v λv=>k (.tbox t v)
 | .arr t sz es=>Ba es λes=>k (.arr t sz es)
 | .map es=>LC es λes=>k (.map es)
 | .it l p=>Cy p λp=>k (.it l p)
 | .mit mid s h st=>k (.mit mid s h st)
 | .loop nt env ps a b st g=>Lq env λenv=>k (.loop nt env ps a b st g)
theorem Ol(e:AX)(k:AX->β):My e k=k e:=by cases e<;>simp only[My,AM,Bi,Tb,BT,Si]
def AsU(v:V)(k:AX->β):β:=k (.box v)
def All(t:TypeId)(v:V)(k:AX->β):β:=k (.tbox t v)
def AsY(t sz:Nat)(es:List V)(k:AX->β):β:=k (.arr t sz es)
def Auk(es:List (V×V))(k:AX->β):β:=k (.map es)
def Lo(l:List UInt8)(p:Nat)(k:AX->β):β:=k (.it l p)
def AsZ(m:Id)(a:Nat)(b:List Nat)(c:Nat)(k:AX->β):β:=k (.mit m a b c)
def Ajb(nt:Nat)(env:AB)(ps:List Nat)(a b:IC)(st:LoopState)(e:Option (Option Nat))(k:AX->β):β:=k (.loop nt env ps a b st e)
def OX(e:AX)(k:AX->β):β:=AX.casesOn (motive:=λ_=>(AX->β)->β) e AsU All AsY Auk Lo AsZ Ajb k
theorem T0(e:AX)(k:AX->β):OX e k=k e:=by cases e<;>rfl
def CD(σ:Aj)(k:Aj->β):β:=List.rec (motive:=λ_=>(Aj->β)->β) (λk=>k []) (λp _ g k=>Prod.rec (motive:=λ_=>β) (λid e=>OX e λe=>g λl=>k ((id,e)::l)) p) σ k
theorem C8(σ:Aj):∀k:Aj->β,CD σ k=k σ:=by
 induction σ with
 | nil=>intro k;rfl
 | cons p σ g=>intro k;obtain⟨id,e⟩:=p;rw[show CD ((id,e)::σ) k=OX e λe=>CD σ λl=>k ((id,e)::l) from rfl,T0];exact g _
end force
def Kp(env:AB)(s:Nat):V:=List.rec (motive:=λ_=>V) .any (λp _ e=>bif Nat.beq p.1 s then p.2 else e) env
theorem JU:∀(env:AB),Kp env=get env:=by
 intro env;funext s
 induction env with
 | nil=>rfl
 | cons p env e=>obtain⟨k,v⟩:=p;show(bif Nat.beq k s then v else Kp env s)=_;rw[e];simp only[get];simp_all
def Ez{β:Type}(live:List Nat)(env:AB)(k:AB->β):β:=List.rec (motive:=λ_=>(AB->β)->β) (λk=>k []) (λs _ e k=>CW (Kp env s) λv=>e λl=>k ((s,v)::l)) live k
theorem GJ{β:Type}(live:List Nat)(env:AB):∀k:AB->β,Ez live env k=k (restrict live env):=by
 induction live with
 | nil=>intro k;rfl
 | cons s l e=>intro k;rw[show Ez (s::l) env k=CW (Kp env s) λv=>Ez l env λl=>k ((s,v)::l) from rfl,Dp,JU];exact e _
def Jm(σ:Aj)(n:Nat)(x:V):V->Option Aj
 | .ref id g=>match En σ id with
  | some (.box u)=>match Du u g n x with
   | some i=>E4 false i λi=>some (Ke σ id (.box i))
   | none=>none
  | some (.tbox t u)=>match Du u g n x with
   | some i=>E4 false i λi=>some (Ke σ id (.tbox t i))
   | none=>none
  | _=>none
 | .aref id o sz g=>match En σ id with
  | some (.arr e j es)=>chk (Nat.beq j sz) (match es[o]? with
   | some p=>match Du p g n x with
    | some h=>E4 false h λh=>Ba (es.set o h) λes=>some (Ke σ id (.arr e sz es))
    | none=>none
   | none=>none)
  | _=>none
 | _=>none
theorem S6{σ:Aj}{n:Nat}{x a:V}:Jm σ n x a=K6 σ n x a:=by
 cases a with
 | ref id g=>
  simp only[Jm,K6];cases En σ id with
  | none=>rfl
  | some e=>cases e with
   | box u=>simp only[RH];cases Du u g n x with
    | none=>rfl
    | some p=>simp only[AM,FD,Option.map_some]
   | tbox t u=>simp only[RH];cases Du u g n x with
    | none=>rfl
    | some p=>simp only[AM,FD,Option.map_some]
   | _=>rfl
 | aref id j sz g=>
  simp only[Jm,K6];cases En σ id with
  | none=>rfl
  | some e=>cases e with
   | arr e o es=>
    simp only;cases es[j]? with
    | none=>rfl
    | some h=>
     simp only[Option.bind_some];cases Du h g n x with
     | none=>rfl
     | some i=>simp only[AM,Bi,FD,Option.map_some]
   | _=>rfl
 | _=>rfl
def MO(ep:Nat)(d:Option Nat)(e sz:Nat)(xs:List V)(σ:Aj):V->Option (V×Aj)
 | .nil=>chk (Nat.ble xs.length Bf) (Ba xs λxs=>Ie ep d .arr (.arr e sz xs) σ)
 | .arr id=>match En σ id with
  | some (.arr e' g es)=>chk (Nat.beq e' e&&Nat.beq g sz&&Nat.ble (es.length+xs.length) Bf) (Ba (es++xs) λes=>Ie ep d .arr (.arr e sz es) (MM σ id))
  | _=>none
 | _=>none
theorem Re{ep:Nat}{d:Option Nat}{e sz:Nat}{xs:List V}{σ:Aj}{s:V}:MO ep d e sz xs σ s=OU ep d e sz xs σ s:=by
 cases s with
 | nil=>simp only[MO,OU,Bi]
 | arr id=>
  simp only[MO,OU];cases En σ id with
  | none=>rfl
  | some e=>cases e<;>simp only[Bi,HE]
 | _=>rfl
section
variable{β:Type}
def KR{e:Type}(o:Option e)(k:e->Option β):Option β:=
 match o with
 | some a=>k a
 | none=>none
abbrev K3(β:Type):=V->Aj->Nat->Option β
def kO(e:Bool)(o:Option V)(σ:Aj)(n:Nat)(k:K3 β):Option β:=Option.rec (motive:=λ_=>Option β) none (λv=>FX e v λv=>k v σ n) o
theorem F0(e:Bool)(o:Option V)(σ:Aj)(n:Nat)(k:K3 β):kO e o σ n k=KR (o.map λv=>(v,σ)) λr=>k r.1 r.2 n:=by
 cases o with
 | none=>rfl
 | some v=>exact DM e v _
def kP(o:Option (V×Aj))(n:Nat)(k:K3 β):Option β:=
 match o with
 | some (v,σ)=>FX true v λv=>CD σ λσ=>k v σ n
 | none=>none
theorem Md(o:Option (V×Aj))(n:Nat)(k:K3 β):kP o n k=KR o λr=>k r.1 r.2 n:=by
 cases o with
 | none=>rfl
 | some r=>obtain⟨v,σ⟩:=r;simp only[kP,DM,C8];rfl
def Sx(ep:Nat)(d:Option Nat)(v:Id->V)(e:AX)(σ:Aj)(n:Nat)(k:K3 β):Option β:=
 match d with
 | some g=>My e λe=>k (v (ep,g)) (((ep,g),e)::σ) n
 | none=>none
theorem P8(ep:Nat)(d:Option Nat)(v:Id->V)(e:AX)(σ:Aj)(n:Nat)(k:K3 β):Sx ep d v e σ n k=KR (Ie ep d v e σ) λr=>k r.1 r.2 n:=by
 cases d with
 | none=>rfl
 | some g=>simp only[Sx,Ol];rfl
abbrev FM(β:Type):=Az->Nat->Option Nat->(Nat->V)->Aj->Nat->K3 β->Option β
def J8(x:X):FM β:=λ_ _ _ g σ n k=>CW (ev g x) λv=>k v σ n
def Amw(c a b:X):FM β:=λ_ _ _ g σ n k=>match ev g c with
 | .b t=>CW (bif t then ev g a else ev g b) λv=>k v σ n
 | _=>none
def AsL(e:BinOp)(x y:X):FM β:=λ_ _ _ g σ n k=>kO true (rC e (ev g x) (ev g y)) σ n k
def AtY(e:Bool)(x y:X):FM β:=λ_ _ _ g σ n k=>match ev g x,ev g y with
 | .b a,.b b=>IV (bif e then !(a==b) else a==b) λt=>k (.b t) σ n
 | _,_=>none
def Asv(x:X):FM β:=λ_ _ _ g σ n k=>match ev g x with
 | .b a=>IV (!a) λt=>k (.b t) σ n
 | _=>none
def ArG(x:X):FM β:=λ_ _ _ g σ n k=>match ev g x with
 | .i q m=>IM (q.wrap (0-m)) λm=>k (.i q m) σ n
 | _=>none
def AtF(q:IntKind)(x:X):FM β:=λ_ _ _ g σ n k=>match ev g x with
 | .i _ m=>IM (La q m) λm=>k (.i q m) σ n
 | _=>none
def Ar1(x:X):FM β:=λ_ _ _ g σ n k=>match ev g x with
 | .s l=>k (.s l) σ n
 | _=>none
def AsN(x:X)(e m:Nat)(h:Bool):FM β:=λ_ _ _ g σ n k=>chk (JZ (ev g x)) (kO false (sub (ev g x) e m h) σ n k)
def Yx(g:Nat):V->Option V
 | .ref id o=>some (.ref id (o+g))
 | .aref id h sz o=>some (.aref id h sz (o+g))
 | .ep e o=>some (.ep e (o+g))
 | _=>none
def AbJ(x:X)(e:Nat):FM β:=λ_ _ _ g σ n k=>kO false (Yx e (ev g x)) σ n k
def Afl(x i:X)(_ sz:Nat):FM β:=λ_ _ _ g σ n k=>kO false (SV σ sz (ev g i) (ev g x)) σ n k
def AaI:V->V->Option V
 | .s l,.i _ n=>chk (X6 0 n) ((l[n.toNat]?).map λc=>.i .u8 c.toNat)
 | _,_=>none
def Aun(x i:X):FM β:=λ_ _ _ g σ n k=>kO false (AaI (ev g x) (ev g i)) σ n k
def AnJ(x:X)(m:Nat)(e:Bool):FM β:=λ_ _ _ g σ n k=>kO false (iT σ m e (ev g x)) σ n k
def AdR(a x:X)(m:Nat):FM β:=λ_ _ _ g σ n k=>chk (ev g x).ok (match Jm σ m (ev g x) (ev g a) with
 | some τ=>CD τ λτ=>k (.tup []) τ n
 | none=>none)
def Au4(x:X):FM β:=λ_ ep d g σ n k=>chk (ev g x).ok (Sx ep d (λid=>.ref id 0) (.box (ev g x)) σ n k)
def Aeu(z:V):FM β:=λ_ ep d _ σ n k=>Sx ep d (λid=>.ref id 0) (.box z) σ n k
def Agy(z:List V)(ps:List (Nat×Nat×X)):FM β:=λ_ _ _ g σ n k=>chk (ps.all λp=>(ev g p.2.2).ok) (match Dz z (ps.map λp=>(p.1,p.2.1,ev g p.2.2)) with
 | some cs=>Ba cs λcs=>k (.agg cs) σ n
 | none=>none)
def AtV(own:Bool)(e sz:Nat)(xs:List X):FM β:=λ_ ep d g σ n k=>chk ((xs.map (ev g)).all λx=>x.ok&&Nat.beq (cells x).length sz) (bif own then Sx ep d .arr (.arr e sz (xs.map (ev g))) σ n k else Ba (xs.map (ev g)) λes=>k (.sl es) σ n)
def Acu(g:Nat->V)(h e:Option X):V->Option V
 | .s l=>(Fe g 0 h).bind λa=>(Fe g l.length e).bind λb=>chk (Nat.ble a b&&Nat.ble b l.length) (some (.s ((l.take b).drop a)))
 | _=>none
def AuH(x:X)(h e:Option X):FM β:=λ_ _ _ g σ n k=>kO true (Acu g h e (ev g x)) σ n k
def xS(g:Nat->V)(h e:Option X)(sz:Nat):V->Option V
 | .sl es=>jL g h e sz es
 | .nil=>jL g h e sz []
 | _=>none
def AtI(x:X)(h e:Option X)(sz:Nat):FM β:=λ_ _ _ g σ n k=>kO false (xS g h e sz (ev g x)) σ n k
def zQ:V->Option V
 | .s l=>some (.i .i64 l.length)
 | _=>none
def Am4(x:X):FM β:=λ_ _ _ g σ n k=>kO false (zQ (ev g x)) σ n k
def Ai7(x:X):FM β:=λ_ _ _ g σ n k=>kO false ((Et σ (ev g x)).map λes=>.i .i64 es.length) σ n k
def AsD(s x:X)(e sz:Nat):FM β:=λ_ ep d g σ n k=>match Et σ (ev g x) with
 | some xs=>chk (xs.all λy=>Nat.beq (cells y).length sz) (match MO ep d e sz xs σ (ev g s) with
  | some (v,τ)=>CD τ λτ=>k v τ n
  | none=>none)
 | none=>none
def Ann(j:Nat):V->Option V
 | .tup vs=>vs[j]?
 | _=>none
def Ait(ep:Nat)(d:Option Nat)(g:Nat->V)(i:X)(sz:Nat)(σ:Aj):V->Option (V×Aj)
 | .arr id=>match En σ id with
  | some (.arr e h es)=>(Fe g es.length (some i)).bind λq=>chk (Nat.beq h sz&&Nat.ble q es.length) (Ie ep d .arr (.arr e sz (es.take q)) (del σ id))
  | _=>none
 | _=>none
def Uw(ep:Nat)(d:Option Nat)(g:Nat->V)(i:X)(sz:Nat)(σ:Aj):V->Option (V×Aj)
 | .arr id=>match En σ id with
  | some (.arr e h es)=>(Fe g es.length (some i)).bind λq=>chk (Nat.beq h sz&&Nat.ble q es.length) (Ba (es.take q) λes=>Ie ep d .arr (.arr e sz es) (MM σ id))
  | _=>none
 | _=>none
theorem Zt{ep:Nat}{d:Option Nat}{g:Nat->V}{h:X}{sz:Nat}{σ:Aj}{x:V}:Uw ep d g h sz σ x=Ait ep d g h sz σ x:=by
 cases x<;>first|rfl|skip
 rename_i id;simp only[Uw,Ait];cases En σ id with
 | none=>rfl
 | some e=>cases e<;>simp only[Bi,HE]
def Asr(x e:X)(sz:Nat):FM β:=λ_ ep d g σ n k=>kP (Uw ep d g e sz σ (ev g x)) n k
def Ao8(s x:X)(e:Nat):FM β:=λ_ ep d g σ n k=>match ev g x with
 | .s l=>match MO ep d e 1 (BD l) σ (ev g s) with
  | some (v,τ)=>CD τ λτ=>k v τ n
  | none=>none
 | _=>none
def AtK(x:X)(j:Nat):FM β:=λ_ _ _ g σ n k=>kO false (Ann j (ev g x)) σ n k
def Ve(f:FuncId)(xs:List X):FM β:=λC _ _ g σ n k=>bif Nat.beq f Eq then none else Ba (xs.map (ev g)) λargs=>match C f args σ n with
 | some (v,σ',n')=>k v σ' n'
 | none=>none
def bG(x:X)(xs:List X):FM β:=λC _ _ g σ n k=>match ev g x with
 | .fn f a c=>bif Nat.beq f Eq then none else Ba (a++xs.map (ev g)++c) λargs=>match C f args σ n with
  | some (v,σ',n')=>k v σ' n'
  | none=>none
 | _=>none
def AdE(x:X)(xs:List X):FM β:=λC _ _ g σ n k=>match ev g x with
 | .fn f a c=>bif Nat.beq f Eq then none else Ba (a++xs.map (ev g)++c) λargs=>match C f args σ n with
  | some (v,σ',n')=>k v σ' n'
  | none=>none
 | .arr id=>Ba (.arr id::xs.map (ev g)) λargs=>match C Eq args σ n with
  | some (v,σ',n')=>k v σ' n'
  | none=>none
 | _=>none
def Ahw(x:X):FM β:=λ_ _ _ g σ n k=>kO true ((Et σ (ev g x)).bind λes=>(DJ es).map .s) σ n k
def AoH(f:FuncId)(a c:List X):FM β:=λ_ _ _ g σ n k=>Ba (a.map (ev g)) λa=>Ba (c.map (ev g)) λc=>k (.fn f a c) σ n
def AnE(l c:X)(z:V)(e sz:Nat):FM β:=λ_ ep d g σ n k=>kP (gW ep d z e sz σ (ev g l) (ev g c)) n k
def Jp(e:Bool)(x:X)(xs:List X):FM β:=λ_ _ _ g σ n k=>kO false (NB e (ev g x) (xs.map (ev g))) σ n k
def Acr(x:X):FM β:=λ_ _ _ g σ n k=>chk (sR (ev g x)) (CW (ev g x) λv=>k v σ n)
def JQ(q:BW)(xs:List X):FM β:=λ_ _ _ g σ n k=>kO true (Hf q (xs.map (ev g))) σ n k
def At1(q:lB)(m:X)(xs:List X):FM β:=λ_ _ _ g σ n k=>match ev g m with
 | .arr id=>kO false ((En σ id).bind λe=>fF q e (xs.map (ev g))) σ n k
 | _=>none
def Arv(q:Xf)(m:X)(xs:List X):FM β:=λ_ _ _ g σ n k=>match ev g m with
 | .arr id=>match En σ id with
  | some e=>match OR q e (xs.map (ev g)) with
   | some (e',v)=>My e' λe'=>CD (Ke σ id e') λτ=>FX true v λv=>k v τ n
   | none=>none
  | none=>none
 | _=>none
def As7(q:rQ)(xs:List X):FM β:=λ_ ep d g σ n k=>kP ((Sz q (xs.map (ev g))).bind λe=>Ie ep d (Z2 q) e σ) n k
def Au5(m:X)(j:Nat):FM β:=λ_ _ _ g σ n k=>kP (Ago σ j (ev g m)) n k
def pV(m:X):FM β:=λ_ ep d g σ n k=>kP (fE ep d (.mrange m) g σ) n k
def sO(m:X):FM β:=λ_ ep d g σ n k=>kP (fE ep d (.mentry m) g σ) n k
def Aud(e:Bool)(x y:X):FM β:=λ_ ep d g σ n k=>kP (fE ep d (.eqr e x y) g σ) n k
def Adg(e:AE):FM β:=AE.casesOn (motive:=λ_=>FM β) e J8 Amw AsL AtY Asv ArG AtF Ar1 AsN AbJ Afl Aun AnJ AdR Au4 Aeu Agy AtV AuH AtI Am4 Ai7 AsD Ao8 Asr AtK Ve Ve Ve Ve bG bG AoH AnE Jp Acr JQ At1 Arv As7 Au5 pV sO Aud AdE Ahw
def Mm(C:Az)(ep:Nat)(d:Option Nat)(e:AE)(g:Nat->V)(σ:Aj)(n:Nat):Option (V×Aj×Nat):=
 match DW g e with
 | some (f,args)=>C f args σ n
 | none=>(fE ep d e g σ).map λr=>(r.1,r.2,n)
theorem FK{e:Type}(b:Bool)(o:Option e)(k:e->Option β):KR (chk b o) k=chk b (KR o k):=by cases b<;>rfl
theorem Oy{e g:Type}(o:Option e)(f:e->g)(k:g->Option β):KR (o.map f) k=KR o λa=>k (f a):=by cases o<;>rfl
theorem Qa(o:Option (V×Aj×Nat))(k:K3 β):(match o with
 | some (v,σ',n')=>k v σ' n'
 | none=>none)=KR o λr=>k r.1 r.2.1 r.2.2:=by
 cases o with
 | none=>rfl
 | some r=>rfl
theorem GA(C:Az)(f:FuncId)(l:List V)(σ:Aj)(n:Nat)(k:K3 β)(o:Option (V×Aj×Nat))(e:o=none):(bif Nat.beq f Eq then none else Ba l λargs=>match C f args σ n with
  | some (v,σ',n')=>k v σ' n'
  | none=>none)=KR (match Ws f l with
  | some (f,args)=>C f args σ n
  | none=>o) λr=>k r.1 r.2.1 r.2.2:=by
 subst e;unfold Ws;cases Nat.beq f Eq with
 | true=>rfl
 | false=>simp only[cond_false,Bi];exact Qa _ _
theorem U5(w:AE)(C:Az)(ep:Nat)(d:Option Nat)(g:Nat->V)(σ:Aj)(n:Nat)(k:K3 β):Adg w C ep d g σ n k=KR (Mm C ep d w g σ n) λr=>k r.1 r.2.1 r.2.2:=by
 have u:∀{w:AE},DW g w=none->KR (Mm C ep d w g σ n) (λr=>k r.1 r.2.1 r.2.2)=KR (fE ep d w g σ) λr=>k r.1 r.2 n:=by intro w h;unfold Mm;rw[h];simp only[Oy]
 have F:∀(o:Option V),KR (o.map λv=>(v,σ)) (λr:V×Aj=>k r.1 r.2 n)=KR o λv=>k v σ n:=λo=>Oy o _ _;cases w with
 | mv x=>rw[u rfl];exact Dp _ _
 | pick c a b=>
  rw[u rfl];show(match ev g c with
   | .b t=>CW (bif t then ev g a else ev g b) λv=>k v σ n
   | _=>none)=_
  simp only[fE];cases ev g c<;>first|rfl|exact Dp _ _
 | bin w x y=>rw[u rfl];exact F0 _ _ _ _ _
 | eqb G x y=>
  rw[u rfl];show(match ev g x,ev g y with
   | .b a,.b b=>IV (bif G then !(a==b) else a==b) λt=>k (.b t) σ n
   | _,_=>none)=_
  simp only[fE];cases ev g x<;>first|rfl|(cases ev g y<;>first|rfl|exact HK _ _)
 | not x=>
  rw[u rfl];show(match ev g x with
   | .b a=>IV (!a) λt=>k (.b t) σ n
   | _=>none)=_
  simp only[fE];cases ev g x<;>first|rfl|exact HK _ _
 | neg x=>
  rw[u rfl];show(match ev g x with
   | .i q m=>IM (q.wrap (0-m)) λm=>k (.i q m) σ n
   | _=>none)=_
  simp only[fE];cases ev g x<;>first|rfl|exact Ks _ _
 | cvi q x=>
  rw[u rfl];show(match ev g x with
   | .i _ m=>IM (La q m) λm=>k (.i q m) σ n
   | _=>none)=_
  simp only[fE];cases ev g x<;>first|rfl|exact Ks _ _
 | cvs x=>
  rw[u rfl];show(match ev g x with
   | .s l=>k (.s l) σ n
   | _=>none)=_
  simp only[fE];cases ev g x<;>rfl
 | fld x A m E=>rw[u rfl];show chk (JZ (ev g x)) (kO false (sub (ev g x) A m E) σ n k)=_;simp only[fE];rw[FK,F0]
 | faddr x A=>rw[u rfl];show kO false (Yx A (ev g x)) σ n k=_;rw[F0];simp only[fE];cases ev g x<;>rfl
 | iaddr x i e sz=>rw[u rfl];exact F0 _ _ _ _ _
 | idx x i=>
  rw[u rfl];show kO false (AaI (ev g x) (ev g i)) σ n k=_;rw[F0];simp only[fE];cases ev g x<;>first|rfl|(cases ev g i<;>first|rfl|skip)
  simp only[AaI];rename_i l q m;cases X6 0 m
  .rfl
  .simp only[chk,cond_true];cases l[m.toNat]?<;>rfl
 | load x m E=>rw[u rfl];exact F0 _ _ _ _ _
 | store a x m=>
  rw[u rfl];show chk (ev g x).ok (match Jm σ m (ev g x) (ev g a) with
   | some τ=>CD τ λτ=>k (.tup []) τ n
   | none=>none)=_
  simp only[fE,S6];rw[FK];cases K6 σ m (ev g x) (ev g a) with
  | none=>rfl
  | some τ=>simp only[C8];rfl
 | box x=>rw[u rfl];show chk (ev g x).ok (Sx ep d (λid=>.ref id 0) (.box (ev g x)) σ n k)=_;simp only[fE];rw[FK,P8]
 | alloc z=>rw[u rfl];exact P8 ep d (λid=>.ref id 0) (.box z) σ n k
 | build z ps=>
  rw[u rfl];show chk (ps.all λp=>(ev g p.2.2).ok) (match Dz z (ps.map λp=>(p.1,p.2.1,ev g p.2.2)) with
   | some cs=>Ba cs λcs=>k (.agg cs) σ n
   | none=>none)=_
  simp only[fE];rw[FK];cases Dz z (ps.map λp=>(p.1,p.2.1,ev g p.2.2)) with
  | none=>rfl
  | some cs=>simp only[Bi];rfl
 | msl own e sz xs=>rw[u rfl];show chk ((xs.map (ev g)).all λx=>x.ok&&Nat.beq (cells x).length sz) (bif own then Sx ep d .arr (.arr e sz (xs.map (ev g))) σ n k else Ba (xs.map (ev g)) λes=>k (.sl es) σ n)=_;simp only[fE];rw[FK,P8,Bi];cases own<;>rfl
 | slS x D B=>
  rw[u rfl];show kO true (Acu g D B (ev g x)) σ n k=_;rw[F0];simp only[fE];cases ev g x<;>first|rfl|skip
  rename_i l;simp only[Acu];cases Fe g 0 D with
  | none=>rfl
  | some a=>
   simp only[Option.bind_some];cases Fe g l.length B with
   | none=>rfl
   | some b=>simp only[Option.bind_some];cases Nat.ble a b&&Nat.ble b l.length<;>rfl
 | slL x D B sz=>rw[u rfl];show kO false (xS g D B sz (ev g x)) σ n k=_;rw[F0];simp only[fE];cases ev g x<;>rfl
 | lenS x=>rw[u rfl];show kO false (zQ (ev g x)) σ n k=_;rw[F0];simp only[fE];cases ev g x<;>rfl
 | lenL x=>rw[u rfl];show kO false ((Et σ (ev g x)).map λes=>.i .i64 es.length) σ n k=_;rw[F0];simp only[fE];cases Et σ (ev g x)<;>rfl
 | app s x e sz=>
  rw[u rfl];show(match Et σ (ev g x) with
   | some xs=>chk (xs.all λy=>Nat.beq (cells y).length sz) (match MO ep d e sz xs σ (ev g s) with
    | some (v,τ)=>CD τ λτ=>k v τ n
    | none=>none)
   | none=>none)=_
  simp only[fE,Re,C8];cases Et σ (ev g x) with
  | none=>rfl
  | some xs=>
   simp only[Option.bind_some];rw[FK];cases OU ep d e sz xs σ (ev g s) with
   | none=>rfl
   | some r=>rfl
 | apps s x e=>
  rw[u rfl];show(match ev g x with
   | .s l=>match MO ep d e 1 (BD l) σ (ev g s) with
    | some (v,τ)=>CD τ λτ=>k v τ n
    | none=>none
   | _=>none)=_
  simp only[fE,Re,C8];cases ev g x<;>first|rfl|skip
  rename_i l;simp only;cases OU ep d e 1 (BD l) σ (ev g s) with
  | none=>rfl
  | some r=>rfl
 | slT x B sz=>rw[u rfl];show kP (Uw ep d g B sz σ (ev g x)) n k=_;rw[Md,Zt];simp only[fE];cases ev g x<;>rfl
 | ext x j=>rw[u rfl];show kO false (Ann j (ev g x)) σ n k=_;rw[F0];simp only[fE];cases ev g x<;>rfl
 | call f xs=>exact GA C f _ σ n k _ rfl
 | calls f xs=>exact GA C f _ σ n k _ rfl
 | calln f xs=>exact GA C f _ σ n k _ rfl
 | callr f xs=>exact GA C f _ σ n k _ rfl
 | callv x xs=>
  show(match ev g x with
   | .fn f a c=>bif Nat.beq f Eq then none else Ba (a++xs.map (ev g)++c) λargs=>match C f args σ n with
    | some (v,σ',n')=>k v σ' n'
    | none=>none
   | _=>none)=_
  simp only[Mm,DW];cases ev g x<;>first|rfl|exact GA C _ _ σ n k _ rfl
 | callvs x xs=>
  show(match ev g x with
   | .fn f a c=>bif Nat.beq f Eq then none else Ba (a++xs.map (ev g)++c) λargs=>match C f args σ n with
    | some (v,σ',n')=>k v σ' n'
    | none=>none
   | _=>none)=_
  simp only[Mm,DW];cases ev g x<;>first|rfl|exact GA C _ _ σ n k _ rfl
 | callw x xs=>
  show(match ev g x with
   | .fn f a c=>bif Nat.beq f Eq then none else Ba (a++xs.map (ev g)++c) λargs=>match C f args σ n with
    | some (v,σ',n')=>k v σ' n'
    | none=>none
   | .arr id=>Ba (.arr id::xs.map (ev g)) λargs=>match C Eq args σ n with
    | some (v,σ',n')=>k v σ' n'
    | none=>none
   | _=>none)=_
  simp only[Mm,DW];cases ev g x<;>first|rfl|exact GA C _ _ σ n k _ rfl|(simp only[Bi];exact Qa _ _)
 | btos x=>
  rw[u rfl];show kO true _ σ n k=_;rw[F0];simp only[fE];cases Et σ (ev g x) with
  | none=>rfl
  | some es=>simp only[Option.bind_some];cases DJ es<;>rfl
 | mkfn f a c=>rw[u rfl];show Ba (a.map (ev g)) (λa=>Ba (c.map (ev g)) λc=>k (.fn f a c) σ n)=_;rw[Bi,Bi];rfl
 | mksl l c z e sz=>rw[u rfl];exact Md _ _ _
 | mx D x xs=>rw[u rfl];exact F0 _ _ _ _ _
 | nilck x=>rw[u rfl];show chk (sR (ev g x)) (CW (ev g x) λv=>k v σ n)=_;simp only[fE];rw[FK,Dp];rfl
 | pu q xs=>rw[u rfl];exact F0 _ _ _ _ _
 | rdm q m xs=>
  rw[u rfl];show(match ev g m with
   | .arr id=>kO false ((En σ id).bind λe=>fF q e (xs.map (ev g))) σ n k
   | _=>none)=_
  simp only[fE];cases ev g m<;>first|rfl|skip
  rename_i id;simp only[F0];cases En σ id<;>rfl
 | wrm q m xs=>
  rw[u rfl];show(match ev g m with
   | .arr id=>match En σ id with
    | some e=>match OR q e (xs.map (ev g)) with
     | some (e',v)=>My e' λe'=>CD (Ke σ id e') λτ=>FX true v λv=>k v τ n
     | none=>none
    | none=>none
   | _=>none)=_
  simp only[fE];cases ev g m<;>first|rfl|skip
  rename_i id;simp only;cases En σ id with
  | none=>rfl
  | some e=>
   simp only[Option.bind_some];cases OR q e (xs.map (ev g)) with
   | none=>rfl
   | some r=>obtain⟨e',v⟩:=r;simp only[Ol,FD,C8,DM];rfl
 | mkm q xs=>rw[u rfl];exact Md _ _ _
 | frz m j=>rw[u rfl];exact Md _ _ _
 | mrange m=>rw[u rfl];exact Md _ _ _
 | mentry m=>rw[u rfl];exact Md _ _ _
 | eqr G x y=>rw[u rfl];exact Md _ _ _
def m3(C:Az)(ep:Nat)(i:I)(env:AB)(σ:Aj)(n:Nat)(k:V->Aj->Nat->Option β):Option β:=
 match JY env i.gd with
 | some true=>Adg i.op C ep i.dst (Kp env) σ n k
 | some false=>k (.tup []) σ n
 | none=>none
theorem nV(C:Az)(ep:Nat)(i:I)(env:AB)(σ:Aj)(n:Nat)(k:V->Aj->Nat->Option β):m3 C ep i env σ n k=KR (n9 C ep i env σ n) λr=>k r.1 r.2.1 r.2.2:=by
 unfold m3 n9;simp only[JU,U5];cases JY env i.gd with
 | none=>rfl
 | some b=>
  cases b with
  | false=>rfl
  | true=>rfl
def Qr(C:Az)(ep:Nat)(l:List I)(env:AB)(σ:Aj)(n:Nat)(k:AB->Aj->Nat->Option β):Option β:=
 List.rec (motive:=λ_=>AB->Aj->Nat->Option β) (λenv σ n=>k env σ n) (λi _ e env σ n=>m3 C ep i env σ n λv σ' n'=>match i.dst with
  | some d=>e ((d,v)::env) σ' n'
  | none=>e env σ' n') l env σ n
theorem Mc(C:Az)(ep:Nat)(k:AB->Aj->Nat->Option β):∀(l:List I) (env:AB) (σ:Aj) (n:Nat),Qr C ep l env σ n k=KR (Mj C ep l env σ n) λr=>k r.1 r.2.1 r.2.2
 | [],env,σ,n=>rfl
 | i::l,env,σ,n=>by
  show m3 C ep i env σ n (λv σ' n'=>match i.dst with
   | some d=>Qr C ep l ((d,v)::env) σ' n' k
   | none=>Qr C ep l env σ' n' k)=_
  rw[nV,Mj];cases n9 C ep i env σ n with
  | none=>rfl
  | some r=>
   obtain⟨v,σ',n'⟩:=r;simp only[KR];cases i.dst with
   | none=>exact Mc C ep k l env σ' n'
   | some d=>exact Mc C ep k l ((d,v)::env) σ' n'
end
def mW{β:Type}(C:Az)(ep:Nat)(i:I)(env:AB)(σ:Aj)(k:V->Aj->Option β):Option β:=
 match JY env i.gd with
 | some true=>chk (DO i (Kp env)) (bif D3 i then(match Ca i (Kp env) σ (yE C ep i.dst i.op (Kp env) σ) with
  | some (v,τ)=>FX false v λv=>CD τ λτ=>k v τ
  | none=>none) else bif i.op.isC then(match yE C ep i.dst i.op (Kp env) σ with
  | some (v,τ)=>FX false v λv=>CD τ λτ=>k v τ
  | none=>none) else Adg i.op C ep i.dst (Kp env) σ 0 λv τ _=>k v τ)
 | some false=>k (.tup []) σ
 | none=>none
theorem lZ{β:Type}(C:Az)(ep:Nat)(i:I)(env:AB)(σ:Aj)(k:V->Aj->Option β):mW C ep i env σ k=KR (Dg C ep i env σ) λr=>k r.1 r.2:=by
 unfold mW Dg;simp only[JU,U5,DM,C8];cases JY env i.gd with
 | none=>rfl
 | some b=>
  cases b with
  | false=>rfl
  | true=>
   simp only;rw[FK];congr 1;cases j:D3 i with
   | true=>simp only[cond_true];cases Ca i (get env) σ (yE C ep i.dst i.op (get env) σ)<;>rfl
   | false=>
   have g:Ca i (get env) σ (yE C ep i.dst i.op (get env) σ)=yE C ep i.dst i.op (get env) σ:=by unfold Ca;rw[j];rfl
   rw[g];simp only[cond_false];cases h:i.op.isC with
   | true=>cases yE C ep i.dst i.op (get env) σ<;>rfl
   | false=>
    simp only[cond_false];have o:DW (get env) i.op=none:=by cases e:i.op<;>first|rfl|(rw[e] at h;simp[AE.isC] at h)
    have p:yE C ep i.dst i.op (get env) σ=fE ep i.dst i.op (get env) σ:=by cases e:i.op<;>first|rfl|(rw[e] at h;simp[AE.isC] at h)
    rw[p];unfold Mm;rw[o];simp only[Oy]
def Qd{β:Type}(C:Az)(ep:Nat)(l:List I)(env:AB)(σ:Aj)(k:AB->Aj->Option β):Option β:=
 List.rec (motive:=λ_=>AB->Aj->Option β) (λenv σ=>k env σ) (λi _ e env σ=>mW C ep i env σ λv σ'=>match i.dst with
  | some d=>e ((d,v)::env) σ'
  | none=>e env σ') l env σ
theorem Nf{β:Type}(C:Az)(ep:Nat)(k:AB->Aj->Option β):∀(l:List I) (env:AB) (σ:Aj),Qd C ep l env σ k=KR (SF C ep l env σ) λr=>k r.1 r.2
 | [],env,σ=>rfl
 | i::l,env,σ=>by
  show mW C ep i env σ (λv σ'=>match i.dst with
   | some d=>Qd C ep l ((d,v)::env) σ' k
   | none=>Qd C ep l env σ' k)=_
  rw[lZ,SF];cases Dg C ep i env σ with
  | none=>rfl
  | some r=>
   obtain⟨v,σ'⟩:=r;simp only[KR];cases i.dst with
   | none=>exact Nf C ep k l env σ'
   | some d=>exact Nf C ep k l ((d,v)::env) σ'
def Uo(C:Az):IC->St->Option (Exit×St)
 | .seqr l live,st=>Qr C st.n l st.env st.σ (Nat.succ st.n) λenv σ n=>Ez live env λenv=>Cy n λn=>some (.normal,⟨env,σ,n⟩)
 | .ops l live _,st=>Qd C st.n l st.env st.σ λenv σ=>Ez live env λenv=>some (.normal,⟨env,σ,Nat.succ st.n⟩)
 | _,_=>none
theorem PQ(C:Az):∀ic st,Uo C ic st=Q0 C ic st
 | .ops l live p,st=>by
  show Qd _ _ _ _ _ _=_;rw[Nf,Q0];cases SF C st.n l st.env st.σ with
  | none=>rfl
  | some r=>obtain⟨env,σ⟩:=r;simp only[KR,GJ]
 | .seqr l live,st=>by
  show Qr _ _ _ _ _ _ _=_;rw[Mc,Q0];show KR (Mj C st.n l st.env st.σ (st.n+1)) _=_;cases Mj C st.n l st.env st.σ (st.n+1) with
  | none=>rfl
  | some r=>obtain⟨env,σ,n⟩:=r;simp only[KR,GJ,BT]
 | .opxe ..,st=>rfl
 | .anyr ..,st=>rfl
 | .seq ..,st=>rfl
 | .cond ..,st=>rfl
 | .block ..,st=>rfl
 | .loop ..,st=>rfl
 | .wk ..,st=>rfl
 | .exit ..,st=>rfl
 | .ret,st=>rfl
 | .skip,st=>rfl
 | .mnext ..,st=>rfl
 | .opx ..,st=>rfl
 | .opxq ..,st=>rfl
 | .opxd ..,st=>rfl
 | .opxv ..,st=>rfl
 | .scope ..,st=>rfl
 | .rfn ..,st=>rfl
def Py(C:Az)(k:Nat)(ic:IC):St->Option (Exit×St):=
 Nat.rec (motive:=λ_=>St->Option (Exit×St)) (λst=>Uo C ic st) (λ_ g st=>match Uo C ic st with
  | some r=>some r
  | none=>match eI C ic st with
   | some id=>match Rf id st with
    | some e=>g e
    | none=>none
   | none=>none) k
theorem Kd(C:Az)(ic:IC):∀k st,Py C k ic st=Ms C k ic st
 | 0,st=>PQ C ic st
 | k+1,st=>by
  show(match Uo C ic st with
  | some r=>some r
  | none=>match eI C ic st with
   | some id=>match Rf id st with
    | some e=>Py C k ic e
    | none=>none
   | none=>none)=_
  rw[PQ,Ms];simp only[Kd C ic k]
  all_goals rfl
def CL(C:Az)(L:JS)(ic:IC):St->Option (Exit×St):=
 IC.rec (motive:=λ_=>St->Option (Exit×St))
  (λl live p st=>Py C 3 (.ops l live p) st)
  (λ_ _ e i st=>match e st with
   | some (.normal,s)=>i s
   | r=>r)
  (λc _ _ e i st=>match ev (Kp st.env) c with
   | .b true=>e st
   | .b false=>i st
   | _=>none)
  (λid _ e st=>match(e st:Option (Exit×St)) with
   | some (Exit.exit h,s)=>bif Nat.beq h id then some (Exit.normal,s) else some (Exit.exit h,s)
   | r=>r)
  (λc _ st=>L (.loop c) st)
  (λid st=>some (.exit id,st))
  (λst=>some (.ret,st))
  (λst=>some (.normal,st))
  (λ_ _ _ _ _=>none)
  (λ_ e st=>e st)
  (λ_ _ _ _ _ _ _ _=>none)
  (λ_ _ _ _ _ _ _ _=>none)
  (λ_ _ _ _ _ _ _ _=>none)
  (λl live st=>Py C 3 (.seqr l live) st)
  (λ_ _ _ _ _=>none)
  (λ_ _ _ _=>none)
  (λ_ _ _ _ _ _ _ _ _ _=>none)
  (λ_ _ _=>none)
  (λg ps a b j live _ _ st=>L (.rfn g ps a b j live) st)
  ic
theorem C6(C:Az)(L:JS):∀ic st,CL C L ic st=BZ C L ic st
 | .ops l live p,st=>Kd C _ 3 st
 | .seqr l live,st=>Kd C _ 3 st
 | .opxe ..,st=>rfl
 | .anyr ..,st=>rfl
 | .seq a b,st=>by
  show(match CL C L a st with
   | some (.normal,s)=>CL C L b s
   | r=>r)=_
  rw[C6 C L a st,BZ];cases BZ C L a st with
  | none=>rfl
  | some r=>obtain⟨e,s⟩:=r;cases e<;>first|exact C6 C L b s|rfl
 | .cond c a b,st=>by
  show(match ev (Kp st.env) c with
   | .b true=>CL C L a st
   | .b false=>CL C L b st
   | _=>none)=_
  rw[JU,BZ];cases ev (get st.env) c with
  | b t=>cases t<;>first|exact C6 C L a st|exact C6 C L b st
  | _=>rfl
 | .block id a,st=>by
  show(match(CL C L a st:Option (Exit×St)) with
   | some (Exit.exit g,s)=>bif Nat.beq g id then some (Exit.normal,s) else some (Exit.exit g,s)
   | r=>r)=_
  rw[C6 C L a st,BZ];cases BZ C L a st with
  | none=>rfl
  | some r=>
   obtain⟨e,s⟩:=r;cases e with
   | exit g=>
    simp only;by_cases h:g=id
    .subst h;simp
    .rw[if_neg h];cases i:Nat.beq g id with
     | false=>rfl
     | true=>exact absurd (Nat.eq_of_beq_eq_true i) h
   | _=>rfl
 | .loop c,st=>rfl
 | .wk c,st=>C6 C L c st
 | .exit id,st=>rfl
 | .ret,st=>rfl
 | .skip,st=>rfl
 | .mnext ..,st=>rfl
 | .opx ..,st=>rfl
 | .opxq ..,st=>rfl
 | .opxd ..,st=>rfl
 | .opxv ..,st=>rfl
 | .scope ..,st=>rfl
 | .rfn ..,st=>rfl
def Ll{β:Type}(n0:Nat)(st:St)(k:St->β):β:=CD (ZT n0 (st.env.map (·.2)) st.σ) λσ=>k ⟨st.env,σ,st.n⟩
def cV(C:Az)(nt:Nat)(g:X)(ps:List Nat)(a b:IC)(h live:List Nat)(st:St):Option (Exit×St):=
 match ev (Kp st.env) g with
 | .fn f first e=>bif Nat.beq f Eq then none else Ba (first++[.arr (st.n,0)]++e) λargs=>Ez h st.env λenv=>(match C f args (((st.n,0),.loop nt env ps a b .ready none)::st.σ) (Nat.succ st.n) with
  | some (_,σ',n')=>(match En σ' (st.n,0) with
   | some (.loop _ _ _ _ _ s i)=>bif KB s then none else Ez live st.env λenv=>CD (MM σ' (st.n,0)) λσ=>Cy n' λn=>some (tM i,⟨env,σ,n⟩)
   | _=>none)
  | none=>none)
 | _=>none
theorem dE(C:Az)(nt:Nat)(g:X)(ps:List Nat)(a b:IC)(h live:List Nat)(st:St):cV C nt g ps a b h live st=XR C nt g ps a b h live st:=by
 unfold cV XR;rw[JU];cases ev (get st.env) g<;>first|rfl|skip
 rename_i f first e
 simp only[Bi,GJ,C8,BT];unfold Ws;cases Nat.beq f Eq<;>rfl
def D1(C:Az)(nt n0:Nat)(k:Nat):JS:=
 Nat.rec (motive:=λ_=>JS) (λ_ _=>none) (λ_ e ic st=>match ic with
  | .loop c=>(match CL C e c st with
   | some (.normal,s)=>Ll n0 s λs=>e (.loop c) s
   | r=>r)
  | .rfn g ps a b h live=>cV C nt g ps a b h live st
  | _=>none) k
theorem Fn(C:Az)(nt n0:Nat):∀k,D1 C nt n0 k=Cp C nt n0 k
 | 0=>rfl
 | k+1=>by
  funext ic st;cases ic with
  | rfn g ps a b h live=>exact dE C nt g ps a b h live st
  | loop c=>
   show(match CL C (D1 C nt n0 k) c st with
    | some (.normal,s)=>Ll n0 s λs=>D1 C nt n0 k (.loop c) s
    | r=>r)=(match BZ C (Cp C nt n0 k) c st with
    | some (.normal,s)=>Cp C nt n0 k (.loop c) (OA n0 s)
    | r=>r)
   rw[Fn C nt n0 k,C6];cases BZ C (Cp C nt n0 k) c st with
   | none=>rfl
   | some r=>
    obtain⟨e,s⟩:=r;cases e with
    | normal=>exact C8 _ _
    | _=>rfl
  | _=>rfl
def UO(C:Az)(K:Nat)(args:List V)(σ:Aj)(n:Nat):Option (V×Aj×Nat):=match args with
 | .arr id::vs=>match En σ id with
  | some (.loop nt env ps a b .ready D)=>bif Nat.beq vs.length ps.length&&ps.all (λp=>Nat.blt p nt) then(match CL C (D1 C nt n K) a ⟨IZ ps vs env,σ,n⟩ with
   | some (.normal,s1)=>(match En s1.σ id with
    | some (.loop j g r w y .ready q)=>CD (Ke s1.σ id (.loop j g r w y .busy q)) λτ=>(match CL C (D1 C nt n K) b ⟨s1.env,τ,s1.n⟩ with
     | some (e,u)=>(match DS e with
      | some i=>(match En u.σ id with
       | some (.loop o h s a2 z B A)=>IV i.isNone λt=>CD (ZT n [] (Ke u.σ id (.loop o h s a2 z (bif t then .ready else .done) i))) λτ=>some (.b t,τ,u.n)
       | _=>none)
      | none=>none)
     | none=>none)
    | _=>none)
   | _=>none) else none
  | _=>none
 | _=>none
theorem dP(C:Az)(K:Nat)(args:List V)(σ:Aj)(n:Nat):UO C K args σ n=QN C K args σ n:=by
 unfold UO QN;simp only[Fn,C6,C8,HK]
 all_goals rfl
def K4{β:Type}(env:AB)(σ:Aj)(e:List R)(k:List V->Option β):Option β:=match KZ env σ e with
 | some vs=>forceVL0 vs k
 | none=>none
where forceVL0 (vs:List V) (k:List V->Option β):Option β:=List.rec (motive:=fun _=>(List V->Option β)->Option β) (fun k=>k []) (fun v _ ih k=>E4 false v fun v=>ih fun l=>k (v::l)) vs k
theorem WA{β:Type}(env:AB)(σ:Aj)(e:List R)(k:List V->Option β):K4 env σ e k=KR (KZ env σ e) k:=by
 unfold K4 KR;cases KZ env σ e with
 | none=>rfl
 | some vs=>
  simp only
  suffices ∀(vs:List V) (k:List V->Option β),K4.forceVL0 vs k=k vs from this vs k
  intro vs
  induction vs with
  | nil=>intro k;rfl
  | cons v vs g=>intro k;rw[show K4.forceVL0 (v::vs) k=E4 false v λv=>K4.forceVL0 vs λl=>k (v::l) from rfl,AM];exact g _
def M5(F:B7)(n:Nat)(st:St):Option (V×Aj×Nat):=
 K4 st.env st.σ F.rs λvs=>CD (ZT n [JA vs] st.σ) λσ=>some (JA vs,σ,st.n)
theorem QB(F:B7)(n:Nat)(st:St):M5 F n st=X0 F n st:=by
 unfold M5 X0;rw[WA];cases KZ st.env st.σ F.rs with
 | none=>rfl
 | some vs=>simp only[KR,C8]
def lS(C:Az)(k:Nat)(F:B7)(args:List V)(σ:Aj)(n:Nat):Option (V×Aj×Nat):=
 bif Nat.ble args.length F.nt then(match CL C (D1 C F.nt n k) F.ic ⟨params 0 args,σ,n⟩ with
  | some (.ret,st)=>M5 F n st
  | some (.normal,st)=>M5 F n st
  | _=>none) else none
theorem o6(C:Az)(k:Nat)(F:B7)(args:List V)(σ:Aj)(n:Nat):lS C k F args σ n=zX C k F args σ n:=by
 unfold lS zX;rw[Fn,C6];simp only[QB]
 all_goals rfl
def Gm(T:FuncId->Option B7)(B:Az)(K:Nat)(k:Nat):Az:=
 Nat.rec (motive:=λ_=>Az) (λ_ _ _ _=>none) (λ_ e f args σ n=>bif Nat.beq f Eq then UO e K args σ n else(match T f with
  | some F=>lS e K F args σ n
  | none=>B f args σ n)) k
theorem HC(T:FuncId->Option B7)(B:Az)(K:Nat):∀k,Gm T B K k=EI T B K k
 | 0=>rfl
 | k+1=>by
  funext f args σ n;show(bif Nat.beq f Eq then UO (Gm T B K k) K args σ n else(match T f with
   | some F=>lS (Gm T B K k) K F args σ n
   | none=>B f args σ n))=(bif Nat.beq f Eq then QN (EI T B K k) K args σ n else(match T f with
   | some F=>zX (EI T B K k) K F args σ n
   | none=>B f args σ n))
  rw[HC T B K k,dP];simp only[o6]
def Ai4(o:Option (V×Aj×Nat)):Option V:=match o with
 | some r=>some r.1
 | none=>none
theorem FN{P:Program}{W0:World}{T:FuncId->Option B7}{B:Az}{K k:Nat}(g:Fw P T)(hB:AF P W0 B)(e:GZ P){f:FuncId}{args:List V}{v:V}(h:Ai4 (Gm T B K k f args [] 0)=some v)(i:IS 0 args=true)(p:Nh 0 v=true)(j:f≠Eq:=by decide):An P W0 f args [] v []:=by
 rw[HC] at h;unfold Ai4 at h;split at h
 .rename_i r o;obtain⟨q,σ',n'⟩:=r;cases h;exact MT g hB e o i p j
 .cases h
end
end Go.Ir
end
section
namespace Go.Ir
open Go.RowKit
variable[FV]
section
variable{P:Program}{W0:World}{f:FuncId}{args:List V}{σ:Aj}{n:Nat}{v:V}
theorem DL.of_ret(L:f≠Eq)(h:An P W0 f args [] v [])(z:SZ v=true)(y:Cu (Lt n) σ):DL P W0 f args σ n v σ n where
 callable _:=h.callable
 le:=Nat.le_refl _
 vin:=O5.1 v z
 sin:=y
 run:=by
  intro w μ H vals hp o;have i:∀id e,lk ([]:Aj) id=some e->lk σ id=some e:=λid e F=>by cases F
  rw[CB L];refine Calls.mono (h.run n w μ H vals (hp.part i) o) ?_;rintro e w' ⟨val,t,A,n',rfl,r,q,G,E,g⟩;obtain⟨u,j⟩:=hp.back i q E;rw[IY] at u j;refine⟨val,cut n t,A,rfl,r.cut (O5.1 v z),u.cut y,⟨λid x s=>?_,j.hp,j.size,j.keep,j.pin,λB D J=>j.dom B D (GI J)⟩,λid p C=>?_⟩
  .rcases Nat.lt_or_ge id.1 n with h|h
   .rw[FY (m:=n) h];exact j.mu id x s
   .rw[hp.bd id h] at s;cases s
  .rw[FY (m:=n) p];exact g id p C
end
section
variable{P:Program}{W0:World}
def Cr(a b:Az):Az:=λf args σ n=>match a f args σ n with
 | some r=>some r
 | none=>b f args σ n
theorem Mu{a b:Az}(e:AF P W0 a)(g:AF P W0 b):AF P W0 (Cr a b):=by
 intro f args σ n v σ' n' h;unfold Cr at h;split at h
 .rename_i r i;cases h;exact e _ _ _ _ _ _ _ i
 .exact g _ _ _ _ _ _ _ h
noncomputable def X5(f0:FuncId)(g:List V->Option V):Az:=λf args σ n=>bif Nat.beq f f0 then(match g args with
 | some v=>FX true v λv=>some (v,σ,n)
 | none=>none) else none
theorem GE{f0:FuncId}{g:List V->Option V}(h:∀args v,g args=some v->An P W0 f0 args [] v []/\SZ v=true)(r:f0≠Eq:=by decide):AF P W0 (X5 f0 g):=by
 intro f args σ n v σ' n' e s p;unfold X5 at e;cases i:Nat.beq f f0 with
 | false=>rw[i] at e;cases e
 | true=>
  rw[i] at e;obtain rfl:=Nat.eq_of_beq_eq_true i;simp only[cond_true] at e;split at e
  .rename_i v1 q;rw[DM] at e;cases e;obtain⟨j,o⟩:=h _ _ q;exact DL.of_ret r j o p
  .cases e
end
section
variable{P:Program}{W0:World}{f:FuncId}{args args':List V}{σ:Aj}{n:Nat}{v:V}
def OJ:V->Bool
 | .b _|.i _ _|.s _|.ni|.np|.nf|.nm=>true
 | _=>false
def O8:V->Bool
 | .tup vs=>vs.all OJ
 | v=>OJ v
theorem MY{μ e:Id->Option Value}{H g:Addr->Option Value}{v:V}{val:Value}(h:OJ v=true)(i:Ap μ H v val):Ap e g v val:=by
 cases i<;>first|(cases h;done)|constructor
 assumption
theorem S2{μ g:Id->Option Value}{H o:Addr->Option Value}{v:V}{val:Value}(h:O8 v=true)(j:Ap μ H v val):Ap g o v val:=by
 cases v with
 | tup vs=>obtain⟨vals,rfl,e⟩:=j.tup_inv;exact .tup vs vals e.len λk c x i p=>MY (List.all_eq_true.1 h c (List.mem_of_getElem? i)) (e.at_ k c x i p)
 | _=>exact MY h j
theorem N9{S:Id->Prop}{v:V}(h:OJ v=true):Bg S v:=by cases v<;>first|(cases h;done)|constructor
theorem WK{S:Id->Prop}{v:V}(h:O8 v=true):Bg S v:=by
 cases v with
 | tup vs=>exact .tup _ λc e=>N9 (List.all_eq_true.1 h c e)
 | _=>exact N9 h
theorem Sj{w:World}{μ:Id->Option Value}{H:Addr->Option Value}(hp:Hp W0 σ n μ H w){φ:Id->Option (List V)}(C:∀id es,φ id=some es->∃e sz,lk σ id=some (.arr e sz es)) :
  ∀id es,φ id=some es->∀val,μ id=some val->(∃A h,val=.slice A es.length h/\es.length<=h/\es.length<=Bf/\
   (es=[]\/∃(D:Addr) (sz:Nat) (vals:List Value),A=some D/\(∀e∈es,(cells e).length=sz)/\AR μ H (AN es) vals/\∀(k:Nat) (v:Value),vals[k]?=some v->Br φ μ H w (D.add k)=some v)):=by
 intro id es p val y;obtain⟨e,sz,E⟩:=C id es p;obtain⟨vals,_,i,q,z,r⟩:=Ef hp E y;rcases Nat.eq_zero_or_pos es.length with t|t
 .have:es=[]:=List.eq_nil_of_length_eq_zero t;subst this;rcases i.2 with⟨rfl,_⟩|⟨g,h,s,rfl,_⟩
  .grind
  grind
 .obtain⟨g,h,s,rfl,hB,M,G,o,F,B⟩:=Gu i t;refine⟨_,h,rfl,o,q,.inr ⟨⟨g,0,none⟩,sz,vals,rfl,z,r,λk v L=>?_⟩⟩;have u:=i.cells (g:=g) rfl k v L;have j:H ((⟨g,0,none⟩:Addr).add k)=none:=hp.unp g ⟨id,_,E,by simp[y,C2]⟩ _ (by rw[CG]);have J:∃id es,φ id=some es/\C2 (μ id)=some ((⟨g,0,none⟩:Addr).add k).block:=⟨id,es,p,by rw[CG,y];rfl⟩;simp only[Br,j];simp_all
theorem DL.of_plain{φ:Id->Option (List V)}(F:f≠Eq)(h:An P W0 f args' [] v [])(M:O8 v=true)(R:Cu (Lt n) σ)(G:∀id es,φ id=some es->∃e sz,lk σ id=some (.arr e sz es))(A:args.length=args'.length)
  (C:∀(k:Nat) (c u:V),args[k]?=some c->args'[k]?=some u->HU φ c u):DL P W0 f args σ n v σ n where
 callable _:=h.callable
 le:=Nat.le_refl _
 vin:=WK M
 sin:=R
 run:=by
  intro w μ H vals hp g;have j:∀p x,H p=some x->Br φ μ H w p=some x:=by intro p x r;simp only[Br,r]
  have D:Hp W0 [] n μ (Br φ μ H w) w:=
   {base:=hp.base
    pins:=by
     intro p x r;simp only[Br] at r;split at r
     .rename_i y F;rw[<-r];exact hp.pins p y F
     simp_all
    ents:=λ_ _ h=>by cases h
    unp:=λ_ ⟨_,_,h,_⟩=>by cases h
    sep:=λ_ _ _ _ _ h=>by cases h
    bd:=hp.bd }
  have q:VRels μ (Br φ μ H w) args' vals:=by
   refine⟨by rw[<-A];exact g.len,λk u x N r=>?_⟩;have J:k<args.length:=by grind
   exact Ap.le j (Sj hp G) (C k _ u (List.getElem?_eq_getElem J) N) (g.at_ k _ x (List.getElem?_eq_getElem J) r)
  rw[CB F];refine Calls.mono (h.run n w μ _ vals D q) ?_;rintro e w' ⟨val,S,T,n',rfl,E,t,L,B,z⟩;have i:∀o,o<w.heap.size->w'.heap[o]?=w.heap[o]?:=λo s=>B.keep o s (λ⟨_,_,h,_⟩=>by cases h);exact⟨val,μ,H,rfl,S2 M E,⟨t.base,λp x r=>t.pins p x (B.hp p x (j p x r)),λid e A=>(hp.ents id e A).keep (λ_ _ h=>h) (λ_ _ h=>h) (λo s=>i o ((hp.ents id e A).block s).2),hp.unp,hp.sep,hp.bd⟩,
   ⟨λ_ _ h=>h,λ_ _ h=>h,B.size,λo s _=>i o s,λ_ _ _=>rfl,λo _ O=>O⟩,λ_ _ h=>h⟩
noncomputable def CT(f0:FuncId)(g:List V->Option V):Az:=λf args σ n=>bif Nat.beq f f0 then(match LL (frz σ (λ_=>true) 60) args with
 | some args'=>(match g args' with
  | some v=>FX true v λv=>some (v,σ,n)
  | none=>none)
 | none=>none) else none
theorem j7{f0:FuncId}{g:List V->Option V}(h:∀args v,g args=some v->An P W0 f0 args [] v []/\O8 v=true)(A:f0≠Eq:=by decide):AF P W0 (CT f0 g):=by
 intro f args σ n v σ' n' e B z;unfold CT at e;cases i:Nat.beq f f0 with
 | false=>rw[i] at e;cases e
 | true=>
  rw[i] at e;obtain rfl:=Nat.eq_of_beq_eq_true i;simp only[cond_true] at e;split at e
  .rename_i args' y;split at e
   .rename_i v1 w;rw[DM] at e;cases e;obtain⟨q,r⟩:=h _ _ w;obtain⟨s,t⟩:=Er y;refine DL.of_plain A (φ:=Nk σ λ_=>true) q r z (λid es o=>?_) s λk c p u j=>G3 (t k c p u j);unfold Nk at o;grind
   .cases e
  .cases e
end
end Go.Ir
end
namespace Go.Ir
open Go.Proofs Go.RowKit
end Go.Ir

namespace Go.Ir
variable[FV]
def AQ(P:Program)(f:FuncId)(F:B7):Bool:=AD P f F.nt F.ic F.rs&&F.ic.cl
def A6(m:Nat)(a b:FuncId->Option B7):FuncId->Option B7:=λf=>bif Nat.blt f m then a f else b f
def A5(d:FuncId)(F:B7):FuncId->Option B7:=λf=>bif Nat.beq f d then some F else none
theorem Fw.node{P:Program}{m:Nat}{a b:FuncId->Option B7}(g:Fw P a)(i:Fw P b):Fw P (A6 m a b):=by
 intro f F h;unfold A6 at h;cases e:Nat.blt f m with
 | true=>rw[e] at h;exact g f F h
 | false=>rw[e] at h;exact i f F h
theorem Fw.leaf{P:Program}{d:FuncId}{F:B7}(g:AQ P d F=true):Fw P (A5 d F):=by
 intro f G h;unfold A5 at h;cases e:Nat.beq f d with
 | true=>rw[e] at h;cases h;obtain rfl:=Nat.eq_of_beq_eq_true e;unfold AQ at g;simpa using g
 | false=>rw[e] at h;cases h
def nO:IC:=.opxe [] ⟨none,.mv (.t 0),none,[]⟩ [] []

end Go.Ir

namespace Go.Ir
open Go.RowKit
variable[FV]
theorem DL.frame{P:Program}{W0:World}{f:FuncId}{args:List V}{n:Nat}{v:V}{σ1:Aj}{n':Nat}(h:DL P W0 f args [] n v σ1 n'){σ:Aj}(y:Cu (Lt n) σ):DL P W0 f args σ n v (over [] σ1 σ) n' where
 callable:=h.callable
 le:=h.le
 vin:=h.vin
 sin:=(y.mono (Lt.mono h.le)).over h.sin
 run:=by intro w μ H vals hp g;refine EO.mono (h.run w μ H vals (hp.part (λid e j=>by cases j)) g) ?_;rintro e w' ⟨val,p,q,t,z,o,u,i⟩;obtain⟨r,s⟩:=hp.back (σi:=[]) (λid e j=>by cases j) o u;exact⟨val,p,q,t,z,r,s,i⟩
def rW(f0:FuncId)(xs:List V)(m:Nat)(r:V×Aj×Nat):Az:=λf args σ n=>bif Nat.beq f f0&&(Eb args xs&&Nat.beq n m) then some (r.1,over [] r.2.1 σ,r.2.2) else none
theorem Uk{P:Program}{W0:World}{f0:FuncId}{xs:List V}{m:Nat}{r:V×Aj×Nat}(h:DL P W0 f0 xs [] m r.1 r.2.1 r.2.2):AF P W0 (rW f0 xs m r):=by
 intro f args σ n v σ' n' e q p;unfold rW at e;cases g:(Nat.beq f f0&&(Eb args xs&&Nat.beq n m)) with
 | false=>rw[g] at e;cases e
 | true=>rw[g] at e;simp only[Bool.and_eq_true] at g;obtain⟨i,j,o⟩:=g;obtain rfl:=Nat.eq_of_beq_eq_true i;obtain rfl:=Nat.eq_of_beq_eq_true o;obtain rfl:=(E5 _).2 _ _ (Nat.lt_succ_self _) j;cases e;exact h.frame p
noncomputable def tE(C:Az)(nt n0:Nat)(c:IC)(k j:Nat):St->Option St:=
 Nat.rec (motive:=λ_=>St->Option St) (λst=>some st) (λi e st=>match CL C (D1 C nt n0 (i+k)) c st with
  | some (.normal,s)=>Ll n0 s e
  | _=>none) j
theorem UK{C:Az}{nt n0:Nat}{c:IC}{k:Nat}:∀{j:Nat} {st e:St},tE C nt n0 c k j st=some e->Cp C nt n0 (j+k) (.loop c) st=Cp C nt n0 k (.loop c) e
 | 0,st,e,h=>by cases h;rw[Nat.zero_add]
 | j+1,st,e,h=>by
  have h:(match CL C (D1 C nt n0 (j+k)) c st with
   | some (.normal,s)=>Ll n0 s (tE C nt n0 c k j)
   | _=>none)=some e:=h
  rw[C6,Fn] at h;have g:j+1+k=(j+k)+1:=by omega
  rw[g];show(match BZ C (Cp C nt n0 (j+k)) c st with
   | some (.normal,s)=>Cp C nt n0 (j+k) (.loop c) (OA n0 s)
   | r=>r)=_
  split at h
  .rename_i s i;have h:CD (ZT n0 (s.env.map (·.2)) s.σ) (λσ=>tE C nt n0 c k j ⟨s.env,σ,s.n⟩)=some e:=h;rw[C8] at h;exact UK h
  .cases h
theorem Xm{T:FuncId->Option B7}{B:Az}{K k:Nat}{f:FuncId}{nt b:Nat}{j a2 a3 c g:IC}{q:List R}{args:List V}{m:Nat}{s0 s1:St}{r:V×Aj×Nat}
  (y:Nat.beq f Eq=false)(u:T f=some ⟨nt,.seq j (.seq a2 (.seq (.seq a3 (.block b (.loop c))) g)),q⟩)(w:Nat.ble args.length nt=true)
  (h:CL (Gm T B K k) (D1 (Gm T B K k) nt m K) (.seq j (.seq a2 a3)) ⟨params 0 args,[],m⟩=some (.normal,s0))
  (t:Cp (EI T B K k) nt m K (.loop c) s0=some (.exit b,s1))
  (i:(match CL (Gm T B K k) (D1 (Gm T B K k) nt m K) g s1 with
   | some (.ret,st)=>M5 ⟨nt,.skip,q⟩ m st
   | _=>none)=some r):EI T B K (k+1) f args [] m=some r:=by
 rw[C6,Fn,HC] at h i;show(bif Nat.beq f Eq then QN (EI T B K k) K args [] m else(match T f with
  | some F=>zX (EI T B K k) K F args [] m
  | none=>B f args [] m))=some r
 rw[y,u];simp only[cond_false];unfold zX;simp only[w,cond_true];generalize EI T B K k=C at *;have key:BZ C (Cp C nt m K) (.seq j (.seq a2 (.seq (.seq a3 (.block b (.loop c))) g))) ⟨params 0 args,[],m⟩=BZ C (Cp C nt m K) g s1:=by
  simp only[BZ] at h⊢;cases o:BZ C (Cp C nt m K) j ⟨params 0 args,[],m⟩ with
  | none=>rw[o] at h;cases h
  | some x=>
   obtain⟨e,s⟩:=x;rw[o] at h;cases e<;>simp only at h⊢<;>first|cases h|skip
   cases p:BZ C (Cp C nt m K) a2 s with
   | none=>rw[p] at h;cases h
   | some x=>
    obtain⟨e,s⟩:=x;rw[p] at h;cases e<;>simp only at h⊢<;>first|cases h|skip
    rw[h];simp only[t,if_true]
 rw[key];cases hp:BZ C (Cp C nt m K) g s1 with
 | none=>rw[hp] at i;cases i
 | some x=>
  obtain⟨e,s⟩:=x;rw[hp] at i;cases e<;>simp only at i⊢<;>first|cases i|skip
  rw[QB] at i;exact i
def fJ:IC->IC|.seq _ (.seq _ (.seq (.seq _ (.block _ (.loop c))) _))=>c|_=>.skip
def uP:IC->IC|.seq a (.seq b (.seq (.seq c _) _))=>.seq a (.seq b c)|_=>.skip
def Zq:IC->IC|.seq _ (.seq _ (.seq _ c))=>c|_=>.skip
def Amy:IC->Nat|.seq _ (.seq _ (.seq (.seq _ (.block b _)) _))=>b|_=>0
def Ac9:IC->Bool|.seq _ (.seq _ (.seq (.seq _ (.block _ (.loop _))) _))=>true|_=>false
theorem V1{ic:IC}(h:Ac9 ic=true):∃g a2 a3 b c e,ic=.seq g (.seq a2 (.seq (.seq a3 (.block b (.loop c))) e)):=by
 unfold Ac9 at h;split at h
 .exact⟨_,_,_,_,_,_,rfl⟩
 .cases h
theorem sW{T:FuncId->Option B7}{B:Az}{K k:Nat}{f:FuncId}{F:B7}{args:List V}{m:Nat}{s0 s1:St}{r:V×Aj×Nat}
  (q:Nat.beq f Eq=false)(j:T f=some F)(o:Ac9 F.ic=true)(p:Nat.ble args.length F.nt=true)
  (g:CL (Gm T B K k) (D1 (Gm T B K k) F.nt m K) (uP F.ic) ⟨params 0 args,[],m⟩=some (.normal,s0))
  (h:Cp (EI T B K k) F.nt m K (.loop (fJ F.ic)) s0=some (.exit (Amy F.ic),s1))
  (i:(match CL (Gm T B K k) (D1 (Gm T B K k) F.nt m K) (Zq F.ic) s1 with
   | some (.ret,st)=>M5 F m st
   | _=>none)=some r):EI T B K (k+1) f args [] m=some r:=by
 obtain⟨nt,ic,t⟩:=F;obtain⟨s,a2,a3,b,c,e,rfl⟩:=V1 o;exact Xm q j p g h i
end Go.Ir
section
namespace Go.Ir
open Go.RowKit
variable[FV]
def hU(e:BinOp)(b:Int):Prop:=
 match e with
 | .add|.sub|.mul|.eql|.neq|.lss|.leq|.gtr|.geq=>True
 | .quo|.rem=>b≠0
 | _=>False
def jS(e:BinOp)(k:IntKind)(a b:Int):V:=
 match e with
 | .add=>.i k (k.wrap (a+b))
 | .sub=>.i k (k.wrap (a-b))
 | .mul=>.i k (k.wrap (a*b))
 | .quo=>.i k (k.wrap (a.tdiv b))
 | .rem=>.i k (a.tmod b)
 | .eql=>.b (a==b)
 | .neq=>.b (a !=b)
 | .lss=>.b (decide (a<b))
 | .leq=>.b (decide (a<=b))
 | .gtr=>.b (decide (a>b))
 | .geq=>.b (decide (a>=b))
 | _=>.any
def Zr(e:BinOp)(a b:List UInt8):Prop:=
 match e with
 | .add=>a.length+b.length<=AO
 | .eql|.neq|.lss|.leq|.gtr|.geq=>True
 | _=>False
def gA(e:BinOp)(a b:List UInt8):V:=
 match e with
 | .add=>.s (a++b)
 | .eql=>.b (a==b)
 | .neq=>.b (!(a==b))
 | .lss=>.b (Op.bytesLess a b)
 | .leq=>.b (Op.bytesLess a b||a==b)
 | .gtr=>.b (!(Op.bytesLess a b||a==b))
 | .geq=>.b (!Op.bytesLess a b)
 | _=>.any
def No(e:BinOp):V->V->Prop
 | .i k _,.i k' b=>k=k'/\hU e b
 | .s a,.s b=>Zr e a b
 | _,_=>False
def R7(e:BinOp):V->V->V
 | .i k a,.i _ b=>jS e k a b
 | .s a,.s b=>gA e a b
 | _,_=>.any
theorem fM{e:BinOp}{k:IntKind}{a b:Int}{v:V}:QH e k a b v↔hU e b/\v=jS e k a b:=by cases e<;>simp[QH,hU,jS]
theorem Z8{e:BinOp}{a b:List UInt8}{v:V}:Qm e a b v↔Zr e a b/\v=gA e a b:=by cases e<;>simp[Qm,Zr,gA]
theorem f6{e:BinOp}{x y v:V}:Or e x y v↔No e x y/\v=R7 e x y:=by
 unfold Or;split
 .simp only[No,R7,fM,and_assoc]
 .simp only[No,R7,Z8]
 .rename_i g h;have:¬No e x y:=by unfold No;grind
  simp[this]
def RK:V->Prop|.b _=>True|_=>False
def Ni:V->Bool|.b t=>t|_=>false
theorem Ut{v:V}{Q:Bool->Prop}:(∃t,v=.b t/\Q t)↔RK v/\Q (Ni v):=by cases v<;>simp[RK,Ni]
def N0:V->Prop|.i _ _=>True|_=>False
def Ka:V->Int|.i _ n=>n|_=>0
def s5:V->IntKind|.i k _=>k|_=>.i64
def r9:V->Prop|.s _=>True|_=>False
def nD:V->List UInt8|.s l=>l|_=>[]
def Tk:V->Prop|.ref _ _|.aref _ _ _ _|.ep _ _=>True|_=>False
def I4:V->Nat->V
 | .ref id o,n=>.ref id (o+n)
 | .aref id g sz o,n=>.aref id g sz (o+n)
 | .ep e o,n=>.ep e (o+n)
 | v,_=>v
def EK(σ:Aj)(sz:Nat):V->V->Option V
 | .sl es,.i _ n=>if 0<=n then(es[n.toNat]?).bind λg=>if(cells g).length=sz then some (.ep g 0) else none else none
 | .arr id,.i _ n=>if 0<=n then(match lk σ id with|some (.arr _ e es)=>if e=sz/\n.toNat<es.length then some (.aref id n.toNat sz 0) else none|_=>none) else none
 | _,_=>none
def Gg(σ:Aj)(n:Nat)(g:Bool):V->Option V
 | .ref id e=>match lk σ id with|some (.box u)=>sub u e n g|some (.tbox _ u)=>sub u e n g|_=>none
 | .aref id j sz e=>match lk σ id with|some (.arr _ h es)=>if h=sz then(es[j]?).bind λi=>sub i e n g else none|_=>none
 | .ep u e=>sub u e n g
 | _=>none
def EJ(σ:Aj)(n:Nat)(x:V):V->Option Aj
 | .ref id g=>match lk σ id with|some (.box u)=>(Du u g n x).map λj=>upd σ id (.box j)|some (.tbox t u)=>(Du u g n x).map λj=>upd σ id (.tbox t j)|_=>none
 | .aref id o sz g=>match lk σ id with|some (.arr e i es)=>if i=sz then(es[o]?).bind λp=>(Du p g n x).map λh=>upd σ id (.arr e sz (es.set o h)) else none|_=>none
 | _=>none
def P1:V->V->Option V
 | .s l,.i _ n=>if 0<=n then(l[n.toNat]?).map λc=>.i .u8 c.toNat else none
 | _,_=>none
section
variable{P:Program}{W0:World}{ep:Nat}{l:List I}{env:AB}{σ:Aj}{K:AB→Aj→Prop}
theorem BU{d:Option Nat}{e:AE}:Ao P W0 ep (⟨d,e,none,[]⟩::l) env σ K↔∃v σ',E P W0 ep d e (get env) σ v σ'/\Ao P W0 ep l (put env d v) σ' K:=by simp[Ao,CI,EA,S0,IT]
theorem Ase{d:Option Nat}{e:AE}{x:X}{ap:List X}(p:e.cl=false):Ao P W0 ep (⟨d,e,none,x::ap⟩::l) env σ K↔S0 ⟨d,e,none,x::ap⟩ (get env)/\Ao P W0 ep (⟨d,e,none,[]⟩::l) env σ K:=by
 simp only[Ao,CI,EA];constructor
 .rintro⟨v,σ',⟨g,i,_⟩,j⟩;exact⟨i,v,σ',⟨g,λx o=>(by cases o),λ_ x o=>(by cases o)⟩,j⟩
 .rintro⟨i,v,σ',⟨g,_⟩,j⟩;exact⟨v,σ',⟨g,i,λh=>by rw[p] at h;cases h⟩,j⟩
def CE(e:Bool)(v:V)(x y:Prop):Prop:=
 match v with
 | .b t=>(t=e->x)/\(t≠e->y)
 | .tup []=>y
 | _=>False
theorem Hd{d:Option Nat}{e:AE}{C:Prop}{val:V}{τ:Aj}(h:∀v σ',E P W0 ep d e (get env) σ v σ'↔C/\v=val/\σ'=τ) :
  Ao P W0 ep (⟨d,e,none,[]⟩::l) env σ K↔C/\Ao P W0 ep l (put env d val) τ K:=by
 rw[BU];grind
theorem Ji{d:Option Nat}{e:AE}{C:Prop}{o:Option V}(h:∀v σ',E P W0 ep d e (get env) σ v σ'↔C/\o=some v/\σ'=σ) :
  Ao P W0 ep (⟨d,e,none,[]⟩::l) env σ K↔C/\o.isSome=true/\Ao P W0 ep l (put env d (o.getD .any)) σ K:=by
 rw[BU];constructor
 .grind
 .rintro⟨j,g,i⟩;cases o with
  | none=>cases g
  | some v=>grind
variable{d:Nat}
theorem At6{x:X}:Ao P W0 ep (⟨some d,.mv x,none,[]⟩::l) env σ K↔Ao P W0 ep l ((d,ev (get env) x)::env) σ K:=
 (Hd (C:=True) (val:=ev (get env) x) (τ:=σ) λv σ'=>by simp[E]).trans (by simp[put])
theorem AbR{c a b:X}:Ao P W0 ep (⟨some d,.pick c a b,none,[]⟩::l) env σ K↔RK (ev (get env) c)/\Ao P W0 ep l ((d,bif Ni (ev (get env) c) then ev (get env) a else ev (get env) b)::env) σ K:=
 Hd λv σ'=>by simp only[E];exact Ut
theorem Apl{e:BinOp}{x y:X}:Ao P W0 ep (⟨some d,.bin e x y,none,[]⟩::l) env σ K↔No e (ev (get env) x) (ev (get env) y)/\Ao P W0 ep l ((d,R7 e (ev (get env) x) (ev (get env) y))::env) σ K:=
 Hd λv σ'=>by simp only[E,f6,and_assoc]
theorem Anj{x:X}:Ao P W0 ep (⟨some d,.not x,none,[]⟩::l) env σ K↔RK (ev (get env) x)/\Ao P W0 ep l ((d,.b (!(Ni (ev (get env) x))))::env) σ K:=
 Hd λv σ'=>by simp only[E];exact Ut
theorem Ajq{k:IntKind}{x:X}:Ao P W0 ep (⟨some d,.cvi k x,none,[]⟩::l) env σ K↔N0 (ev (get env) x)/\Ao P W0 ep l ((d,.i k (k.wrap (Ka (ev (get env) x))))::env) σ K:=
 Hd λv σ'=>by
  simp only[E];cases ev (get env) x<;>(try (simp[N0,Ka];done))
  rename_i k' n;simp only[N0,Ka,true_and];grind
theorem tG{x:X}{e:Nat}:Ao P W0 ep (⟨some d,.faddr x e,none,[]⟩::l) env σ K↔Tk (ev (get env) x)/\Ao P W0 ep l ((d,I4 (ev (get env) x) e)::env) σ K:=
 Hd λv σ'=>by simp only[E];cases ev (get env) x<;>simp[Tk,I4]
theorem lT{x i:X}{e sz:Nat}:Ao P W0 ep (⟨some d,.iaddr x i e sz,none,[]⟩::l) env σ K↔True/\(EK σ sz (ev (get env) x) (ev (get env) i)).isSome=true/\Ao P W0 ep l ((d,(EK σ sz (ev (get env) x) (ev (get env) i)).getD .any)::env) σ K:=
 Ji λv σ'=>by
  simp only[E,true_and];cases g:ev (get env) i<;>(try (cases ev (get env) x<;>simp[EK];done))
  rename_i k n;cases h:ev (get env) x<;>(try (simp[EK];done))
  .rename_i es;simp only[EK];grind
  .rename_i id;simp only[EK];grind
theorem AmT{x i:X}:Ao P W0 ep (⟨some d,.idx x i,none,[]⟩::l) env σ K↔True/\(P1 (ev (get env) x) (ev (get env) i)).isSome=true/\Ao P W0 ep l ((d,(P1 (ev (get env) x) (ev (get env) i)).getD .any)::env) σ K:=
 Ji λv σ'=>by
  simp only[E,true_and];cases e:ev (get env) i<;>(try (cases ev (get env) x<;>simp[P1];done))
  rename_i k n;cases g:ev (get env) x<;>(try (simp[P1];done))
  rename_i l;simp only[P1];grind
theorem Aed{x:X}{n:Nat}{e:Bool}:Ao P W0 ep (⟨some d,.load x n e,none,[]⟩::l) env σ K↔True/\(Gg σ n e (ev (get env) x)).isSome=true/\Ao P W0 ep l ((d,(Gg σ n e (ev (get env) x)).getD .any)::env) σ K:=
 Ji λv σ'=>by
  simp only[E,true_and];cases j:ev (get env) x<;>(try (simp[Gg];done))
  .rename_i id g;simp only[Gg];cases i:lk σ id with
   | none=>simp
   | some h=>cases h<;>simp[C0]
  .rename_i id o sz g;simp only[Gg];grind
end
end Go.Ir
end
section
namespace Go.Ir
open Go.RowKit
variable[FV]
def Ht(sz:Nat):List V->Prop
 | []=>True
 | x::xs=>(x.ok=true/\(cells x).length=sz)/\Ht sz xs
theorem Kj{sz:Nat}:∀{xs:List V},(∀x∈xs,x.ok=true/\(cells x).length=sz)↔Ht sz xs
 | []=>by simp[Ht]
 | x::xs=>by simp[Ht,Kj (xs:=xs)]
def WL(g:Nat->V):List (Nat×Nat×X)->Prop
 | []=>True
 | p::ps=>(ev g p.2.2).ok=true/\WL g ps
theorem Q5{g:Nat->V}:∀{ps:List (Nat×Nat×X)},(∀p∈ps,(ev g p.2.2).ok=true)↔WL g ps
 | []=>by simp[WL]
 | p::ps=>by have:=Q5 (g:=g) (ps:=ps);simp only[WL,List.mem_cons,forall_eq_or_imp,this]
def Kk(g:Nat->V)(h e:Option X):V->Option V
 | .s l=>(Fe g 0 h).bind λa=>(Fe g l.length e).bind λb=>if a<=b/\b<=l.length then some (.s ((l.take b).drop a)) else none
 | _=>none
def Hx(g:Nat->V)(h e:Option X)(es:List V):Option V:=
 (Fe g 0 h).bind λa=>(Fe g es.length e).bind λb=>if a<=b/\b<=es.length then some (.sl ((es.take b).drop a)) else none
def CY(sz:Nat):V->Prop
 | .sl es=>∀y∈es,(cells y).length=sz
 | .nil=>True
 | _=>False
def wP:V->List V
 | .sl es=>es
 | _=>[]
def Ma(σ:Aj)(id:Id)(e sz:Nat)(xs:List V):V->Option Aj
 | .nil=>if xs.length<=Bf then some ((id,.arr e sz xs)::σ) else none
 | .arr g=>match lk σ g with
  | some (.arr e' h es)=>if e'=e/\h=sz/\es.length+xs.length<=Bf then some ((id,.arr e sz (es++xs))::del σ g) else none
  | _=>none
 | _=>none
def T1(k:Nat):V->Option V
 | .tup vs=>vs[k]?
 | _=>none
def DT:V->Prop
 | .ref _ _|.aref _ _ _ _|.ep _ _|.fn _ _ _=>True
 | _=>False
section
variable{P:Program}{W0:World}{ep:Nat}{l:List I}{env:AB}{σ:Aj}{K:AB→Aj→Prop}
theorem xC{d:Option Nat}{e:AE}{C:Prop}{val:V}{o:Option Aj}(h:∀v σ',E P W0 ep d e (get env) σ v σ'↔C/\v=val/\o=some σ') :
  Ao P W0 ep (⟨d,e,none,[]⟩::l) env σ K↔C/\o.isSome=true/\Ao P W0 ep l (put env d val) (o.getD []) K:=by
 rw[BU];constructor
 .grind
 .rintro⟨j,g,i⟩;cases o with
  | none=>cases g
  | some τ=>grind
theorem nJ{a x:X}{n:Nat}:Ao P W0 ep (⟨none,.store a x n,none,[]⟩::l) env σ K↔(ev (get env) x).ok=true/\(EJ σ n (ev (get env) x) (ev (get env) a)).isSome=true/\Ao P W0 ep l env ((EJ σ n (ev (get env) x) (ev (get env) a)).getD []) K:=
 xC λv σ'=>by
  simp only[E];refine and_congr_right λ_=>and_congr_right λ_=>?_;cases ev (get env) a<;>(try (simp[EJ];done))
  .rename_i id g;simp only[EJ];cases y:lk σ id with
   | none=>simp
   | some j=>
    cases j with
    | arr e sz es=>simp[RH]
    | map _=>simp[RH]
    | it _ _=>simp[RH]
    | mit _ _ _ _=>simp[RH]
    | loop _ _ _ _ _ _ _=>simp[RH]
    | box u=>
     constructor
     .rintro⟨j,o,p,h,rfl⟩;cases p;simp only[RH] at h;cases i:Du u g n (ev (get env) x) with
      | none=>rw[i] at h;cases h
      | some w=>grind
     .intro h;cases i:Du u g n (ev (get env) x) with
      | none=>grind
      | some w=>simp only[i] at h;cases h;exact⟨_,_,rfl,by simp only[RH,i];rfl,rfl⟩
    | tbox t u=>
     constructor
     .rintro⟨j,o,p,h,rfl⟩;cases p;simp only[RH] at h;cases i:Du u g n (ev (get env) x) with
      | none=>rw[i] at h;cases h
      | some w=>grind
     .intro h;cases i:Du u g n (ev (get env) x) with
      | none=>grind
      | some w=>simp only[i] at h;cases h;exact⟨_,_,rfl,by simp only[RH,i];rfl,rfl⟩
  .rename_i id z sz g;simp only[EJ];cases y:lk σ id with
   | none=>simp
   | some j=>
    cases j with
    | box u=>simp
    | tbox _ _=>simp
    | map _=>simp
    | it _ _=>simp
    | mit _ _ _ _=>simp
    | loop _ _ _ _ _ _ _=>simp
    | arr e A es=>
     simp only[Option.some.injEq,AX.arr.injEq];constructor
     .grind
     .intro h;split at h
      .rename_i q;subst q;cases r:es[z]? with
       | none=>rw[r] at h;cases h
       | some s=>
        rw[r] at h;simp only[Option.bind_some] at h;cases i:Du s g n (ev (get env) x) with
        | none=>rw[i] at h;cases h
        | some w=>grind
      .cases h
variable{d:Nat}
theorem Ao1{x:X}:Ao P W0 ep (⟨some d,.box x,none,[]⟩::l) env σ K↔(ev (get env) x).ok=true/\Ao P W0 ep l ((d,.ref (ep,d) 0)::env) (((ep,d),.box (ev (get env) x))::σ) K:=
 Hd λv σ'=>by simp only[E,Option.some.injEq];grind
theorem o8{z:V}:Ao P W0 ep (⟨some d,.alloc z,none,[]⟩::l) env σ K↔True/\Ao P W0 ep l ((d,.ref (ep,d) 0)::env) (((ep,d),.box z)::σ) K:=
 Hd λv σ'=>by simp only[E,Option.some.injEq,true_and];grind
theorem lD{z:List V}{ps:List (Nat×Nat×X)}:Ao P W0 ep (⟨some d,.build z ps,none,[]⟩::l) env σ K↔WL (get env) ps/\(((Dz z (ps.map λp=>(p.1,p.2.1,ev (get env) p.2.2))).map V.agg).isSome=true)/\Ao P W0 ep l ((d,((Dz z (ps.map λp=>(p.1,p.2.1,ev (get env) p.2.2))).map V.agg).getD .any)::env) σ K:=
 Ji λv σ'=>by
  simp only[E,Q5];refine and_congr_right λ_=>and_congr_left λ_=>?_;cases Dz z (ps.map λp=>(p.1,p.2.1,ev (get env) p.2.2)) with
  | none=>simp
  | some cs=>simp[eq_comm]
theorem AfB{e sz:Nat}{xs:List X}:Ao P W0 ep (⟨some d,.msl true e sz xs,none,[]⟩::l) env σ K↔Ht sz (xs.map (ev (get env)))/\Ao P W0 ep l ((d,.arr (ep,d))::env) (((ep,d),.arr e sz (xs.map (ev (get env))))::σ) K:=
 Hd λv σ'=>by simp only[E,Kj,Option.some.injEq];grind
theorem Aeo{e sz:Nat}{xs:List X}:Ao P W0 ep (⟨some d,.msl false e sz xs,none,[]⟩::l) env σ K↔Ht sz (xs.map (ev (get env)))/\Ao P W0 ep l ((d,.sl (xs.map (ev (get env))))::env) σ K:=
 Hd λv σ'=>by simp only[E,Kj,Bool.false_eq_true,if_false]
theorem Apw{x:X}{i g:Option X}:Ao P W0 ep (⟨some d,.slS x i g,none,[]⟩::l) env σ K↔True/\(Kk (get env) i g (ev (get env) x)).isSome=true/\Ao P W0 ep l ((d,(Kk (get env) i g (ev (get env) x)).getD .any)::env) σ K:=
 Ji λv σ'=>by
  simp only[E,true_and];constructor
  .rintro⟨l,a,b,e,j,o,p,q,rfl,rfl⟩;simp[Kk,e,j,o,p,q]
  .rintro⟨h,rfl⟩;cases r:ev (get env) x<;>rw[r] at h<;>simp only[Kk] at h<;>(try (cases h;done));rename_i l;cases e:Fe (get env) 0 i with
   | none=>rw[e] at h;cases h
   | some a=>
    cases j:Fe (get env) l.length g with
    | none=>rw[e,j] at h;cases h
    | some b=>simp_all
theorem Aie{x:X}{i g:Option X}{sz:Nat}:Ao P W0 ep (⟨some d,.slL x i g sz,none,[]⟩::l) env σ K↔CY sz (ev (get env) x)/\(Hx (get env) i g (wP (ev (get env) x))).isSome=true/\Ao P W0 ep l ((d,(Hx (get env) i g (wP (ev (get env) x))).getD .any)::env) σ K:=
 Ji λv σ'=>by
  simp only[E];constructor
  .rintro⟨es,a,b,e,j,r,s,t,u,rfl,rfl⟩;rcases e with e|⟨e,rfl⟩
   .rw[e];exact⟨u,by simp[Hx,wP,j,r,s,t],rfl⟩
   .rw[e];exact⟨trivial,(by simp only[Hx,j,r,Option.bind_some];exact if_pos ⟨s,t⟩:Hx (get env) i g []=_),rfl⟩
  .rintro⟨p,h,rfl⟩;have q:∀es:List V,(ev (get env) x=.sl es\/ev (get env) x=.nil/\es=[])->Hx (get env) i g es=some v->(∀y∈es,(cells y).length=sz)->∃es a b,(ev (get env) x=.sl es\/ev (get env) x=.nil/\es=[])/\Fe (get env) 0 i=some a/\Fe (get env) es.length g=some b/\a<=b/\b<=es.length/\(∀y∈es,(cells y).length=sz)/\v=.sl ((es.take b).drop a)/\σ'=σ':=by
    intro es w h z;unfold Hx at h;cases e:Fe (get env) 0 i with
    | none=>rw[e] at h;cases h
    | some a=>
     cases j:Fe (get env) es.length g with
     | none=>rw[e,j] at h;cases h
     | some b=>
      simp only[e,j,Option.bind_some] at h;split at h
      .grind
      .cases h
   cases o:ev (get env) x<;>rw[o] at p h<;>simp only[CY] at p
   .have:=q [] (.inr ⟨o,rfl⟩) h (by simp);rw[o] at this;exact this
   .rename_i es;have:=q es (.inl o) h p;rw[o] at this;exact this
theorem AaC{x:X}:Ao P W0 ep (⟨some d,.lenS x,none,[]⟩::l) env σ K↔r9 (ev (get env) x)/\Ao P W0 ep l ((d,.i .i64 ((nD (ev (get env) x)).length:Nat))::env) σ K:=
 Hd λv σ'=>by simp only[E];cases ev (get env) x<;>simp[r9,nD]
theorem Aco{x:X}:Ao P W0 ep (⟨some d,.lenL x,none,[]⟩::l) env σ K↔(AA σ (ev (get env) x)).isSome=true/\Ao P W0 ep l ((d,.i .i64 (((AA σ (ev (get env) x)).getD []).length:Nat))::env) σ K:=
 Hd λv σ'=>by simp only[E];cases AA σ (ev (get env) x)<;>simp
theorem Anu{s x:X}{e sz:Nat}:Ao P W0 ep (⟨some d,.app s x e sz,none,[]⟩::l) env σ K↔((AA σ (ev (get env) x)).isSome=true/\∀y∈(AA σ (ev (get env) x)).getD [],(cells y).length=sz)/\(Ma σ (ep,d) e sz ((AA σ (ev (get env) x)).getD []) (ev (get env) s)).isSome=true/\Ao P W0 ep l ((d,.arr (ep,d))::env) ((Ma σ (ep,d) e sz ((AA σ (ev (get env) x)).getD []) (ev (get env) s)).getD []) K:=
 xC λv σ'=>by
  simp only[E,Option.some.injEq];cases AA σ (ev (get env) x) with
  | none=>simp
  | some xs=>
   simp only[Option.some.injEq,Option.isSome_some,Option.getD_some,true_and];constructor
   .rintro⟨q,p,rfl,rfl,h,rfl,g⟩;refine⟨h,rfl,?_⟩;cases i:ev (get env) s<;>rw[i] at g<;>simp only at g<;>(try (exact g.elim))
    .simp[Ma,g]
    .obtain⟨es,j,o,rfl⟩:=g;simp[Ma,j,o]
   .rintro⟨h,rfl,g⟩;refine⟨d,xs,rfl,rfl,h,rfl,?_⟩;cases i:ev (get env) s<;>rw[i] at g<;>simp only[Ma] at g<;>(try (cases g;done))
    .grind
    grind
theorem Amv{x:X}{k:Nat}:Ao P W0 ep (⟨some d,.ext x k,none,[]⟩::l) env σ K↔True/\(T1 k (ev (get env) x)).isSome=true/\Ao P W0 ep l ((d,(T1 k (ev (get env) x)).getD .any)::env) σ K:=
 Ji λv σ'=>by simp only[E];cases ev (get env) x<;>simp[T1]
theorem AtT{e:Bool}{x:X}{xs:List X}:Ao P W0 ep (⟨some d,.mx e x xs,none,[]⟩::l) env σ K↔True/\(NB e (ev (get env) x) (xs.map (ev (get env)))).isSome=true/\Ao P W0 ep l ((d,(NB e (ev (get env) x) (xs.map (ev (get env)))).getD .any)::env) σ K:=
 Ji λv σ'=>by simp[E]
end
theorem wrap64{n:Int}(e:-9223372036854775808<=n)(g:n<9223372036854775808):IntKind.i64.wrap n=n:=by simp only[IntKind.wrap,IntKind.bits,IntKind.signed] at *;simp;omega
theorem pL{e:Bool}{v:V}:NB e v []=some v:=by cases v<;>rfl
theorem Akj{e:Bool}{k:IntKind}{a b:Int}{r:List V}:NB e (.i k a) (.i k b::r)=NB e (.i k (if e=true then min a b else max a b)) r:=by simp[NB]
end Go.Ir
end
namespace Go.Ir
open Go.RowKit
variable[FV]
def Tv(o:Option AX)(id:Id)(sz:Nat)(n:Int):Option V:=
 match o with|some (.arr _ e es)=>if e=sz/\n.toNat<es.length then some (.aref id n.toNat sz 0) else none|_=>none
def Vm(h:Option AX)(e n:Nat)(g:Bool):Option V:=match h with|some (.box u)=>sub u e n g|some (.tbox _ u)=>sub u e n g|_=>none
def gQ(j:Option AX)(o sz e n:Nat)(h:Bool):Option V:=match j with|some (.arr _ g es)=>if g=sz then(es[o]?).bind λi=>sub i e n h else none|_=>none
def O0(h:Option AX)(σ:Aj)(n:Nat)(x:V)(id:Id)(e:Nat):Option Aj:=match h with|some (.box u)=>(Du u e n x).map λg=>upd σ id (.box g)|some (.tbox t u)=>(Du u e n x).map λg=>upd σ id (.tbox t g)|_=>none
def So(p:Option AX)(σ:Aj)(n:Nat)(x:V)(id:Id)(j sz h:Nat):Option Aj:=match p with|some (.arr e i es)=>if i=sz then(es[j]?).bind λo=>(Du o h n x).map λg=>upd σ id (.arr e sz (es.set j g)) else none|_=>none
def AaN(i:Option AX)(σ:Aj)(id g:Id)(e sz:Nat)(xs:List V):Option Aj:=match i with|some (.arr e' h es)=>if e'=e/\h=sz/\es.length+xs.length<=Bf then some ((id,.arr e sz (es++xs))::del σ g) else none|_=>none
def SJ:Option AX->Option (List V)|some (.arr _ _ es)=>some es|_=>none
def o3:V->Option Nat|.i _ n=>if 0<=n then some n.toNat else none|_=>none
theorem pX{x:Bool}:cells (.b x)=[(.b x)]:=rfl
theorem AuA{x:Bool}:V.ok (.b x)=true:=rfl
theorem oH{k:IntKind}{n:Int}:cells (.i k n)=[(.i k n)]:=rfl
theorem AsI{k:IntKind}{n:Int}:V.ok (.i k n)=true:=rfl
theorem rU{l:List UInt8}:cells (.s l)=[(.s l)]:=rfl
theorem AtO{l:List UInt8}:V.ok (.s l)=true:=rfl
theorem V9:cells .nil=[.nil]:=rfl
theorem AeL:V.ok .nil=true:=rfl
theorem bS{es:List V}:cells (.sl es)=[(.sl es)]:=rfl
theorem AhB{es:List V}:V.ok (.sl es)=true:=rfl
theorem W2{cs:List V}:cells (.agg cs)=cs:=rfl
theorem AbM{cs:List V}:V.ok (.agg cs)=true:=rfl
theorem W3{id:Id}{o:Nat}:cells (.ref id o)=[(.ref id o)]:=rfl
theorem Aej{id:Id}{o:Nat}:V.ok (.ref id o)=true:=rfl
theorem Xt{id:Id}:cells (.arr id)=[(.arr id)]:=rfl
theorem Adi{id:Id}:V.ok (.arr id)=true:=rfl
theorem RN{id:Id}{e:Nat}{sz:Nat}{o:Nat}:cells (.aref id e sz o)=[(.aref id e sz o)]:=rfl
theorem qB{id:Id}{e:Nat}{sz:Nat}{o:Nat}:V.ok (.aref id e sz o)=true:=rfl
theorem aG{e:V}{o:Nat}:cells (.ep e o)=[(.ep e o)]:=rfl
theorem Ajg{e:V}{o:Nat}:V.ok (.ep e o)=true:=rfl
theorem XF{f:FuncId}{a:List V}{c:List V}:cells (.fn f a c)=[(.fn f a c)]:=rfl
theorem Aob{f:FuncId}{a:List V}{c:List V}:V.ok (.fn f a c)=true:=rfl
theorem dH:cells .np=[.np]:=rfl
theorem AiX:V.ok .np=true:=rfl
theorem Z0:cells .nf=[.nf]:=rfl
theorem Am8:V.ok .nf=true:=rfl
theorem XG:cells .ni=[.ni]:=rfl
theorem Ai2:V.ok .ni=true:=rfl
theorem nB{cs:List V}:JZ (.agg cs)=true:=rfl
theorem AnV{x:Bool}:RK (.b x)=True:=rfl
theorem Ajc{x:Bool}:Ni (.b x)=x:=rfl
theorem Alf{k:IntKind}{n:Int}:N0 (.i k n)=True:=rfl
theorem AiZ{k:IntKind}{n:Int}:Ka (.i k n)=n:=rfl
theorem AhR{k:IntKind}{n:Int}:s5 (.i k n)=k:=rfl
theorem Alj{l:List UInt8}:r9 (.s l)=True:=rfl
theorem AkI{l:List UInt8}:nD (.s l)=l:=rfl
theorem YG{id:Id}{o:Nat}:Tk (.ref id o)=True:=rfl
theorem SP{id:Id}{o:Nat}{m:Nat}:I4 (.ref id o) m=.ref id (o+m):=rfl
theorem s8{id:Id}{o:Nat}:DT (.ref id o)=True:=rfl
theorem WD{id:Id}{e:Nat}{sz:Nat}{o:Nat}:Tk (.aref id e sz o)=True:=rfl
theorem QR{id:Id}{e:Nat}{sz:Nat}{o:Nat}{m:Nat}:I4 (.aref id e sz o) m=.aref id e sz (o+m):=rfl
theorem jE{id:Id}{e:Nat}{sz:Nat}{o:Nat}:DT (.aref id e sz o)=True:=rfl
theorem qI{e:V}{o:Nat}:Tk (.ep e o)=True:=rfl
theorem VA{e:V}{o:Nat}{m:Nat}:I4 (.ep e o) m=.ep e (o+m):=rfl
theorem Aci{e:V}{o:Nat}:DT (.ep e o)=True:=rfl
theorem AcR{f:FuncId}{a:List V}{c:List V}:DT (.fn f a c)=True:=rfl
theorem Xe{σ:Aj}{sz:Nat}{es:List V}{k:IntKind}{n:Int}:EK σ sz (.sl es) (.i k n)=if 0<=n then(es[n.toNat]?).bind λe=>if(cells e).length=sz then some (.ep e 0) else none else none:=rfl
theorem Sr{σ:Aj}{sz:Nat}{id:Id}{k:IntKind}{n:Int}:EK σ sz (.arr id) (.i k n)=if 0<=n then Tv (lk σ id) id sz n else none:=by unfold EK Tv;rfl
theorem Tl{e g:Nat}{es:List V}{id:Id}{sz:Nat}{n:Int}:Tv (some (.arr e g es)) id sz n=if g=sz/\n.toNat<es.length then some (.aref id n.toNat sz 0) else none:=rfl
theorem Vt{σ:Aj}{n:Nat}{e:Bool}{id:Id}{o:Nat}:Gg σ n e (.ref id o)=Vm (lk σ id) o n e:=by unfold Gg Vm;rfl
theorem Wk{u:V}{o n:Nat}{e:Bool}:Vm (some (.box u)) o n e=sub u o n e:=rfl
theorem TD{t:TypeId}{u:V}{o n:Nat}{e:Bool}:Vm (some (.tbox t u)) o n e=sub u o n e:=rfl
theorem SE{σ:Aj}{n:Nat}{e:Bool}{id:Id}{g sz o:Nat}:Gg σ n e (.aref id g sz o)=gQ (lk σ id) g sz o n e:=by unfold Gg gQ;rfl
theorem VQ{e g:Nat}{es:List V}{i sz o n:Nat}{h:Bool}:gQ (some (.arr e g es)) i sz o n h=if g=sz then(es[i]?).bind λj=>sub j o n h else none:=rfl
theorem cP{σ:Aj}{n:Nat}{g:Bool}{e:V}{o:Nat}:Gg σ n g (.ep e o)=sub e o n g:=rfl
theorem RR{σ:Aj}{n:Nat}{x:V}{id:Id}{o:Nat}:EJ σ n x (.ref id o)=O0 (lk σ id) σ n x id o:=by unfold EJ O0;rfl
theorem Sp{u:V}{σ:Aj}{n:Nat}{x:V}{id:Id}{o:Nat}:O0 (some (.box u)) σ n x id o=(Du u o n x).map λe=>upd σ id (.box e):=rfl
theorem Rk{t:TypeId}{u:V}{σ:Aj}{n:Nat}{x:V}{id:Id}{o:Nat}:O0 (some (.tbox t u)) σ n x id o=(Du u o n x).map λe=>upd σ id (.tbox t e):=rfl
theorem Sf{e g:Nat}{es:List V}{σ:Aj}{n:Nat}{x:V}{id:Id}{i sz o:Nat}:So (some (.arr e g es)) σ n x id i sz o=if g=sz then(es[i]?).bind λj=>(Du j o n x).map λh=>upd σ id (.arr e sz (es.set i h)) else none:=rfl
theorem AdO{l:List UInt8}{k:IntKind}{n:Int}:P1 (.s l) (.i k n)=if 0<=n then(l[n.toNat]?).map λc=>.i .u8 c.toNat else none:=rfl
theorem bJ{g:Nat->V}{h e:Option X}{l:List UInt8}:Kk g h e (.s l)=(Fe g 0 h).bind λa=>(Fe g l.length e).bind λb=>if a<=b/\b<=l.length then some (.s ((l.take b).drop a)) else none:=rfl
theorem Abz{sz:Nat}{es:List V}:CY sz (.sl es)=∀y∈es,(cells y).length=sz:=rfl
theorem s9{sz:Nat}:CY sz .nil=True:=rfl
theorem Ag1{es:List V}:wP (.sl es)=es:=rfl
theorem qN:wP .nil=[]:=rfl
theorem gC{σ:Aj}{id:Id}{e sz:Nat}{xs:List V}:Ma σ id e sz xs .nil=if xs.length<=Bf then some ((id,.arr e sz xs)::σ) else none:=rfl
theorem YH{σ:Aj}{id g:Id}{e sz:Nat}{xs:List V}:Ma σ id e sz xs (.arr g)=AaN (lk σ g) σ id g e sz xs:=by unfold Ma AaN;rfl
theorem j3{e' h:Nat}{es:List V}{σ:Aj}{id g:Id}{e sz:Nat}{xs:List V}:AaN (some (.arr e' h es)) σ id g e sz xs=if e'=e/\h=sz/\es.length+xs.length<=Bf then some ((id,.arr e sz (es++xs))::del σ g) else none:=rfl
theorem XB{k:Nat}{vs:List V}:T1 k (.tup vs)=vs[k]?:=rfl
theorem Tn{σ:Aj}{es:List V}:AA σ (.sl es)=some es:=rfl
theorem Qg{σ:Aj}:AA σ .nil=some []:=rfl
theorem R0{σ:Aj}{id:Id}:AA σ (.arr id)=SJ (lk σ id):=by unfold AA SJ;rfl
theorem TE{e sz:Nat}{es:List V}:SJ (some (.arr e sz es))=some es:=rfl
theorem AcN{e:BinOp}{k k':IntKind}{a b:Int}:No e (.i k a) (.i k' b)=(k=k'/\hU e b):=rfl
theorem Agq{e:BinOp}{a b:List UInt8}:No e (.s a) (.s b)=Zr e a b:=rfl
theorem Ag0{e:BinOp}{k k':IntKind}{a b:Int}:R7 e (.i k a) (.i k' b)=jS e k a b:=rfl
theorem AeR{e:BinOp}{a b:List UInt8}:R7 e (.s a) (.s b)=gA e a b:=rfl
theorem cI{g:Nat->V}{m:Nat}:Fe g m none=some m:=rfl
theorem Q2{g:Nat->V}{m:Nat}{x:X}:Fe g m (some x)=o3 (ev g x):=by unfold Fe o3;rfl
theorem Aby{k:IntKind}{n:Int}:o3 (.i k n)=if 0<=n then some n.toNat else none:=rfl
end Go.Ir
section
namespace Go.Ir
open Go.RowKit
variable[FV]
def AU(env:AB)(x:X):V:=ev (get env) x
def De(env:AB)(xs:List X):List V:=xs.map (ev (get env))
def Dr(env:AB)(ps:List (Nat×Nat×X)):List (Nat×Nat×V):=ps.map λp=>(p.1,p.2.1,ev (get env) p.2.2)
def Qx(env:AB)(ps:List (Nat×Nat×X)):Prop:=WL (get env) ps
def S3(env:AB)(m:Nat)(x:Option X):Option Nat:=Fe (get env) m x
def Lr(env:AB)(g e:Option X)(v:V):Option V:=Kk (get env) g e v
def LB(env:AB)(g e:Option X)(es:List V):Option V:=Hx (get env) g e es
theorem Ald{env:AB}{s:Nat}:AU env (.t s)=get env s:=rfl
theorem AkT{env:AB}{v:V}:AU env (.c v)=v:=rfl
theorem pP{env:AB}:De env []=[]:=rfl
theorem Z6{env:AB}{x:X}{xs:List X}:De env (x::xs)=AU env x::De env xs:=rfl
theorem nF{env:AB}:Dr env []=[]:=rfl
theorem ZI{env:AB}{a b:Nat}{x:X}{ps:List (Nat×Nat×X)}:Dr env ((a,b,x)::ps)=(a,b,AU env x)::Dr env ps:=rfl
theorem Wh{env:AB}:Qx env []=True:=rfl
theorem Ss{env:AB}{a b:Nat}{x:X}{ps:List (Nat×Nat×X)}:Qx env ((a,b,x)::ps)=((AU env x).ok=true/\Qx env ps):=rfl
theorem Wo{env:AB}{m:Nat}:S3 env m none=some m:=rfl
theorem Xy{env:AB}{m:Nat}{x:X}:S3 env m (some x)=o3 (AU env x):=by unfold S3 AU;exact Q2
theorem WB{env:AB}{g e:Option X}{l:List UInt8}:Lr env g e (.s l)=(S3 env 0 g).bind λa=>(S3 env l.length e).bind λb=>if a<=b/\b<=l.length then some (.s ((l.take b).drop a)) else none:=rfl
theorem Tx{env:AB}{g e:Option X}{es:List V}:LB env g e es=(S3 env 0 g).bind λa=>(S3 env es.length e).bind λb=>if a<=b/\b<=es.length then some (.sl ((es.take b).drop a)) else none:=rfl
theorem Be{k s:Nat}{v:V}{r:AB}:get ((k,v)::r) s=if k=s then v else get r s:=rfl
theorem qL{s:Nat}:get [] s=.any:=rfl
theorem Pr{env:AB}:restrict [] env=[]:=rfl
theorem Nu{s:Nat}{l:List Nat}{env:AB}:restrict (s::l) env=(s,get env s)::restrict l env:=rfl
section
variable{P:Program}{W0:World}{ep d:Nat}{l:List I}{env:AB}{σ:Aj}{K:AB→Aj→Prop}
theorem Auw{x:X}:Ao P W0 ep (⟨some d,.mv x,none,[]⟩::l) env σ K↔Ao P W0 ep l ((d,AU env x)::env) σ K:=At6
theorem Ac7{c a b:X}:Ao P W0 ep (⟨some d,.pick c a b,none,[]⟩::l) env σ K↔RK (AU env c)/\Ao P W0 ep l ((d,bif Ni (AU env c) then AU env a else AU env b)::env) σ K:=AbR
theorem AiI{e:BinOp}{x y:X}:Ao P W0 ep (⟨some d,.bin e x y,none,[]⟩::l) env σ K↔No e (AU env x) (AU env y)/\Ao P W0 ep l ((d,R7 e (AU env x) (AU env y))::env) σ K:=Apl
theorem Aop{x:X}:Ao P W0 ep (⟨some d,.not x,none,[]⟩::l) env σ K↔RK (AU env x)/\Ao P W0 ep l ((d,.b (!(Ni (AU env x))))::env) σ K:=Anj
theorem Akm{k:IntKind}{x:X}:Ao P W0 ep (⟨some d,.cvi k x,none,[]⟩::l) env σ K↔N0 (AU env x)/\Ao P W0 ep l ((d,.i k (k.wrap (Ka (AU env x))))::env) σ K:=Ajq
theorem pH{x:X}{e:Nat}:Ao P W0 ep (⟨some d,.faddr x e,none,[]⟩::l) env σ K↔Tk (AU env x)/\Ao P W0 ep l ((d,I4 (AU env x) e)::env) σ K:=tG
theorem rB{x i:X}{e sz:Nat}:Ao P W0 ep (⟨some d,.iaddr x i e sz,none,[]⟩::l) env σ K↔True/\(EK σ sz (AU env x) (AU env i)).isSome=true/\Ao P W0 ep l ((d,(EK σ sz (AU env x) (AU env i)).getD .any)::env) σ K:=lT
theorem Ajm{x i:X}:Ao P W0 ep (⟨some d,.idx x i,none,[]⟩::l) env σ K↔True/\(P1 (AU env x) (AU env i)).isSome=true/\Ao P W0 ep l ((d,(P1 (AU env x) (AU env i)).getD .any)::env) σ K:=AmT
theorem Ach{x:X}{n:Nat}{e:Bool}:Ao P W0 ep (⟨some d,.load x n e,none,[]⟩::l) env σ K↔True/\(Gg σ n e (AU env x)).isSome=true/\Ao P W0 ep l ((d,(Gg σ n e (AU env x)).getD .any)::env) σ K:=Aed
theorem nW{a x:X}{n:Nat}:Ao P W0 ep (⟨none,.store a x n,none,[]⟩::l) env σ K↔(AU env x).ok=true/\(EJ σ n (AU env x) (AU env a)).isSome=true/\Ao P W0 ep l env ((EJ σ n (AU env x) (AU env a)).getD []) K:=nJ
theorem AnQ{x:X}:Ao P W0 ep (⟨some d,.box x,none,[]⟩::l) env σ K↔(AU env x).ok=true/\Ao P W0 ep l ((d,.ref (ep,d) 0)::env) (((ep,d),.box (AU env x))::σ) K:=Ao1
theorem r8{z:V}:Ao P W0 ep (⟨some d,.alloc z,none,[]⟩::l) env σ K↔True/\Ao P W0 ep l ((d,.ref (ep,d) 0)::env) (((ep,d),.box z)::σ) K:=o8
theorem rM{z:List V}{ps:List (Nat×Nat×X)}:Ao P W0 ep (⟨some d,.build z ps,none,[]⟩::l) env σ K↔Qx env ps/\(((Dz z (Dr env ps)).map V.agg).isSome=true)/\Ao P W0 ep l ((d,((Dz z (Dr env ps)).map V.agg).getD .any)::env) σ K:=lD
theorem Agd{e sz:Nat}{xs:List X}:Ao P W0 ep (⟨some d,.msl true e sz xs,none,[]⟩::l) env σ K↔Ht sz (De env xs)/\Ao P W0 ep l ((d,.arr (ep,d))::env) (((ep,d),.arr e sz (De env xs))::σ) K:=AfB
theorem AeJ{e sz:Nat}{xs:List X}:Ao P W0 ep (⟨some d,.msl false e sz xs,none,[]⟩::l) env σ K↔Ht sz (De env xs)/\Ao P W0 ep l ((d,.sl (De env xs))::env) σ K:=Aeo
theorem Aod{x:X}{g e:Option X}:Ao P W0 ep (⟨some d,.slS x g e,none,[]⟩::l) env σ K↔True/\(Lr env g e (AU env x)).isSome=true/\Ao P W0 ep l ((d,(Lr env g e (AU env x)).getD .any)::env) σ K:=Apw
theorem Alo{x:X}{g e:Option X}{sz:Nat}:Ao P W0 ep (⟨some d,.slL x g e sz,none,[]⟩::l) env σ K↔CY sz (AU env x)/\(LB env g e (wP (AU env x))).isSome=true/\Ao P W0 ep l ((d,(LB env g e (wP (AU env x))).getD .any)::env) σ K:=Aie
theorem AdZ{x:X}:Ao P W0 ep (⟨some d,.lenS x,none,[]⟩::l) env σ K↔r9 (AU env x)/\Ao P W0 ep l ((d,.i .i64 ((nD (AU env x)).length:Nat))::env) σ K:=AaC
theorem Agg{x:X}:Ao P W0 ep (⟨some d,.lenL x,none,[]⟩::l) env σ K↔(AA σ (AU env x)).isSome=true/\Ao P W0 ep l ((d,.i .i64 (((AA σ (AU env x)).getD []).length:Nat))::env) σ K:=Aco
theorem AiH{s x:X}{e sz:Nat}:Ao P W0 ep (⟨some d,.app s x e sz,none,[]⟩::l) env σ K↔((AA σ (AU env x)).isSome=true/\∀y∈(AA σ (AU env x)).getD [],(cells y).length=sz)/\(Ma σ (ep,d) e sz ((AA σ (AU env x)).getD []) (AU env s)).isSome=true/\Ao P W0 ep l ((d,.arr (ep,d))::env) ((Ma σ (ep,d) e sz ((AA σ (AU env x)).getD []) (AU env s)).getD []) K:=Anu
theorem Ajv{x:X}{k:Nat}:Ao P W0 ep (⟨some d,.ext x k,none,[]⟩::l) env σ K↔True/\(T1 k (AU env x)).isSome=true/\Ao P W0 ep l ((d,(T1 k (AU env x)).getD .any)::env) σ K:=Amv
theorem Asb{e:Bool}{x:X}{xs:List X}:Ao P W0 ep (⟨some d,.mx e x xs,none,[]⟩::l) env σ K↔True/\(NB e (AU env x) (De env xs)).isSome=true/\Ao P W0 ep l ((d,(NB e (AU env x) (De env xs)).getD .any)::env) σ K:=AtT
variable{nt:Nat}{b:IC}{Q:Exit→St→Prop}{st:St}{Inv:Nat→St→Prop}{m k k':Nat}
theorem MG:DU k Q .normal st=Q .normal st:=rfl
theorem O7:DU k Q (.exit k') st=if k'=k then Q .normal st else Q (.exit k') st:=rfl
theorem RG:DU k Q .ret st=Q .ret st:=rfl
theorem Pi:UI Inv m Q .normal st=∃e,e<m/\Inv e st:=rfl
theorem RU:UI Inv m Q (.exit k) st=Q (.exit k) st:=rfl
theorem Xl:UI Inv m Q .ret st=Q .ret st:=rfl
end
end Go.Ir
end
section
namespace Go.Ir
open Go.RowKit
variable[FV]
def J(P:Program)(W0:World)(ep:Nat)(live:List Nat)(Q:Exit->St->Prop)(l:List I)(env:AB)(σ:Aj):Prop:=
 Ao P W0 ep l env σ λenv σ=>∀k,Q .normal ⟨restrict live env,σ,ep+1+k⟩
def JP(P:Program)(W0:World)(ep:Nat)(live:List Nat)(Q:Exit->St->Prop)(p:Prop)(l:List I)(env:AB)(σ:Aj):Prop:=p/\J P W0 ep live Q l env σ
def JL(P:Program)(W0:World)(ep:Nat)(live:List Nat)(Q:Exit->St->Prop)(p:Prop)(o:Option V)(l:List I)(d:Nat)(env:AB)(σ:Aj):Prop:=p/\o.isSome=true/\J P W0 ep live Q l ((d,o.getD .any)::env) σ
def JT(P:Program)(W0:World)(ep:Nat)(live:List Nat)(Q:Exit->St->Prop)(p:Prop)(o:Option Aj)(l:List I)(env:AB):Prop:=p/\o.isSome=true/\J P W0 ep live Q l env (o.getD [])
def RL(P:Program)(W0:World)(ep:Nat)(live:List Nat)(Q:Exit->St->Prop)(v:V)(e:Bool)(d:Option Nat)(g:AE)(ap:List X)(l:List I)(env:AB)(σ:Aj):Prop:=
 CE e v (J P W0 ep live Q (⟨d,g,none,ap⟩::l) env σ) (J P W0 ep live Q l (put env d (.tup [])) σ)
def QE(P:Program)(W0:World)(ep:Nat)(live:List Nat)(Q:Exit->St->Prop)(f:FuncId)(vs:List V)(l:List I)(d:Nat)(env:AB)(σ:Aj):Prop:=
 ∃v,An P W0 f vs [] v []/\J P W0 ep live Q l ((d,v)::env) σ
def SH(P:Program)(W0:World)(ep:Nat)(live:List Nat)(Q:Exit->St->Prop)(f:FuncId)(vs:List V)(l:List I)(d:Nat)(env:AB)(σ:Aj):Prop:=
 ∃v σi,An P W0 f vs σi v σi/\(∀id e,lk σi id=some e->lk σ id=some e)/\J P W0 ep live Q l ((d,v)::env) σ
def GK(P:Program)(W0:World)(ep:Nat)(live:List Nat)(Q:Exit->St->Prop)(f:FuncId)(vs:List V)(l:List I)(d:Nat)(env:AB)(σ:Aj):Prop:=
 ∃v σi σo,An P W0 f vs σi v σo/\(∀id e,lk σi id=some e->lk σ id=some e)/\J P W0 ep live Q l ((d,v)::env) (over σi σo σ)
def Sa(P:Program)(W0:World)(ep:Nat)(live:List Nat)(Q:Exit->St->Prop)(f:FuncId)(vs:List V)(l:List I)(d:Nat)(env:AB)(σ:Aj):Prop:=
 ∃x σi σo,H9 P W0 f vs σi x σo/\(∀id e,lk σi id=some e->lk σ id=some e)/\J P W0 ep live Q l ((d,.arr (ep,d))::env) (((ep,d),x)::over σi σo σ)
def Pw(P:Program)(W0:World)(ep:Nat)(live:List Nat)(Q:Exit->St->Prop)(h:V)(vs:List V)(l:List I)(d:Nat)(env:AB)(σ:Aj):Prop:=
 match h with
 | .fn f first e=>QE P W0 ep live Q f (first++vs++e) l d env σ
 | _=>False
def Ln(P:Program)(W0:World)(ep:Nat)(live:List Nat)(Q:Exit->St->Prop)(h:V)(vs:List V)(l:List I)(d:Nat)(env:AB)(σ:Aj):Prop:=
 match h with
 | .fn f first e=>GK P W0 ep live Q f (first++vs++e) l d env σ
 | _=>False
def L4(P:Program)(W0:World)(ep:Nat)(live:List Nat)(Q:Exit->St->Prop)(f:FuncId)(vs g:List V)(l:List I)(d:Nat)(env:AB)(σ:Aj):Prop:=
 ∃v σi σo,An P W0 f vs σi v σo/\(∀id e,lk σi id=some e->lk σ id=some e)/\(∀y∈g,∀id,Cq y=some id->lk σ id≠none->lk (over σi σo σ) id=lk σ id)/\J P W0 ep live Q l ((d,v)::env) (over σi σo σ)
def L3(P:Program)(W0:World)(ep:Nat)(live:List Nat)(Q:Exit->St->Prop)(h:V)(vs g:List V)(l:List I)(d:Nat)(env:AB)(σ:Aj):Prop:=
 match h with
 | .fn f first e=>L4 P W0 ep live Q f (first++vs++e) g l d env σ
 | _=>False
def JW(P:Program)(W0:World)(ep:Nat)(live:List Nat)(Q:Exit->St->Prop)(o:Option (Aj×V))(l:List I)(d:Nat)(env:AB):Prop:=∃p,o=some p/\J P W0 ep live Q l ((d,p.2)::env) p.1
def JM(P:Program)(W0:World)(ep:Nat)(live:List Nat)(Q:Exit->St->Prop)(k:rQ)(o:Option AX)(l:List I)(d:Nat)(env:AB)(σ:Aj):Prop:=∃e,o=some e/\J P W0 ep live Q l ((d,Z2 k (ep,d))::env) (((ep,d),e)::σ)
def VB(k:lB)(xs:List V)(e:Option AX):Option V:=e.bind λe=>fF k e xs
def DC(σ:Aj)(k:lB)(xs:List V):V->Option V
 | .arr id=>VB k xs (lk σ id)
 | _=>none
def zF(σ:Aj)(id:Id)(k:Xf)(xs:List V)(e:Option AX):Option (Aj×V):=e.bind λe=>(OR k e xs).map λr=>(upd σ id r.1,r.2)
def C9(σ:Aj)(k:Xf)(xs:List V):V->Option (Aj×V)
 | .arr id=>zF σ id k xs (lk σ id)
 | _=>none
def jY(σ:Aj)(id:Id)(n:Nat):Option AX->Option (Aj×V)
 | some (.box (.agg cs))=>if cs.length=n/\cs.all (λc=>!JZ c)=true then some (del σ id,.sl cs) else none
 | _=>none
def lX(σ:Aj)(n:Nat):V->Option (Aj×V)
 | .ref id 0=>jY σ id n (lk σ id)
 | _=>none
def Jf(σ:Aj)(e mid:Id):Option AX->Option (Aj×V)
 | some (.map es)=>some ((e,.mit mid es.length [] es.length)::σ,.arr e)
 | _=>none
def L6(σ:Aj)(e:Id):V->Option (Aj×V)
 | .arr mid=>Jf σ e mid (lk σ mid)
 | _=>none
def JE(i:Option Nat)(e:Nat):Option AX->Option V
 | some (.map es)=>if e=es.length then i.bind λi=>(es[i]?).map λg=>.tup [g.1,g.2] else none
 | _=>none
def JJ(σ:Aj):Option AX->Option V
 | some (.mit mid _ seen e)=>JE seen.getLast? e (lk σ mid)
 | _=>none
def JN(σ:Aj):V->Option V
 | .arr id=>JJ σ (lk σ id)
 | _=>none
def RE:Option AX->Nat
 | some (.arr _ _ es)=>es.length
 | _=>0
def LM(σ:Aj):V->Nat
 | .arr id=>RE (lk σ id)
 | _=>0
def Oj:V->Nat
 | .s l=>l.length
 | _=>0
def Qj(σ:Aj)(id g:Id)(e:TypeId)(l:List UInt8):Option AX->Option (Aj×V)
 | some (.arr e' sz es)=>if e'=e/\sz=1 then some ((g,.arr e 1 (es++BD l))::del σ id,.arr g) else none
 | _=>none
def Oe(σ:Aj)(g:Id)(e:TypeId)(l:List UInt8):V->Option (Aj×V)
 | .nil=>some ((g,.arr e 1 (BD l))::σ,.arr g)
 | .arr id=>Qj σ id g e l (lk σ id)
 | _=>none
def UQ(σ:Aj)(g:Id)(e:TypeId)(s:V):V->Option (Aj×V)
 | .s l=>Oe σ g e l s
 | _=>none
def jH(σ:Aj)(id g:Id)(sz:Nat)(h:V):Option AX->Option (Aj×V)
 | some (.arr e j es)=>if j=sz then(match h with
  | .i _ n=>if 0<=n then(if n.toNat<=es.length then some ((g,.arr e sz (es.take n.toNat))::del σ id,.arr g) else none) else none
  | _=>none) else none
 | _=>none
def rY(σ:Aj)(e:Id)(sz:Nat)(h:V):V->Option (Aj×V)
 | .arr id=>jH σ id e sz h (lk σ id)
 | _=>none
def AaL(es:List V):V:=.i .i64 (es.length:Nat)
def RJ:List V->List V->Prop
 | [],_=>True
 | x::xs,ys=>(∀y∈ys,∀id,Cq x=some id->Cq y≠some id)/\RJ xs ys
section
variable{P:Program}{W0:World}{ep d:Nat}{live:List Nat}{Q:Exit→St→Prop}{l:List I}{env:AB}{σ:Aj}
theorem AlP:J P W0 ep live Q [] env σ=∀k,Q .normal ⟨restrict live env,σ,ep+1+k⟩:=rfl
theorem qG:JP P W0 ep live Q True l env σ=J P W0 ep live Q l env σ:=by simp[JP]
theorem lJ{v:V}:JL P W0 ep live Q True (some v) l d env σ=J P W0 ep live Q l ((d,v)::env) σ:=by simp[JL]
theorem pT{τ:Aj}:JT P W0 ep live Q True (some τ) l env=J P W0 ep live Q l env τ:=by simp[JT]
theorem AuK{x:X}:J P W0 ep live Q (⟨some d,.mv x,none,[]⟩::l) env σ=J P W0 ep live Q l ((d,AU env x)::env) σ:=by unfold J;exact propext (Auw.trans (by simp))
theorem Aem{c a b:X}:J P W0 ep live Q (⟨some d,.pick c a b,none,[]⟩::l) env σ=JP P W0 ep live Q (RK (AU env c)) l ((d,bif Ni (AU env c) then AU env a else AU env b)::env) σ:=by unfold J JP;exact propext (Ac7.trans (by simp[J]))
theorem Ahz{e:BinOp}{x y:X}:J P W0 ep live Q (⟨some d,.bin e x y,none,[]⟩::l) env σ=JP P W0 ep live Q (No e (AU env x) (AU env y)) l ((d,R7 e (AU env x) (AU env y))::env) σ:=by unfold J JP;exact propext (AiI.trans (by simp[J]))
theorem AnG{x:X}:J P W0 ep live Q (⟨some d,.not x,none,[]⟩::l) env σ=JP P W0 ep live Q (RK (AU env x)) l ((d,.b (!(Ni (AU env x))))::env) σ:=by unfold J JP;exact propext (Aop.trans (by simp[J]))
theorem Alh{k:IntKind}{x:X}:J P W0 ep live Q (⟨some d,.cvi k x,none,[]⟩::l) env σ=JP P W0 ep live Q (N0 (AU env x)) l ((d,.i k (k.wrap (Ka (AU env x))))::env) σ:=by unfold J JP;exact propext (Akm.trans (by simp[J]))
theorem s4{x:X}{e:Nat}:J P W0 ep live Q (⟨some d,.faddr x e,none,[]⟩::l) env σ=JP P W0 ep live Q (Tk (AU env x)) l ((d,I4 (AU env x) e)::env) σ:=by unfold J JP;exact propext (pH.trans (by simp[J]))
theorem n5{x i:X}{e sz:Nat}:J P W0 ep live Q (⟨some d,.iaddr x i e sz,none,[]⟩::l) env σ=JL P W0 ep live Q (True) (EK σ sz (AU env x) (AU env i)) l d env σ:=by unfold J JL;exact propext (rB.trans (by simp[J]))
theorem Amb{x i:X}:J P W0 ep live Q (⟨some d,.idx x i,none,[]⟩::l) env σ=JL P W0 ep live Q (True) (P1 (AU env x) (AU env i)) l d env σ:=by unfold J JL;exact propext (Ajm.trans (by simp[J]))
theorem Abe{x:X}{n:Nat}{e:Bool}:J P W0 ep live Q (⟨some d,.load x n e,none,[]⟩::l) env σ=JL P W0 ep live Q (True) (Gg σ n e (AU env x)) l d env σ:=by unfold J JL;exact propext (Ach.trans (by simp[J]))
theorem mR{a x:X}{n:Nat}:J P W0 ep live Q (⟨none,.store a x n,none,[]⟩::l) env σ=JT P W0 ep live Q ((AU env x).ok=true) (EJ σ n (AU env x) (AU env a)) l env:=by unfold J JT;exact propext (nW.trans (by simp[J]))
theorem AjB{x:X}:J P W0 ep live Q (⟨some d,.box x,none,[]⟩::l) env σ=JP P W0 ep live Q ((AU env x).ok=true) l ((d,.ref (ep,d) 0)::env) (((ep,d),.box (AU env x))::σ):=by unfold J JP;exact propext (AnQ.trans (by simp[J]))
theorem pS{z:V}:J P W0 ep live Q (⟨some d,.alloc z,none,[]⟩::l) env σ=JP P W0 ep live Q (True) l ((d,.ref (ep,d) 0)::env) (((ep,d),.box z)::σ):=by unfold J JP;exact propext (r8.trans (by simp[J]))
theorem m8{z:List V}{ps:List (Nat×Nat×X)}:J P W0 ep live Q (⟨some d,.build z ps,none,[]⟩::l) env σ=JL P W0 ep live Q (Qx env ps) ((Dz z (Dr env ps)).map V.agg) l d env σ:=by unfold J JL;exact propext (rM.trans (by simp[J]))
theorem AdP{e sz:Nat}{xs:List X}:J P W0 ep live Q (⟨some d,.msl true e sz xs,none,[]⟩::l) env σ=JP P W0 ep live Q (Ht sz (De env xs)) l ((d,.arr (ep,d))::env) (((ep,d),.arr e sz (De env xs))::σ):=by unfold J JP;exact propext (Agd.trans (by simp[J]))
theorem Af5{e sz:Nat}{xs:List X}:J P W0 ep live Q (⟨some d,.msl false e sz xs,none,[]⟩::l) env σ=JP P W0 ep live Q (Ht sz (De env xs)) l ((d,.sl (De env xs))::env) σ:=by unfold J JP;exact propext (AeJ.trans (by simp[J]))
theorem Al9{x:X}{g e:Option X}:J P W0 ep live Q (⟨some d,.slS x g e,none,[]⟩::l) env σ=JL P W0 ep live Q (True) (Lr env g e (AU env x)) l d env σ:=by unfold J JL;exact propext (Aod.trans (by simp[J]))
theorem Akh{x:X}{g e:Option X}{sz:Nat}:J P W0 ep live Q (⟨some d,.slL x g e sz,none,[]⟩::l) env σ=JL P W0 ep live Q (CY sz (AU env x)) (LB env g e (wP (AU env x))) l d env σ:=by unfold J JL;exact propext (Alo.trans (by simp[J]))
theorem AbW{x:X}:J P W0 ep live Q (⟨some d,.lenS x,none,[]⟩::l) env σ=JP P W0 ep live Q (r9 (AU env x)) l ((d,.i .i64 ((nD (AU env x)).length:Nat))::env) σ:=by unfold J JP;exact propext (AdZ.trans (by simp[J]))
theorem AdY{x:X}:J P W0 ep live Q (⟨some d,.lenL x,none,[]⟩::l) env σ=JL P W0 ep live Q (True) ((AA σ (AU env x)).map AaL) l d env σ:=by unfold J JL;refine propext (Agg.trans ?_);cases AA σ (AU env x)<;>simp[AaL,J]
theorem Ape{s x:X}{e sz:Nat}:J P W0 ep live Q (⟨some d,.app s x e sz,none,[]⟩::l) env σ=JT P W0 ep live Q (((AA σ (AU env x)).isSome=true/\∀y∈(AA σ (AU env x)).getD [],(cells y).length=sz)) (Ma σ (ep,d) e sz ((AA σ (AU env x)).getD []) (AU env s)) l ((d,.arr (ep,d))::env):=by unfold J JT;exact propext (AiH.trans (by simp[J]))
theorem Alq{x:X}{k:Nat}:J P W0 ep live Q (⟨some d,.ext x k,none,[]⟩::l) env σ=JL P W0 ep live Q (True) (T1 k (AU env x)) l d env σ:=by unfold J JL;exact propext (Ajv.trans (by simp[J]))
theorem Aut{e:Bool}{x:X}{xs:List X}:J P W0 ep live Q (⟨some d,.mx e x xs,none,[]⟩::l) env σ=JL P W0 ep live Q (True) (NB e (AU env x) (De env xs)) l d env σ:=by unfold J JL;exact propext (Asb.trans (by simp[J]))
theorem AsB{k:BW}{xs:List X}:J P W0 ep live Q (⟨some d,.pu k xs,none,[]⟩::l) env σ=JL P W0 ep live Q True (Hf k (De env xs)) l d env σ:=by
 unfold J JL;refine propext (BU.trans ?_);simp only[E,put,De,true_and];cases h:Hf k (xs.map (ev (get env))) with
 | none=>simp
 | some v=>simp only[Option.some.injEq,Option.isSome_some,Option.getD_some,true_and];exact⟨λ⟨u,τ,⟨h1,h2⟩,h3⟩=>by subst h1;subst h2;exact h3,λh=>⟨_,_,⟨rfl,rfl⟩,h⟩⟩
theorem Ak7{r:Bool}:qK true r=.b (!r):=rfl
theorem AkF{r:Bool}:qK false r=.b r:=rfl
theorem nM{e:Bool}:Hf (.nilq .p e) [.np]=some (qK e true):=rfl
theorem lL{e:Bool}{id:Id}{o:Nat}:Hf (.nilq .p e) [.ref id o]=some (qK e false):=rfl
theorem AiU{k:lB}{m:X}{xs:List X}:J P W0 ep live Q (⟨some d,.rdm k m xs,none,[]⟩::l) env σ=JL P W0 ep live Q True (DC σ k (De env xs) (AU env m)) l d env σ:=by
 unfold J JL;refine propext (BU.trans ?_);simp only[E,put,De,true_and,AU];constructor
 .rintro⟨v,σ',⟨⟨id,e,i,j,o⟩,rfl⟩,h⟩;have:DC σ' k (xs.map (ev (get env))) (ev (get env) m)=some v:=by rw[i];simp[DC,VB,j,o]
  rw[this];exact⟨rfl,h⟩
 .rintro⟨i,h⟩;obtain⟨v,g⟩:=Option.isSome_iff_exists.1 i;rw[g] at h;unfold DC at g;split at g
  .rename_i id p;unfold VB at g;obtain⟨e,j,o⟩:=Option.bind_eq_some_iff.1 g;exact⟨v,σ,⟨⟨id,e,p,j,o⟩,rfl⟩,h⟩
  .cases g
theorem UM{j:Option Nat}{k:Xf}{m:X}{xs:List X}{v:V}{σ':Aj}:E P W0 ep j (.wrm k m xs) (get env) σ v σ'↔C9 σ k (De env xs) (AU env m)=some (σ',v):=by
 simp only[E,De,AU];constructor
 .rintro⟨id,e,e',o,i,h,rfl⟩;rw[o];simp[C9,zF,i,h]
 .intro g;unfold C9 at g;split at g
  .rename_i id s;unfold zF at g;obtain⟨e,i,h⟩:=Option.bind_eq_some_iff.1 g;obtain⟨r,p,q⟩:=Option.map_eq_some_iff.1 h;grind
  .cases g
theorem AfE{k:Xf}{m:X}{xs:List X}:J P W0 ep live Q (⟨none,.wrm k m xs,none,[]⟩::l) env σ=JT P W0 ep live Q True ((C9 σ k (De env xs) (AU env m)).map (·.1)) l env:=by
 unfold J JT;refine propext (BU.trans ?_);simp only[UM,put,true_and];cases h:C9 σ k (De env xs) (AU env m) with
 | none=>simp
 | some p=>obtain⟨τ,v⟩:=p;simp only[Option.some.injEq,Prod.mk.injEq,Option.map_some,Option.isSome_some,Option.getD_some,true_and];exact⟨λ⟨u,ρ,⟨h1,h2⟩,h3⟩=>by subst h1;subst h2;exact h3,λh=>⟨_,_,⟨rfl,rfl⟩,h⟩⟩
theorem AoO{k:rQ}{xs:List X}:J P W0 ep live Q (⟨some d,.mkm k xs,none,[]⟩::l) env σ=JM P W0 ep live Q k (Sz k (De env xs)) l d env σ:=by
 unfold J JM;refine propext (BU.trans ?_);simp only[E,put,De];constructor
 .rintro⟨v,σ',⟨j,e,g,i,rfl,rfl⟩,h⟩;cases g;exact⟨e,i,h⟩
 .rintro⟨e,g,h⟩;exact⟨_,_,⟨d,e,rfl,g,rfl,rfl⟩,h⟩
theorem cK{e id:Id}{sz:Nat}{h:V}:rY σ e sz h (.arr id)=jH σ id e sz h (lk σ id):=rfl
theorem iK{g id:Id}{sz h:Nat}{k:IntKind}{n:Int}{e:TypeId}{es:List V}:jH σ id g sz (.i k n) (some (.arr e h es))=if h=sz then(if 0<=n then(if n.toNat<=es.length then some ((g,.arr e sz (es.take n.toNat))::del σ id,.arr g) else none) else none) else none:=rfl
theorem m7{g:Id}{e:TypeId}{s:V}{b:List UInt8}:UQ σ g e s (.s b)=Oe σ g e b s:=rfl
theorem VZ{g:Id}{e:TypeId}{b:List UInt8}:Oe σ g e b .nil=some ((g,.arr e 1 (BD b))::σ,.arr g):=rfl
theorem V4{g id:Id}{e:TypeId}{b:List UInt8}:Oe σ g e b (.arr id)=Qj σ id g e b (lk σ id):=rfl
theorem VH{g id:Id}{e e':TypeId}{sz:Nat}{es:List V}{b:List UInt8}:Qj σ id g e b (some (.arr e' sz es))=if e'=e/\sz=1 then some ((g,.arr e 1 (es++BD b))::del σ id,.arr g) else none:=rfl
theorem WR:LM σ .nil=0:=rfl
theorem WE{id:Id}:LM σ (.arr id)=RE (lk σ id):=rfl
theorem VY{e:TypeId}{sz:Nat}{es:List V}:RE (some (.arr e sz es))=es.length:=rfl
theorem rD{b:List UInt8}:Oj (.s b)=b.length:=rfl
theorem bU{m:X}:J P W0 ep live Q (⟨some d,.mrange m,none,[]⟩::l) env σ=JW P W0 ep live Q (L6 σ (ep,d) (AU env m)) l d env:=by
 unfold J JW;refine propext (BU.trans ?_);simp only[E,put,AU];constructor
 .rintro⟨v,σ',⟨q,mid,es,e,g,i,rfl,rfl⟩,h⟩;cases e;refine⟨(((ep,d),.mit mid es.length [] es.length)::σ,.arr (ep,d)),?_,h⟩;rw[g];simp only[L6,i,Jf]
 .rintro⟨p,hp,h⟩;unfold L6 at hp;split at hp
  .rename_i mid o;unfold Jf at hp;split at hp
   .rename_i es j;cases hp;exact⟨_,_,⟨d,mid,es,rfl,o,j,rfl,rfl⟩,h⟩
   .cases hp
  .cases hp
theorem XL{m:X}:J P W0 ep live Q (⟨some d,.mentry m,none,[]⟩::l) env σ=JL P W0 ep live Q True (JN σ (AU env m)) l d env σ:=by
 unfold J JL;refine propext (BU.trans ?_);simp only[E,put,AU,true_and];constructor
 .rintro⟨v,σ',⟨id,mid,g,seen,i,es,o,p,w,q,r,s,rfl,rfl⟩,h⟩;have:JN σ' (ev (get env) m)=some (.tup [o.1,o.2]):=by rw[p];simp[JN,JJ,JE,w,q,r,s]
  rw[this];exact⟨rfl,h⟩
 .rintro⟨p,h⟩;obtain⟨v,e⟩:=Option.isSome_iff_exists.1 p;rw[e] at h;unfold JN at e;split at e
  .rename_i id A;unfold JJ at e;split at e
   .rename_i mid g seen j z;unfold JE at e;split at e
    .rename_i es t;split at e
     .rename_i u;subst u;obtain⟨i,q,r⟩:=Option.bind_eq_some_iff.1 e;obtain⟨o,s,y⟩:=Option.map_eq_some_iff.1 r;subst y;exact⟨_,_,⟨id,mid,g,seen,i,es,o,A,z,q,t,s,rfl,rfl⟩,h⟩
     .cases e
    .cases e
   .cases e
  .cases e
theorem Zn{id:Id}{n:Nat}:lX σ n (.ref id 0)=jY σ id n (lk σ id):=rfl
theorem ZG{id:Id}{n:Nat}{cs:List V}:jY σ id n (some (.box (.agg cs)))=if cs.length=n/\cs.all (λc=>!JZ c)=true then some (del σ id,.sl cs) else none:=rfl
theorem QS{e mid:Id}:L6 σ e (.arr mid)=Jf σ e mid (lk σ mid):=rfl
theorem Rz{e mid:Id}{es:List (V×V)}:Jf σ e mid (some (.map es))=some ((e,.mit mid es.length [] es.length)::σ,.arr e):=rfl
theorem Rx{id:Id}:JN σ (.arr id)=JJ σ (lk σ id):=rfl
theorem PT{mid:Id}{g e:Nat}{seen:List Nat}:JJ σ (some (.mit mid g seen e))=JE seen.getLast? e (lk σ mid):=rfl
theorem QZ{i:Option Nat}{e:Nat}{es:List (V×V)}:JE i e (some (.map es))=if e=es.length then i.bind λi=>(es[i]?).map λg=>.tup [g.1,g.2] else none:=rfl
theorem aU{e:Bool}:Hf (.isnil e) [.nil]=some (.b (!e)):=rfl
theorem XC{e:Bool}:Hf (.isnil e) [.sl []]=some .ub:=rfl
theorem Zk{e:Bool}{x:V}{xs:List V}:Hf (.isnil e) [.sl (x::xs)]=some (.b e):=rfl
theorem AhP{t:Bool}:JZ (.b t)=false:=rfl
theorem AmH{k:IntKind}{n:Int}:JZ (.i k n)=false:=rfl
theorem Ah7{s:List UInt8}:JZ (.s s)=false:=rfl
theorem lO{τ:Aj}{v:V}:JW P W0 ep live Q (some (τ,v)) l d env=J P W0 ep live Q l ((d,v)::env) τ:=by unfold JW;simp
theorem l5{k:rQ}{e:AX}:JM P W0 ep live Q k (some e) l d env σ=J P W0 ep live Q l ((d,Z2 k (ep,d))::env) (((ep,d),e)::σ):=by unfold JM;simp
theorem n6{k:lB}{xs:List V}{id:Id}:DC σ k xs (.arr id)=VB k xs (lk σ id):=rfl
theorem mD{k:Xf}{xs:List V}{id:Id}:C9 σ k xs (.arr id)=zF σ id k xs (lk σ id):=rfl
theorem cC{e:Dd}{z:V}{ok:Bool}{es:List (V×V)}{k:V}:VB (.mget e z ok) [k] (some (.map es))=(Bz e k es 0).map λr=>match r with
  | some (_,v)=>if ok then .tup [v,.b true] else v
  | none=>if ok then .tup [z,.b false] else z:=rfl
theorem eW{es:List (V×V)}:VB .mlen [] (some (.map es))=some (.i .i64 es.length):=rfl
theorem d7{g:Dd}{id:Id}{es:List (V×V)}{k v:V}:zF σ id (.mput g) [k,v] (some (.map es))=(Bz g k es 0).map λr=>match r with
  | some (i,_)=>(upd σ id (.map (es.modify i λe=>(e.1,v))),.tup [])
  | none=>(upd σ id (.map (es++[(k,v)])),.tup []):=by
 simp only[zF,OR,Option.bind_some,Option.map_map];congr 1;grind
theorem lG{id:Id}:Z2 .mkmap id=.arr id:=rfl
theorem AcB{id:Id}:Z2 .strit id=.arr id:=rfl
theorem XY{t:TypeId}{z:V}{id:Id}:Z2 (.tnew t z) id=.ref id 0:=rfl
theorem r7{t:TypeId}{id:Id}:Z2 (.tbx t) id=.ref id 0:=rfl
theorem eR{t:TypeId}{z:V}:Sz (.tnew t z) []=some (.tbox t z):=rfl
theorem rP{t:TypeId}{x:V}:Sz (.tbx t) [x]=if x.ok=true then some (.tbox t x) else none:=rfl
theorem tI:Sz .mkmap []=some (.map []):=rfl
theorem Ad7{s:List UInt8}:Sz .strit [.s s]=some (.it s 0):=rfl
theorem j9{k:IntKind}{n:Int}:Hf .itos [.i k n]=some (.s (Utf8.encode n).data.toList):=rfl
theorem jC{es:List V}:Hf .btos [.sl es]=(DJ es).map .s:=rfl
theorem Wm:Hf .btos [.nil]=some (.s []):=rfl
theorem cQ{n sz e:Nat}{id:Id}{k:IntKind}{i:Int}:Hf (.aidx n sz) [.ref id e,.i k i]=if 0<=i/\i<(n:Int) then some (.ref id (e+i.toNat*sz)) else none:=rfl
theorem AuI{d:Option Nat}{g:AE}{s:Nat}{e:Bool}{ap:List X}:J P W0 ep live Q (⟨d,g,some (s,e),ap⟩::l) env σ=RL P W0 ep live Q (get env s) e d g ap l env σ:=by
 unfold J RL;simp only[J,Ao,CI,CE];cases get env s with
 | tup l=>cases l<;>rfl
 | _=>rfl
theorem d4{d:Option Nat}{e:AE}{ap:List X}:RL P W0 ep live Q (.b true) true d e ap l env σ=J P W0 ep live Q (⟨d,e,none,ap⟩::l) env σ:=by simp[RL,CE]
theorem gZ{d:Option Nat}{e:AE}{ap:List X}:RL P W0 ep live Q (.b false) false d e ap l env σ=J P W0 ep live Q (⟨d,e,none,ap⟩::l) env σ:=by simp[RL,CE]
theorem cH{d:Option Nat}{e:AE}{ap:List X}:RL P W0 ep live Q (.b true) false d e ap l env σ=J P W0 ep live Q l (put env d (.tup [])) σ:=by simp[RL,CE]
theorem iW{d:Option Nat}{e:AE}{ap:List X}:RL P W0 ep live Q (.b false) true d e ap l env σ=J P W0 ep live Q l (put env d (.tup [])) σ:=by simp[RL,CE]
theorem Anq{d:Option Nat}{e:AE}{ap:List X}{w:Bool}:RL P W0 ep live Q (.tup []) w d e ap l env σ=J P W0 ep live Q l (put env d (.tup [])) σ:=by simp[RL,CE]
theorem Ai{d:Option Nat}{e:AE}{ap:List X}{t:Bool}(g:t=true->J P W0 ep live Q (⟨d,e,none,ap⟩::l) env σ)(h:t=false->J P W0 ep live Q l (put env d (.tup [])) σ):RL P W0 ep live Q (.b t) true d e ap l env σ:=by
 cases t
 .rw[iW];exact h rfl
 .rw[d4];exact g rfl
theorem Ah{d:Option Nat}{e:AE}{ap:List X}{t:Bool}(g:t=false->J P W0 ep live Q (⟨d,e,none,ap⟩::l) env σ)(h:t=true->J P W0 ep live Q l (put env d (.tup [])) σ):RL P W0 ep live Q (.b t) false d e ap l env σ:=by
 cases t
 .rw[gZ];exact g rfl
 .rw[cH];exact h rfl
theorem Uj{g:Nat->V}{ys:List X}:∀{ap:List X},(∀x∈ap,∀y∈ys,∀id,Cq (ev g x)=some id->Cq (ev g y)≠some id)↔RJ (ap.map (ev g)) (ys.map (ev g))
 | []=>by simp[RJ]
 | x::ap=>by have:=Uj (g:=g) (ys:=ys) (ap:=ap);simp only[List.map_cons,RJ,<-this,List.mem_cons,forall_eq_or_imp,List.mem_map,forall_exists_index,and_imp,forall_apply_eq_imp_iff₂]
theorem Sy{d:Option Nat}{e:AE}{x:X}{ap:List X}(g:e.cl=false):J P W0 ep live Q (⟨d,e,none,x::ap⟩::l) env σ=JP P W0 ep live Q (RJ (De env (x::ap)) (De env e.cs)) (⟨d,e,none,[]⟩::l) env σ:=by unfold J JP;refine propext ((Ase g).trans ?_);rw[show S0 ⟨d,e,none,x::ap⟩ (get env)↔RJ (De env (x::ap)) (De env e.cs) from Uj];rfl
theorem Ad8{f:FuncId}{args:List X}:J P W0 ep live Q (⟨some d,.call f args,none,[]⟩::l) env σ=QE P W0 ep live Q f (De env args) l d env σ:=by unfold J QE;refine propext (BU.trans ?_);simp only[E,put,De];exact⟨λ⟨v,_,⟨e,rfl⟩,g⟩=>⟨v,e,g⟩,λ⟨v,e,g⟩=>⟨v,_,⟨e,rfl⟩,g⟩⟩
theorem sP{f:FuncId}{args:List X}:J P W0 ep live Q (⟨some d,.calls f args,none,[]⟩::l) env σ=GK P W0 ep live Q f (De env args) l d env σ:=by unfold J GK;refine propext (BU.trans ?_);simp only[E,put,De];exact⟨λ⟨v,_,⟨σi,σo,e,h,rfl⟩,g⟩=>⟨v,σi,σo,e,h,g⟩,λ⟨v,σi,σo,e,h,g⟩=>⟨v,_,⟨σi,σo,e,h,rfl⟩,g⟩⟩
theorem lV{f:FuncId}{args:List X}:J P W0 ep live Q (⟨some d,.callr f args,none,[]⟩::l) env σ=SH P W0 ep live Q f (De env args) l d env σ:=by unfold J SH;refine propext (BU.trans ?_);simp only[E,put,De];exact⟨λ⟨v,_,⟨⟨σi,e,h⟩,rfl⟩,g⟩=>⟨v,σi,e,h,g⟩,λ⟨v,σi,e,h,g⟩=>⟨v,_,⟨⟨σi,e,h⟩,rfl⟩,g⟩⟩
theorem tD{f:FuncId}{args:List X}:J P W0 ep live Q (⟨some d,.calln f args,none,[]⟩::l) env σ=Sa P W0 ep live Q f (De env args) l d env σ:=by unfold J Sa;refine propext (BU.trans ?_);simp only[E,put,De];exact⟨λ⟨v,_,⟨dd,σi,σo,x,hd,e,h,hv,rfl⟩,g⟩=>by cases hd;subst hv;exact⟨x,σi,σo,e,h,g⟩,λ⟨x,σi,σo,e,h,g⟩=>⟨_,_,⟨d,σi,σo,x,rfl,e,h,rfl,rfl⟩,g⟩⟩
theorem jN{x:X}{args:List X}:J P W0 ep live Q (⟨some d,.callvs x args,none,[]⟩::l) env σ=Ln P W0 ep live Q (AU env x) (De env args) l d env σ:=by
 unfold J;refine propext (BU.trans ?_);simp only[E,put];constructor
 .rintro⟨v,_,⟨⟨f,first,e,σi,σo,o,g,j,rfl⟩,i⟩⟩;unfold Ln AU;rw[o];exact⟨v,σi,σo,g,j,i⟩
 .intro h;unfold Ln AU at h;split at h
  .rename_i f first e o
   obtain⟨v,σi,σo,g,j,i⟩:=h;exact⟨v,_,⟨f,first,e,σi,σo,o,g,j,rfl⟩,i⟩
  .cases h
theorem SS{d:Option Nat}{x y:X}{n:Nat}{z:X}{ap:List X}:J P W0 ep live Q (⟨d,.store x y n,none,z::ap⟩::l) env σ=JP P W0 ep live Q (RJ (De env (z::ap)) (De env (AE.store x y n).cs)) (⟨d,.store x y n,none,[]⟩::l) env σ:=Sy rfl
theorem Wy{d:Option Nat}{x:X}{n:Nat}{b:Bool}{z:X}{ap:List X}:J P W0 ep live Q (⟨d,.load x n b,none,z::ap⟩::l) env σ=JP P W0 ep live Q (RJ (De env (z::ap)) (De env (AE.load x n b).cs)) (⟨d,.load x n b,none,[]⟩::l) env σ:=Sy rfl
theorem Tf{f:FuncId}{first e vs g:List V}:L3 P W0 ep live Q (.fn f first e) vs g l d env σ=L4 P W0 ep live Q f (first++vs++e) g l d env σ:=rfl
theorem W8{f:FuncId}{first e vs:List V}:Pw P W0 ep live Q (.fn f first e) vs l d env σ=QE P W0 ep live Q f (first++vs++e) l d env σ:=rfl
theorem SN{f:FuncId}{first e vs:List V}:Ln P W0 ep live Q (.fn f first e) vs l d env σ=GK P W0 ep live Q f (first++vs++e) l d env σ:=rfl
theorem Ae{f:FuncId}{vs:List V}{v:V}(h:An P W0 f vs [] v [])(e:J P W0 ep live Q l ((d,v)::env) σ):QE P W0 ep live Q f vs l d env σ:=⟨v,h,e⟩
theorem Ov{f:FuncId}{vs:List V}{v:V}{σi:Aj}(h:An P W0 f vs σi v σi)(i:∀id e,lk σi id=some e->lk σ id=some e)(g:J P W0 ep live Q l ((d,v)::env) σ):SH P W0 ep live Q f vs l d env σ:=⟨v,σi,h,i,g⟩
theorem Dn{f:FuncId}{vs:List V}{v:V}{σi σo:Aj}(h:An P W0 f vs σi v σo)(i:∀id e,lk σi id=some e->lk σ id=some e)(g:J P W0 ep live Q l ((d,v)::env) (over σi σo σ)):GK P W0 ep live Q f vs l d env σ:=⟨v,σi,σo,h,i,g⟩
theorem oD{f:FuncId}{vs:List V}{x:AX}{σi σo:Aj}(h:H9 P W0 f vs σi x σo)(i:∀id e,lk σi id=some e->lk σ id=some e)(g:J P W0 ep live Q l ((d,.arr (ep,d))::env) (((ep,d),x)::over σi σo σ)):Sa P W0 ep live Q f vs l d env σ:=⟨x,σi,σo,h,i,g⟩
theorem Ju{f:FuncId}{vs:List V}{v:V}(h:An P W0 f vs [] v [])(g:J P W0 ep live Q l ((d,v)::env) σ):GK P W0 ep live Q f vs l d env σ:=by
 refine⟨v,[],[],h,λid e h=>by simp[lk] at h,?_⟩;have:over [] [] σ=σ:=by simp[over,lk]
 rw[this];exact g
end
@[irreducible] def HB(P:Program)(W0:World)(nt:Nat)(c:IC)(Q:Exit->St->Prop)(st:St):Prop:=EC P W0 nt (.loop c) Q st
@[irreducible] def NP(P:Program)(W0:World)(nt:Nat)(e g:Nat)(x:X)(live:List Nat)(Q:Exit->St->Prop)(st:St):Prop:=EC P W0 nt (.mnext e g x live) Q st
@[irreducible] def CH(P:Program)(W0:World)(nt:Nat)(c:IC)(Q:Exit->St->Prop)(st:St):Prop:=EC P W0 nt c Q st
def Hs(P:Program)(W0:World)(n:Nat)(d:Nat)(f:FuncId)(vs:List V)(l2:List I)(live:List Nat)(Q:Exit->St->Prop)(env:AB)(σ:Aj):Prop:=
 J1 P W0 n d f vs env σ λe env σ=>J P W0 e live Q l2 env σ
def MP(P:Program)(W0:World)(d:Nat)(f:FuncId)(args:List X)(l2:List I)(live:List Nat)(Q:Exit->St->Prop):Exit->St->Prop
 | .normal,st=>Hs P W0 st.n d f (De st.env args) l2 live Q st.env st.σ
 | _,_=>False
def Ow(P:Program)(W0:World)(d g:Nat)(e:Bool)(f:FuncId)(args:List X)(l2:List I)(live:List Nat)(Q:Exit->St->Prop):Exit->St->Prop
 | .normal,st=>Vq (get st.env g) e (Hs P W0 st.n d f (De st.env args) l2 live Q st.env st.σ) (J P W0 st.n live Q l2 ((d,.tup [])::st.env) st.σ)
 | _,_=>False
def Tu(P:Program)(W0:World)(n:Nat)(d:Nat)(vs:List V)(l2:List I)(live:List Nat)(Q:Exit->St->Prop)(env:AB)(σ:Aj):Prop:=
 wQ P W0 n d vs env σ λe env σ=>J P W0 e live Q l2 env σ
def HL(P:Program)(W0:World)(n:Nat)(d:Nat)(h:V)(vs:List V)(l2:List I)(live:List Nat)(Q:Exit->St->Prop)(env:AB)(σ:Aj):Prop:=
 match h with
 | .fn f first e=>Hs P W0 n d f (first++vs++e) l2 live Q env σ
 | .arr id=>Tu P W0 n d (.arr id::vs) l2 live Q env σ
 | _=>False
def OC(P:Program)(W0:World)(d:Nat)(x:X)(args:List X)(l2:List I)(live:List Nat)(Q:Exit->St->Prop):Exit->St->Prop
 | .normal,st=>HL P W0 st.n d (AU st.env x) (De st.env args) l2 live Q st.env st.σ
 | _,_=>False
def AiS(P:Program)(W0:World)(nt:Nat)(g:X)(ps:List Nat)(a b:IC)(e live:List Nat)(Q:Exit->St->Prop)(st:St):Prop:=EC P W0 nt (.rfn g ps a b e live) Q st
def aW(P:Program)(W0:World)(nt:Nat):IC->(Exit->St->Prop)->St->Prop
 | .ops l live _,Q,st=>J P W0 st.n live Q l st.env st.σ
 | .seqr l live,Q,st=>J P W0 st.n live Q l st.env st.σ
 | .seq a b,Q,st=>aW P W0 nt a (λe s=>match e with|.normal=>aW P W0 nt b Q s|e=>Q e s) st
 | .cond c a b,Q,st=>match AU st.env c with|.b true=>aW P W0 nt a Q st|.b false=>aW P W0 nt b Q st|.ub=>aW P W0 nt a Q st/\aW P W0 nt b Q st|_=>False
 | .mnext j o x live,Q,st=>NP P W0 nt j o x live Q st
 | .block id a,Q,st=>aW P W0 nt a (DU id Q) st
 | .loop c,Q,st=>HB P W0 nt c Q st
 | .wk c,Q,st=>CH P W0 nt c Q st
 | .opx l1 h d f args l2 live,Q,st=>J P W0 st.n h (MP P W0 d f args l2 live Q) l1 st.env st.σ
 | .opxq l1 h d g i f args l2 live,Q,st=>J P W0 st.n h (Ow P W0 d g i f args l2 live Q) l1 st.env st.σ
 | .opxd l1 h d f args live _,Q,st=>J P W0 st.n h (MP P W0 d f args [] live Q) l1 st.env st.σ
 | .opxv l1 h d x args l2 live,Q,st=>J P W0 st.n h (OC P W0 d x args l2 live Q) l1 st.env st.σ
 | .opxe ..,Q,st=>False
 | .anyr ..,Q,st=>False
 | .scope _,Q,st=>False
 | .rfn g ps a b p live,Q,st=>AiS P W0 nt g ps a b p live Q st
 | .exit id,Q,st=>Q (.exit id) st
 | .ret,Q,st=>Q .ret st
 | .skip,Q,st=>Q .normal st
def NW(P:Program)(W0:World)(nt:Nat)(b:IC)(Q:Exit->St->Prop)(e:Exit)(s:St):Prop:=match e with|.normal=>aW P W0 nt b Q s|e=>Q e s
def Om(P:Program)(W0:World)(nt:Nat)(v:V)(a b:IC)(Q:Exit->St->Prop)(env:AB)(σ:Aj)(n:Nat):Prop:=match v with|.b true=>aW P W0 nt a Q ⟨env,σ,n⟩|.b false=>aW P W0 nt b Q ⟨env,σ,n⟩|.ub=>aW P W0 nt a Q ⟨env,σ,n⟩/\aW P W0 nt b Q ⟨env,σ,n⟩|_=>False
section
variable{P:Program}{W0:World}{nt n:Nat}{Q Q':Exit→St→Prop}{env:AB}{σ:Aj}{a b c:IC}{st:St}
theorem Acl{l:List I}{live:List Nat}{paths:List (List Nat)}:aW P W0 nt (.ops l live paths) Q ⟨env,σ,n⟩=J P W0 n live Q l env σ:=rfl
theorem sG{l:List I}{live:List Nat}:aW P W0 nt (.seqr l live) Q ⟨env,σ,n⟩=J P W0 n live Q l env σ:=rfl
theorem AdI:aW P W0 nt (.seq a b) Q ⟨env,σ,n⟩=aW P W0 nt a (NW P W0 nt b Q) ⟨env,σ,n⟩:=rfl
theorem pW{x:X}:aW P W0 nt (.cond x a b) Q ⟨env,σ,n⟩=Om P W0 nt (AU env x) a b Q env σ n:=rfl
theorem YT{id:Nat}:aW P W0 nt (.block id a) Q ⟨env,σ,n⟩=aW P W0 nt a (DU id Q) ⟨env,σ,n⟩:=rfl
theorem qS:aW P W0 nt (.loop c) Q ⟨env,σ,n⟩=HB P W0 nt c Q ⟨env,σ,n⟩:=rfl
theorem Aoh:aW P W0 nt (.wk c) Q ⟨env,σ,n⟩=CH P W0 nt c Q ⟨env,σ,n⟩:=rfl
theorem rZ{id:Nat}:aW P W0 nt (.exit id) Q ⟨env,σ,n⟩=Q (.exit id) ⟨env,σ,n⟩:=rfl
theorem AbQ:aW P W0 nt .ret Q ⟨env,σ,n⟩=Q .ret ⟨env,σ,n⟩:=rfl
theorem nP:aW P W0 nt .skip Q ⟨env,σ,n⟩=Q .normal ⟨env,σ,n⟩:=rfl
theorem mB:Om P W0 nt (.b true) a b Q env σ n=aW P W0 nt a Q ⟨env,σ,n⟩:=rfl
theorem qQ:Om P W0 nt (.b false) a b Q env σ n=aW P W0 nt b Q ⟨env,σ,n⟩:=rfl
theorem YZ:Om P W0 nt .ub a b Q env σ n=(aW P W0 nt a Q ⟨env,σ,n⟩/\aW P W0 nt b Q ⟨env,σ,n⟩):=rfl
theorem gL{e g:Nat}{x:X}{live:List Nat}:aW P W0 nt (.mnext e g x live) Q ⟨env,σ,n⟩=NP P W0 nt e g x live Q ⟨env,σ,n⟩:=rfl
theorem Acg{g:X}{ps e live:List Nat}:aW P W0 nt (.rfn g ps a b e live) Q ⟨env,σ,n⟩=AiS P W0 nt g ps a b e live Q ⟨env,σ,n⟩:=rfl
theorem Ad{t:Bool}(e:t=true->aW P W0 nt a Q ⟨env,σ,n⟩)(g:t=false->aW P W0 nt b Q ⟨env,σ,n⟩):Om P W0 nt (.b t) a b Q env σ n:=by
 cases t
 .exact g rfl
 .exact e rfl
theorem Px{d:Nat}{f:FuncId}{args:List X}{l2:List I}{live:List Nat}:MP P W0 d f args l2 live Q .normal ⟨env,σ,n⟩=Hs P W0 n d f (De env args) l2 live Q env σ:=rfl
theorem Iq{d g:Nat}{e:Bool}{f:FuncId}{args:List X}{l2:List I}{live:List Nat}:Ow P W0 d g e f args l2 live Q .normal ⟨env,σ,n⟩=Vq (get env g) e (Hs P W0 n d f (De env args) l2 live Q env σ) (J P W0 n live Q l2 ((d,.tup [])::env) σ):=rfl
theorem Nq{d:Nat}{x:X}{args:List X}{l2:List I}{live:List Nat}:OC P W0 d x args l2 live Q .normal ⟨env,σ,n⟩=HL P W0 n d (AU env x) (De env args) l2 live Q env σ:=rfl
theorem Ti{d:Nat}{f:FuncId}{first e vs:List V}{l2:List I}{live:List Nat}:HL P W0 n d (.fn f first e) vs l2 live Q env σ=Hs P W0 n d f (first++vs++e) l2 live Q env σ:=rfl
theorem Q7{d:Nat}{id:Id}{vs:List V}{l2:List I}{live:List Nat}:HL P W0 n d (.arr id) vs l2 live Q env σ=Tu P W0 n d (.arr id::vs) l2 live Q env σ:=rfl
theorem OK:NW P W0 nt b Q .normal st=aW P W0 nt b Q st:=rfl
theorem Sk{k:Nat}:NW P W0 nt b Q (.exit k) st=Q (.exit k) st:=rfl
theorem Xs:NW P W0 nt b Q .ret st=Q .ret st:=rfl
theorem CO:∀{ic:IC} {Q:Exit->St->Prop} {st:St},aW P W0 nt ic Q st->EC P W0 nt ic Q st
 | .ops l live paths,Q,st,h=>by refine P6 ?_;refine BR (λenv σ w n' U=>?_) h;have:=w (n'-(st.n+1));grind
 | .seqr l live,Q,st,h=>by refine fU ?_;refine BR (λenv σ w n' U=>?_) h;have:=w (n'-(st.n+1));grind
 | .seq a b,Q,st,h=>by
  refine rJ (PF (CO h) λe s N=>?_);cases e with
  | normal=>exact CO (ic:=b) N
  | _=>exact N
 | .cond c a b,Q,st,h=>by
  simp only[aW] at h;split at h
  .rename_i F;exact R3 F (λ_=>CO h) (λh=>by cases h)
  .rename_i F;exact R3 F (λh=>by cases h) (λ_=>CO h)
  .rename_i F;exact Xu F (CO h.1) (CO h.2)
  .cases h
 | .mnext O S x live,Q,st,h=>by have h:NP P W0 nt O S x live Q st:=h;unfold NP at h;exact h
 | .block id a,Q,st,h=>X4 (CO (ic:=a) h)
 | .loop c,Q,st,h=>by have h:HB P W0 nt c Q st:=h;unfold HB at h;exact h
 | .scope c,Q,st,h=>False.elim h
 | .rfn g ps a b W live,Q,st,h=>h
 | .wk c,Q,st,h=>by have h:CH P W0 nt c Q st:=h;unfold CH at h;exact Abb h
 | .opx l1 i d f args l2 live,Q,st,h=>by refine l9 ?_;refine BR (λenv σ w u q=>?_) (show J P W0 st.n i (MP P W0 d f args l2 live Q) l1 st.env st.σ from h);have j:=w (u-(st.n+1));rw[Nat.add_sub_cancel' q] at j;obtain⟨σi,R,y,z,A⟩:=j;refine⟨σi,R,y,z,λp v σo o B=>?_⟩;refine BR (λenv σ D r C=>?_) (A p v σo o B);have:=D (r-(p+1));grind
 | .opxq l1 i d g H f args l2 live,Q,st,h=>by
  refine bO ?_;refine BR (λenv σ w u q=>?_) (show J P W0 st.n i (Ow P W0 d g H f args l2 live Q) l1 st.env st.σ from h);have j:=w (u-(st.n+1));rw[Nat.add_sub_cancel' q] at j;rw[Iq] at j;unfold Vq at j⊢;have G:∀{env:AB} {σ:Aj},J P W0 u live Q l2 env σ->Ao P W0 u l2 env σ λenv σ=>∀r,u<r->Q .normal ⟨restrict live env,σ,r⟩:=λh=>BR (λenv σ D r C=>by have:=D (r-(u+1));grind) h;split at j
  .rename_i t Y;refine⟨λL=>?_,λL=>G (j.2 L)⟩;obtain⟨σi,R,y,z,A⟩:=j.1 L;refine⟨σi,R,y,z,λp v σo o B=>?_⟩;refine BR (λenv σ D r C=>?_) (A p v σo o B);have:=D (r-(p+1));grind
  .exact G j
  .exact j.elim
 | .opxd l1 i d f args live paths,Q,st,h=>by refine dU ?_;refine BR (λenv σ w u q=>?_) (show J P W0 st.n i (MP P W0 d f args [] live Q) l1 st.env st.σ from h);have j:Hs P W0 (st.n+1+(u-(st.n+1))) d f (De (restrict i env) args) [] live Q (restrict i env) σ:=w (u-(st.n+1));rw[Nat.add_sub_cancel' q] at j;obtain⟨σi,R,y,z,A⟩:=j;refine⟨σi,R,y,z,λp v σo o B r C=>?_⟩;have T:∀k,Q .normal ⟨restrict live ((d,v)::restrict i env),over σi σo σ,p+1+k⟩:=A p v σo o B;have:=T (r-(p+1));grind
 | .opxv l1 i d x args l2 live,Q,st,h=>by
  refine YV ?_;refine BR (λenv σ w u q=>?_) (show J P W0 st.n i (OC P W0 d x args l2 live Q) l1 st.env st.σ from h);have j:HL P W0 (st.n+1+(u-(st.n+1))) d (AU (restrict i env) x) (De (restrict i env) args) l2 live Q (restrict i env) σ:=w (u-(st.n+1));rw[Nat.add_sub_cancel' q] at j;have G:∀{p:Nat} {env:AB} {σ:Aj},J P W0 p live Q l2 env σ->Ao P W0 p l2 env σ λenv σ=>∀r,p<r->Q .normal ⟨restrict live env,σ,r⟩:=fun{p} _ _ h=>BR (λenv σ D r C=>by have:=D (r-(p+1));grind) h;unfold HL at j;split at j
  .rename_i f first E M
   obtain⟨σi,R,y,z,A⟩:=j;exact .inl ⟨f,first,E,M,σi,R,y,z,λp v σo o B=>G (A p v σo o B)⟩
  .rename_i id M;obtain⟨σi,R,y,z,A⟩:=j;exact .inr ⟨id,M,σi,R,y,z,λp v σo o B=>G (A p v σo o B)⟩
  .exact j.elim
 | .opxe ..,Q,st,h=>False.elim h
 | .anyr ..,Q,st,h=>False.elim h
 | .exit id,Q,st,h=>gJ h
 | .ret,Q,st,h=>qM h
 | .skip,Q,st,h=>YB h
theorem lC{j h s:Nat}{live:List Nat}{id mid:Id}{es:List (V×V)}{seen:List Nat}(u:get env s=.arr id)(r:lk σ id=some (.mit mid es.length seen es.length))(p:lk σ mid=some (.map es))(o:j∉live)(q:j≠h)
  (e:∀i w,es[i]?=some w->i∉seen->Q .normal ⟨restrict live ((h,.b true)::env),upd σ id (.mit mid es.length (seen++[i]) es.length),n+1⟩)
  (g:(∀i,i<es.length->i∈seen)->Q .normal ⟨restrict live ((h,.b false)::env),σ,n+1⟩):NP P W0 nt j h (.t s) live Q ⟨env,σ,n⟩:=by
 unfold NP;exact Wj u r p e g o q
def Al(W0:World)(nt:Nat)(st e:St):Prop:=∀B a w,At W0 nt B st a w->At W0 nt B e a w
theorem Al.refl:Al W0 nt st st:=λ_ _ _ h=>h
theorem Al.trans{s1 e g:St}(h:Al W0 nt s1 e)(k:Al W0 nt e g):Al W0 nt s1 g:=λB a w x=>k B a w (h B a w x)
theorem Sd{ic:IC}{g:St}(h:Al W0 nt st g)(k:EC P W0 nt ic Q g):EC P W0 nt ic Q st:=λe j B a w o i=>k e j B a w o (h B a w i)
def QW(W0:World)(nt:Nat)(Q:Exit->St->Prop)(e:Exit)(st:St):Prop:=∃g,Al W0 nt st g/\Q e g
theorem Pt{ic:IC}(h:EC P W0 nt ic (QW W0 nt Q) st):EC P W0 nt ic Q st:=by intro g q B a w t i;refine Bm (h g q B a w t i) λe a w r=>?_;obtain⟨o,y,s,⟨z,j,u⟩,p⟩:=r;exact⟨o,y,z,u,j o a w p⟩
def Pg(W0:World)(nt:Nat)(Inv:Nat->St->Prop)(m:Nat)(Q:Exit->St->Prop):Exit->St->Prop
 | .normal,st=>∃h g,h<m/\Al W0 nt st g/\Inv h g
 | e,st=>Q e st
theorem Nw{Inv:Nat->St->Prop}{m:Nat}:Pg W0 nt Inv m Q .normal st=∃g e,g<m/\Al W0 nt st e/\Inv g e:=rfl
theorem QC{Inv:Nat->St->Prop}{m k:Nat}:Pg W0 nt Inv m Q (.exit k) st=Q (.exit k) st:=rfl
theorem SX{Inv:Nat->St->Prop}{m:Nat}:Pg W0 nt Inv m Q .ret st=Q .ret st:=rfl
theorem As{Inv:Nat->St->Prop}(m:Nat)(h:∃i,Al W0 nt st i/\Inv m i)(g:∀m st,Inv m st->aW P W0 nt c (Pg W0 nt Inv m Q) st):HB P W0 nt c Q st:=by
 unfold HB;obtain⟨i,o,j⟩:=h;refine Sd o (dT (Inv:=Inv) (λm st u=>?_) m j);refine Pt (PF (CO (g m st u)) λe s p=>?_);cases e with
 | normal=>obtain⟨w,y,q,r,t⟩:=p;exact⟨y,r,w,q,t⟩
 | _=>exact⟨s,Al.refl,p⟩
theorem RF{e:St}(h:Al W0 nt st e)(k:aW P W0 nt c Q e):CH P W0 nt c Q st:=by unfold CH;exact Sd h (CO k)
def I1(W0:World)(nt:Nat)(e:List R)(vs:List V)(σ':Aj):Exit->St->Prop:=QW W0 nt (Fin e vs σ')
def Uc(W0:World)(nt s:Nat)(x:AX)(σ':Aj):Exit->St->Prop:=QW W0 nt (AoV s x σ')
theorem Ak{f:FuncId}{ic:IC}{o:List R}(j:AD P f nt ic o=true){args:List V}(g:args.length<=nt){σ σ':Aj}{vs:List V}(i:∀id,lk σ' id≠none->lk σ id≠none)
  (h:∀n,(∀id e,lk σ id=some e->id.1<n)->aW P W0 nt ic (I1 W0 nt o vs σ') ⟨params 0 args,σ,n⟩):An P W0 f args σ (JA vs) σ':=
 AeQ j g i λn p=>Pt (CO (h n p))
theorem UV{f:FuncId}{ic:IC}{s:Nat}(j:AD P f nt ic [.t s]=true){args:List V}(g:args.length<=nt){σ σ':Aj}{x:AX}(i:∀id,lk σ' id≠none->lk σ id≠none)
  (h:∀n,(∀id e,lk σ id=some e->id.1<n)->aW P W0 nt ic (Uc W0 nt s x σ') ⟨params 0 args,σ,n⟩):H9 P W0 f args σ x σ':=
 Adr j g i λn o=>Pt (CO (h n o))
theorem Af{s:Nat}{v:V}(h:get env s=v):I1 W0 nt [.t s] [v] [] .ret ⟨env,σ,n⟩:=⟨_,Al.refl,⟨h,trivial⟩,λid e h=>by simp[lk] at h⟩
theorem A4{s:Nat}{v:V}{σ':Aj}(h:get env s=v)(g:∀id e,lk σ' id=some e->lk σ id=some e):I1 W0 nt [.t s] [v] σ' .ret ⟨env,σ,n⟩:=⟨_,Al.refl,⟨h,trivial⟩,g⟩
theorem Dw(σ:Aj):over σ σ σ=σ:=by
 have:∀(p:Id×AX),p∈σ->(lk σ p.1).isNone=false:=by
  intro p hp
  induction σ with
  | nil=>cases hp
  | cons q σ e=>grind[lk]
 unfold over;rw[List.filter_eq_nil_iff.2 (λp hp=>by simp[this p hp]),List.append_nil]
theorem Al.weak(φ:Id->Option (List V)){env':AB}{σ':Aj}{n':Nat}
  (j:∀id es,φ id=some es->(∃e sz,lk σ id=some (.arr e sz es))/\lk σ' id=none)
  (g:∀s,HU φ (get env s) (get env' s))(i:∀id e',lk σ' id=some e'->∃e,lk σ id=some e/\Js φ e e')(o:n<=n'):Al W0 nt ⟨env,σ,n⟩ ⟨env',σ',n'⟩:=
 λB a w h=>h.weak φ j g i o
theorem Al.own{s e sz k:Nat}(C:get env s=.nil):Al W0 nt ⟨env,σ,n⟩ ⟨(s,.arr (n,k))::env,((n,k),.arr e sz [])::σ,n+1⟩:=by
 intro B a w r;obtain⟨μ,H,y,hp,A,p,o,t⟩:=r;have g:μ (n,k)=none:=hp.bd _ (Nat.le_refl _);have j:=Bw (v:=.slice none 0 0) g;have i:=(hp.more (Nat.le_succ n)).new_ (n':=n+1) (w':=w) (R:=λ_=>False) ⟨rfl,rfl,rfl,Nat.le_refl _,λ_ _ _=>rfl⟩ (λ_ h=>h.elim) (σ1:=σ) (λid e h=>⟨h,λ_ _ h=>h⟩) (id:=(n,k)) (e:=.arr e sz []) (val:=.slice none 0 0) g (Nat.lt_succ_self _) (Nat.le_refl _) (λF z=>by simp[C2] at z)
  ⟨.slice none 0 0,[],Au _ _ _,rfl,World.ownsRow_nil w _ e sz,Nat.zero_le _,(λx D=>by cases D),AR.nil_⟩
 refine⟨_,H,⟨y.size,λE=>?_⟩,i.1,A.trans i.2,λid u q=>?_,Nat.le_trans o (Nat.le_succ _),t⟩
 .simp only[get];split
  .rename_i q;subst q;have:=y.at_ s;simp only[C] at this;rw[this.nil_inv];exact .arr _ _ (Au _ _ _) rfl
  .exact(y.at_ E).mono j (λ_ _ h=>h)
 .simp only at o;rw[BS _ _ (by grind)];exact p id u q
theorem Al.drop{σ':Aj}{n':Nat}(h:∀id e,lk σ' id=some e->lk σ id=some e)(i:n<=n'):Al W0 nt ⟨env,σ,n⟩ ⟨env,σ',n'⟩:=
 Al.weak (λ_=>none) (λ_ _ h=>by cases h) (λ_=>.refl _) (λid e' g=>⟨e',h id e' g,.refl _⟩) i
end
end Go.Ir
end
section
namespace Go.Ir
variable[FV]
theorem tA{ys:List V}:RJ [] ys=True:=rfl
theorem eJ{x:V}{xs ys:List V}:RJ (x::xs) ys=((∀y∈ys,∀id,Cq x=some id->Cq y≠some id)/\RJ xs ys):=rfl
def o1(d:Nat)(e:AE):I:=⟨some d,e,none,[]⟩
def o0(e:AE):I:=⟨none,e,none,[]⟩
def m1(d x:Nat):I:=⟨some d,.mv (.t x),none,[]⟩
def ci(z:Int):X:=.c (.i .i64 z)
def mZ(d:Nat)(z:Int):I:=⟨some d,.mv (.c (.i .i64 z)),none,[]⟩
def mC(d:Nat)(v:V):I:=⟨some d,.mv (.c v),none,[]⟩
def l1(d s:Nat):I:=⟨some d,.load (.t s) 1 false,none,[]⟩
def lA(d s n:Nat):I:=⟨some d,.load (.t s) n true,none,[]⟩
def fA(d s k:Nat):I:=⟨some d,.faddr (.t s) k,none,[]⟩
def xT(d s k:Nat):I:=⟨some d,.ext (.t s) k,none,[]⟩
def bT(d:Nat)(o:BinOp)(a b:Nat):I:=⟨some d,.bin o (.t a) (.t b),none,[]⟩
def bZ(d:Nat)(o:BinOp)(a:Nat)(z:Int):I:=⟨some d,.bin o (.t a) (.c (.i .i64 z)),none,[]⟩
def bC(d:Nat)(o:BinOp)(a:Nat)(v:V):I:=⟨some d,.bin o (.t a) (.c v),none,[]⟩
def q1(d f a:Nat):I:=⟨some d,.call f [.t a],none,[]⟩
def q2(d f a b:Nat):I:=⟨some d,.call f [.t a,.t b],none,[]⟩
def q3(d f a b c:Nat):I:=⟨some d,.call f [.t a,.t b,.t c],none,[]⟩
def pO(d a b:Nat):I:=⟨some d,.pick (.t a) (.c (.b true)) (.t b),none,[]⟩
def pA(d a b:Nat):I:=⟨some d,.pick (.t a) (.t b) (.c (.b false)),none,[]⟩
def nL(d s:Nat):I:=⟨some d,.lenL (.t s),none,[]⟩
def nS(d s:Nat):I:=⟨some d,.lenS (.t s),none,[]⟩
def nT(d s:Nat):I:=⟨some d,.not (.t s),none,[]⟩
def nC(d s:Nat):I:=⟨some d,.nilck (.t s),none,[]⟩
def bX(d s:Nat):I:=⟨some d,.box (.t s),none,[]⟩
def iA(d a b e z:Nat):I:=⟨some d,.iaddr (.t a) (.t b) e z,none,[]⟩
def sT(a b n:Nat):I:=⟨none,.store (.t a) (.t b) n,none,[]⟩
def gT(d g:Nat)(o:AE):I:=⟨some d,o,some (g,true),[]⟩
def gF(d g:Nat)(o:AE):I:=⟨some d,o,some (g,false),[]⟩
def BX(d g s:Nat):I:=⟨some d,.mv (.t s),some (g,true),[]⟩
def B0(d g s:Nat):I:=⟨some d,.mv (.t s),some (g,false),[]⟩
def Dm(d g s:Nat):I:=⟨some d,.load (.t s) 1 false,some (g,true),[]⟩
def C3(d g s:Nat):I:=⟨some d,.load (.t s) 1 false,some (g,false),[]⟩
def D0(d g s k:Nat):I:=⟨some d,.faddr (.t s) k,some (g,true),[]⟩
def C4(d g s k:Nat):I:=⟨some d,.faddr (.t s) k,some (g,false),[]⟩
def F7(d g:Nat)(o:BinOp)(a:Nat)(z:Int):I:=⟨some d,.bin o (.t a) (.c (.i .i64 z)),some (g,true),[]⟩
def EZ(d g:Nat)(o:BinOp)(a:Nat)(z:Int):I:=⟨some d,.bin o (.t a) (.c (.i .i64 z)),some (g,false),[]⟩
def oP(l:List I)(v:List Nat):IC:=.ops l v []
def oR(l:List I)(v:List Nat):IC:=.seq (.ops l v []) .ret
def oS(l:List I)(v:List Nat)(b:IC):IC:=.seq (.ops l v []) b
def rS(l:List I)(v:List Nat)(b:IC):IC:=.seq (.seqr l v) b
def sQ(a b:IC):IC:=.seq a b
def cD(n:Nat)(a b:IC):IC:=.cond (.t n) a b
theorem bq:(!true)=false/\(!false)=true/\(∀b,(true||b)=true)/\(∀b,(false||b)=b)/\(∀b,(b||true)=true)/\(∀b,(b||false)=b)/\(∀b,(true&&b)=b)/\(∀b,(false&&b)=false)/\(∀b,(b&&true)=b)/\(∀b,(b&&false)=false)/\((false=true)=False):=by simp
theorem AZ{c d:IC}(h:c=d)(P:Program)(W0:World)(nt:Nat)(Q:Exit->St->Prop)(env:AB)(σ:Aj)(n:Nat):aW P W0 nt c Q ⟨env,σ,n⟩=aW P W0 nt d Q ⟨env,σ,n⟩:=by rw[h]
theorem AL{c d:IC}{p:Prop}(h:c=d)(q:p):(∀P W0 nt Q env σ n,aW P W0 nt c Q ⟨env,σ,n⟩=aW P W0 nt d Q ⟨env,σ,n⟩)/\p:=⟨AZ h,q⟩
section
variable{P:Program}{W0:World}{nt n d f:Nat}{Q:Exit→St→Prop}{env:AB}{σ:Aj}{l1 l2:List I}{v1 v:List Nat}{x:X}{args:List X}{ps:List (List Nat)}
theorem Ac2:aW P W0 nt (.opx l1 v1 d f args l2 v) Q ⟨env,σ,n⟩=J P W0 n v1 (MP P W0 d f args l2 v Q) l1 env σ:=rfl
theorem pY{g:Nat}{e:Bool}:aW P W0 nt (.opxq l1 v1 d g e f args l2 v) Q ⟨env,σ,n⟩=J P W0 n v1 (Ow P W0 d g e f args l2 v Q) l1 env σ:=rfl
theorem lN:aW P W0 nt (.opxv l1 v1 d x args l2 v) Q ⟨env,σ,n⟩=J P W0 n v1 (OC P W0 d x args l2 v Q) l1 env σ:=rfl
theorem mA:aW P W0 nt (.opxd l1 v1 d f args v ps) Q ⟨env,σ,n⟩=J P W0 n v1 (MP P W0 d f args [] v Q) l1 env σ:=rfl
end
attribute [push_cast] put params List.map_cons List.map_nil if_true if_false Nat.zero_add Nat.add_zero hU jS Zr gA Ht lk upd del Dz Du sub Vo Option.isSome_some Option.getD_some Option.bind_some Option.map_some and_true true_and Int.toNat_natCast Int.natCast_nonneg Int.zero_le_ofNat List.getElem?_cons_zero List.getElem?_cons_succ List.length_cons List.length_nil cond_true cond_false Bool.false_eq_true Bool.not_true Bool.not_false pL Akj Prod.mk.injEq and_self and_false false_and List.drop_zero List.drop_succ_cons List.take_succ_cons List.take_zero List.nil_append List.cons_append List.append_nil pX AuA oH AsI rU AtO V9 AeL bS AhB W2 AbM W3 Aej Xt Adi RN qB aG Ajg XF Aob dH AiX Z0 Am8 XG Ai2 nB AnV Ajc Alf AiZ AhR Alj AkI YG SP s8 WD QR jE qI VA Aci AcR Xe Sr Tl Vt Wk TD SE VQ cP RR Sp Rk Sf AdO bJ Abz s9 Ag1 qN gC YH j3 XB Tn Qg R0 TE AcN Agq Ag0 AeR cI Q2 Aby Ald AkT pP Z6 nF ZI Wh Ss Wo Xy WB Tx Be qL Pr Nu MG O7 RG Pi RU Xl AuK Aem Ahz AnG Alh s4 n5 Amb Abe mR AjB pS m8 AdP Af5 Al9 Akh AbW AdY Ape Alq Aut AlP qG lJ pT lO l5 AuI d4 gZ cH iW Anq SS Wy Ad8 sP lV tD jN Tf W8 SN AsB Ak7 AkF nM lL AiU AfE AoO n6 mD cC eW d7 tI Ad7 lG AcB XY r7 eR rP j9 jC Wm cQ aU XC Zk AhP AmH Ah7 cK iK m7 VZ V4 VH WR WE VY rD bU XL Zn ZG QS Rz Rx PT QZ YZ gL List.all_cons List.all_nil Bool.and_self Bool.and_true Acl AdI pW YT qS Aoh rZ AbQ nP mB qQ Px Nq Ti Q7 Acg OK Sk Xs Nw QC SX AaL AE.cs tA eJ o1 o0 m1 ci mZ mC l1 lA fA xT bT bZ bC q1 q2 q3 pO pA nL nS nT nC bX iA sT gT gF BX B0 Dm C3 D0 C4 F7 EZ oP oR oS rS sQ cD Ac2 pY Iq lN mA sG decide_true decide_false
end Go.Ir
end
