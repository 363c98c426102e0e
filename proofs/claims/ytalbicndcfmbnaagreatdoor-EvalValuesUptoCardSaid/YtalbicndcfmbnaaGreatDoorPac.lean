/-
  THE EVALUATOR, part F: code, loops, functions.
  THE EVALUATOR, part R: ranges over functions: entering the ..
  THE EVALUATOR, part G: loops, functions, the whole.
  THE EVALUATOR, part H: the same, in a form in which the ..
  THE EVALUATOR, part I: contracts that were proved by hand, ..
  A builder of the library at this program: the check of ..
  THE EVALUATOR, part K: tables of codes.
  Symbolic steps of the IR: one law for each operation, for ..
  Symbolic steps of the IR, second part.
  Symbolic steps of the IR: what their functions yield at ..
  Symbolic steps of the IR: the same laws, with the slots' ..
  THE JUDGEMENT AS EQUATIONS: what a region and code ask, ..
  The laws of a walk, as one set for simp
  Contracts: a strings.Builder inside a variable: the check ..
  Messages as plain Lean data: parts and cases, their form as ..
  The IR of functions of the program, printed by our own tool
  Contracts: short.
  What the contracts share.
  What the contracts share: calls that look at one entry of ..
  Contracts: the functions on bytes and names.
  Contracts: names, skeletons, digits.
  The IR of generic functions of package slices, with ..
  Contracts of generic functions of package slices, for any ..
  Contracts of generic functions of package slices over a ..
  Contracts: Plain, Equal, of the program and of the ..
  Contracts: Plain of the reference
  Contracts: Depth, Size, Few, In of the reference.
  Contracts: Equal of the reference.
  Rules as plain Lean data: spans, relations, conditions, ..
  A locale, whole, as plain Lean data
-/
import Derived.Test.YtalbicndcfmbnaaGreatDoorPab
import Derived.Lib.UnsafeStr
import Derived.Shelf.Strings.Builder1
import Derived.KernelRfl
set_option linter.all false
set_option linter.defProp false
set_option linter.unusedSectionVars false
set_option linter.unusedSimpArgs false
set_option linter.unusedVariables false
open Nat (reduceEqDiff)
section
namespace Go.Ir
open Go.RowKit
noncomputable section
variable[FW]
def Oa(m:Nat)(v:V):Bool:=V.rec (motive_1:=λ_=>Bool) (motive_2:=λ_=>Bool) (λ_=>true) (λ_ _=>true) (λ_=>true) true (λ_ h=>h) (λ_ h=>h) (λ_ h=>h) (λid _=>Nat.blt id.1 m) (λid=>Nat.blt id.1 m) (λid _ _ _=>Nat.blt id.1 m) (λ_ _ h=>h) (λ_ _ _ e g=>e&&g) true true true true true true true true (λ_ _ e g=>e&&g) v
def Ku(m:Nat):List V->Bool
 | []=>true
 | v::vs=>Oa m v&&Ku m vs
theorem M0{a m:Nat}(h:Nat.blt a m=true):a<m:=AxG ▸ h
def Anj(m:Nat)(vs:List V):Bool:=V.rec_1 (motive_1:=λ_=>Bool) (motive_2:=λ_=>Bool) (λ_=>true) (λ_ _=>true) (λ_=>true) true (λ_ h=>h) (λ_ h=>h) (λ_ h=>h) (λid _=>Nat.blt id.1 m) (λid=>Nat.blt id.1 m) (λid _ _ _=>Nat.blt id.1 m) (λ_ _ h=>h) (λ_ _ _ e g=>e&&g) true true true true true true true true (λ_ _ e g=>e&&g) vs
theorem HO(m:Nat):∀vs:List V,Anj m vs=Ku m vs
 | []=>rfl
 | v::vs=>by show(Oa m v&&Anj m vs)=_;rw[HO m vs];rfl
theorem AjQ{m:Nat}{es:List V}:Oa m (.sl es)=Ku m es:=HO m es
theorem AcO{m:Nat}{es:List V}:Oa m (.agg es)=Ku m es:=HO m es
theorem zK{m:Nat}{es:List V}:Oa m (.tup es)=Ku m es:=HO m es
theorem AiU{m:Nat}{f:FuncId}{a c:List V}:Oa m (.fn f a c)=(Ku m a&&Ku m c):=by rw[<-HO,<-HO];rfl
theorem DS{m:Nat}:(∀v:V,Oa m v=true->AZ (Lt m) v)/\∀vs:List V,Ku m vs=true->∀v∈vs,AZ (Lt m) v:=by
 have key:∀n:Nat,(∀v:V,SizeOf.sizeOf v<n->Oa m v=true->AZ (Lt m) v)/\∀vs:List V,SizeOf.sizeOf vs<n->Ku m vs=true->∀v∈vs,AZ (Lt m) v:=by
  intro n
  induction n with
  | zero=>grind
  | succ n j=>
   refine⟨λv g h=>?_,λvs g h=>?_⟩
   ·cases v with
    | sl es=>simp at g;exact .sl _ (j.2 es (by omega) (by rw[<-AjQ];exact h))
    | agg es=>simp at g;exact .agg _ (j.2 es (by omega) (by rw[<-AcO];exact h))
    | tup es=>simp at g;exact .tup _ (j.2 es (by omega) (by rw[<-zK];exact h))
    | fn f a c=>simp at g;rw[AiU,Aan] at h;exact .fn _ _ _ (j.2 a (by omega) h.1) (j.2 c (by omega) h.2)
    | b x=>exact .b x
    | i k n=>exact .i k n
    | s l=>exact .s l
    | nil=>exact .nil
    | np=>exact .np
    | nf=>exact .nf
    | ni=>exact .ni
    | nm=>exact .nm
    | ub=>exact .ub
    | iv=>exact .iv
    | any=>exact .any
    | ref=>exact .ref _ _ (M0 h)
    | arr=>exact .arr _ (M0 h)
    | aref=>exact .aref _ _ _ _ (M0 h)
    | ep e o=>simp at g;exact .ep _ _ (j.1 e (by omega) h)
   ·cases vs with
    | nil=>intro v p;cases p
    | cons x xs=>simp at g;simp only[Ku,Aan] at h;grind
 exact⟨λv=>(key (SizeOf.sizeOf v+1)).1 v (Ab3 _),λvs=>(key (SizeOf.sizeOf vs+1)).2 vs (Ab3 _)⟩
def elt(m:Nat):Ax->Bool
 | .box v=>Oa m v
 | .tbox _ v=>Oa m v
 | .arr _ _ es=>Ku m es
 | .map es=>es.all λp=>Oa m p.1&&Oa m p.2
 | .it _ _=>true
 | .mit mid _ _ _=>Nat.blt mid.1 m
 | .loop _ env _ a b _ _=>((a.cl&&b.cl)&&(a.nr&&b.nr))&&env.all λp=>Oa m p.2
theorem Xg{S:Id->Prop}:∀{env:AE},(∀p∈env,AZ S p.2)->∀s,AZ S (get env s)
 | [],_,s=>.any
 | (k,v)::env,h,s=>by
  simp only[get];split
  ·simp_all
  ·exact Xg (λp hp=>h p (by simp[hp])) s
theorem vT{m:Nat}{e:Ax}(h:elt m e=true):Jg (Lt m) e:=by
 cases e with
 | box v=>exact .box _ (DS.1 v h)
 | tbox t v=>exact .tbox _ _ (DS.1 v h)
 | arr a b es=>exact .arr _ _ _ (DS.2 es h)
 | map es=>refine .map _ λx g=>?_;have:=Alm.1 h x g;simp only[Aan] at this;exact⟨DS.1 _ this.1,DS.1 _ this.2⟩
 | it l p=>exact .it _ _
 | mit mid s j st=>exact .mit _ _ _ _ (M0 h)
 | loop nt env ps a b st i=>
  have h:=(Bool.and_eq_true_iff.1 h)
  exact .loop _ _ _ _ _ _ _ (Xg λp hp=>DS.1 _ (Alm.1 h.2 p hp)) h.1
def slt(m:Nat)(σ:Al):Bool:=σ.all λp=>Nat.blt p.1.1 m&&elt m p.2
theorem Kq:∀{σ:Al} {id:Id} {e:Ax},lk σ id=some e->(id,e)∈σ
 | [],_,_,h=>by cases h
 | (k,x)::σ,id,e,h=>by
  simp only[lk] at h;split at h
  ·grind
  ·exact AaC _ (Kq h)
theorem oW{m:Nat}{σ:Al}(h:slt m σ=true):Ck (Lt m) σ:=by intro id e g;have:=Alm.1 h _ (Kq g);simp only[Aan] at this;exact⟨M0 this.1,vT this.2⟩
def Zb(v:V)(a:List Id):List Id:=V.rec (motive_1:=λ_=>List Id->List Id) (motive_2:=λ_=>List Id->List Id) (λ_ a=>a) (λ_ _ a=>a) (λ_ a=>a) (λa=>a) (λ_ h=>h) (λ_ h=>h) (λ_ h=>h) (λid _ a=>id::a) (λid a=>id::a) (λid _ _ _ a=>id::a) (λ_ _ h=>h) (λ_ _ _ e g a=>e (g a)) (λa=>a) (λa=>a) (λa=>a) (λa=>a) (λa=>a) (λa=>a) (λa=>a) (λa=>a) (λ_ _ e g a=>e (g a)) v a
def WJ(vs:List V)(a:List Id):List Id:=List.rec (motive:=λ_=>List Id) a (λv _ e=>Zb v e) vs
def As9:Ax->List Id->List Id
 | .box v,a=>Zb v a
 | .tbox _ v,a=>Zb v a
 | .arr _ _ es,a=>WJ es a
 | .map es,a=>es.foldr (λp a=>Zb p.1 (Zb p.2 a)) a
 | .it _ _,a=>a
 | .mit mid _ _ _,a=>mid::a
 | .loop _ env _ _ _ _ _,a=>env.foldr (λp a=>Zb p.2 a) a
def Apv(id:Id)(l:List Id):Bool:=List.rec (motive:=λ_=>Bool) false (λk _ e=>Bool.rec (motive:=λ_=>Bool) e true (Rq k id)) l
def T7(σ:Al)(k:Nat):List Id->List Id->List Id:=Nat.rec (motive:=λ_=>List Id->List Id->List Id) (λ_ seen=>seen) (λ_ h g seen=>match g with
 | []=>seen
 | id::g=>Bool.rec (motive:=λ_=>List Id) (match GY σ id with
  | some e=>h (As9 e g) (id::seen)
  | none=>h g seen) (h g seen) (Apv id seen)) k
def NL(q:Id->Bool)(σ:Al):Al:=List.rec (motive:=λ_=>Al) [] (λp _ e=>Bool.rec (motive:=λ_=>Al) e (p::e) (q p.1)) σ
theorem PA(q:Id->Bool):∀σ:Al,NL q σ=σ.filter λp=>q p.1
 | []=>rfl
 | p::σ=>by
  have e:NL q (p::σ)=Bool.rec (motive:=λ_=>Al) (NL q σ) (p::NL q σ) (q p.1):=rfl;rw[e,PA q σ];cases g:q p.1 with
  | false=>grind
  | true=>grind
theorem LA(q:Id->Bool)(σ:Al)(k:Id):lk (NL q σ) k=if q k then lk σ k else none:=by rw[PA,NW]
def LM(o:Option Ax):Bool:=Option.rec (motive:=λ_=>Bool) false (λ_=>true) o
theorem N3(o:Option Ax):LM o=o.isSome:=by cases o<;>rfl
def Np(σ τ:Al):Al:=NL (λid=>LM (GY σ id)) τ
theorem JU{σ τ:Al}(id:Id):lk (Np σ τ) id=if(lk σ id).isSome then lk τ id else none:=by unfold Np;rw[LA,N3,Bx]
section
variable{P:Program}{W0:World}
def Mn(s:List Id)(σ:Al):Al:=NL (λid=>Apv id s) σ
def IS(args:List V)(σ:Al):Al:=Mn (T7 σ 1000 (WJ args []) []) σ
theorem Mm(args:List V)(σ:Al):∀id e,lk (IS args σ) id=some e->lk σ id=some e:=by intro id e h;unfold IS Mn at h;rw[LA] at h;grind
def MC(f:V->Option V):List V->Option (List V)
 | []=>some []
 | v::vs=>match f v with
  | some w=>match MC f vs with
   | some e=>some (w::e)
   | none=>none
  | none=>none
theorem Ec{f:V->Option V}:∀{l e:List V},MC f l=some e->l.length=e.length/\∀(k:Nat) (c i:V),l[k]?=some c->e[k]?=some i->f c=some i
 | [],e,h=>by cases h;grind
 | v::vs,e,h=>by
  rw[MC] at h;split at h
  ·rename_i w p;split at h
   ·rename_i q g;cases h;obtain⟨j,o⟩:=Ec g;grind
   ·cases h
  ·cases h
def Lb(f:V->Option V)(c:V):Option V:=match f c with
 | some e=>chk (c.ok&&e.ok&&Nat.beq (cells e).length (cells c).length) (some e)
 | none=>none
def frz(σ:Al)(q:Id->Bool):Nat->V->Option V
 | 0=>λ_=>none
 | k+1=>λv=>match v with
  | .arr id=>bif q id then(match GY σ id with
   | some (.arr _ _ es)=>(MC (Lb (frz σ q k)) es).map .sl
   | _=>none) else some (.arr id)
  | .sl es=>(MC (Lb (frz σ q k)) es).map .sl
  | .agg cs=>(MC (frz σ q k) cs).map .agg
  | .tup cs=>(MC (frz σ q k) cs).map .tup
  | v=>some v
def NB(σ:Al)(q:Id->Bool):Id->Option (List V):=λid=>if q id=true then(match lk σ id with
 | some (.arr _ _ es)=>some es
 | _=>none) else none
theorem Cd{f:V->Option V}{c e:V}(h:Lb f c=some e):f c=some e/\(cells e).length=(cells c).length/\c.ok=true/\e.ok=true:=by
 unfold Lb at h;split at h
 ·rename_i g o;obtain⟨i,j⟩:=A5.1 h;simp_all
 ·cases h
theorem GO{σ:Al}{q:Id->Bool}:∀{k:Nat} {v t:V},frz σ q k v=some t->Lz (NB σ q) v t
 | 0,v,t,h=>by cases h
 | k+1,v,t,h=>by
  have s:∀{es es':List V},MC (Lb (frz σ q k)) es=some es'->es.length=es'.length/\(∀(j:Nat) (c g:V),es[j]?=some c->es'[j]?=some g->Lz (NB σ q) c g)/\∀(j:Nat) (c g:V),es[j]?=some c->es'[j]?=some g->(cells g).length=(cells c).length/\c.ok=true/\g.ok=true:=by intro es es' z;obtain⟨o,i⟩:=Ec z;exact⟨o,λj c g a b=>GO (Cd (i j c g a b)).1,λj c g a b=>(Cd (i j c g a b)).2⟩
  cases v with
  | arr id=>
   simp only[frz] at h;cases w:q id with
   | false=>rw[w] at h;cases h;exact .refl _
   | true=>
    rw[w] at h;simp only[cond_true] at h;split at h
    ·rename_i e sz es y;rw[Bx] at y;obtain⟨es',o,rfl⟩:=AdW.1 h;obtain⟨i,r,u⟩:=s o;exact .arr id es es' (by unfold NB;rw[if_pos w,y]) i r u
    ·cases h
  | sl es=>obtain⟨es',o,rfl⟩:=AdW.1 h;obtain⟨i,r,u⟩:=s o;exact .sl es es' i r u
  | agg cs=>obtain⟨p,o,rfl⟩:=AdW.1 h;obtain⟨i,r⟩:=Ec o;exact .agg cs p i λj c g a b=>GO (r j c g a b)
  | tup cs=>obtain⟨p,o,rfl⟩:=AdW.1 h;obtain⟨i,r⟩:=Ec o;exact .tup cs p i λj c g a b=>GO (r j c g a b)
  | _=>cases h;exact .refl _
theorem HH{f:V->Option V}{l i:List V}(h:MC f l=some i){g:V}(o:g∈i):∃c∈l,f c=some g:=by
 obtain⟨q,j⟩:=Ec h;obtain⟨k,p⟩:=AsY.1 o;have e:k<l.length:=by grind
 exact⟨l[k],Ax4 e,j k _ _ (Ai0 e) p⟩
theorem H7{S:Id->Prop}{σ:Al}{q:Id->Bool}(p:Ck S σ):∀{k:Nat} {v s:V},frz σ q k v=some s->AZ S v->AZ S s
 | 0,v,s,h,_=>by cases h
 | k+1,v,s,h,r=>by
  cases v with
  | arr id=>
   simp only[frz] at h;cases y:q id with
   | false=>grind
   | true=>
    rw[y] at h;simp only[cond_true] at h;split at h
    ·rename_i e sz es w;rw[Bx] at w;obtain⟨es',i,rfl⟩:=AdW.1 h;refine .sl _ λt g=>?_;obtain⟨c,j,o⟩:=HH i g;exact H7 p (Cd o).1 ((p _ _ w).2.arr_inv c j)
    ·cases h
  | sl es=>obtain⟨es',i,rfl⟩:=AdW.1 h;refine .sl _ λt g=>?_;obtain⟨c,j,o⟩:=HH i g;exact H7 p (Cd o).1 (r.sl_inv c j)
  | agg cs=>obtain⟨u,i,rfl⟩:=AdW.1 h;refine .agg _ λt g=>?_;obtain⟨c,j,o⟩:=HH i g;exact H7 p o (r.agg_inv c j)
  | tup cs=>obtain⟨u,i,rfl⟩:=AdW.1 h;refine .tup _ λt g=>?_;obtain⟨c,j,o⟩:=HH i g;exact H7 p o (r.tup_inv c j)
  | _=>cases h;exact r
def OW(σ:Al)(q:Id->Bool)(k:Nat):Ax->Option Ax
 | .box v=>(Lb (frz σ q k) v).map .box
 | .tbox t v=>(Lb (frz σ q k) v).map (.tbox t)
 | .arr e sz es=>(MC (Lb (frz σ q k)) es).map (.arr e sz)
 | e=>some e
theorem ZG{σ:Al}{q:Id->Bool}{k:Nat}{e e':Ax}(h:OW σ q k e=some e'):La (NB σ q) e e':=by
 cases e with
 | box v=>obtain⟨u,i,rfl⟩:=AdW.1 h;obtain⟨o,g,r,s⟩:=Cd i;exact .box v u (GO o) g r s
 | tbox t v=>obtain⟨u,i,rfl⟩:=AdW.1 h;obtain⟨o,g,r,s⟩:=Cd i;exact .tbox t v u (GO o) g r s
 | arr a b es=>obtain⟨es',i,rfl⟩:=AdW.1 h;obtain⟨o,g⟩:=Ec i;exact .arr a b es es' o λj c w p q=>⟨GO (Cd (g j c w p q)).1,(Cd (g j c w p q)).2⟩
 | _=>cases h;exact .refl _
theorem bE{S:Id->Prop}{σ:Al}{q:Id->Bool}{k:Nat}{e e':Ax}(o:Ck S σ)(h:OW σ q k e=some e')(i:Jg S e):Jg S e':=by
 cases e with
 | box v=>obtain⟨s,g,rfl⟩:=AdW.1 h;exact .box _ (H7 o (Cd g).1 i.box_inv)
 | tbox t v=>obtain⟨s,g,rfl⟩:=AdW.1 h;exact .tbox _ _ (H7 o (Cd g).1 i.tbox_inv)
 | arr a b es=>obtain⟨es',g,rfl⟩:=AdW.1 h;refine .arr _ _ _ λu j=>?_;obtain⟨c,p,r⟩:=HH g j;exact H7 o (Cd r).1 (i.arr_inv c p)
 | _=>cases h;exact i
def zG(σ:Al)(q:Id->Bool)(k:Nat):Al->Option Al
 | []=>some []
 | (id,e)::r=>match zG σ q k r with
  | some g=>bif q id then some g else match OW σ q k e with
   | some e'=>some ((id,e')::g)
   | none=>none
  | none=>none
theorem Jv{σ:Al}{q:Id->Bool}{k:Nat}:∀{τ g:Al},zG σ q k τ=some g->∀id e',lk g id=some e'->q id=false/\∃e,lk τ id=some e/\OW σ q k e=some e'
 | [],g,h,id,e',i=>by cases h;cases i
 | (j,x)::r,g,h,id,e',i=>by
  rw[zG] at h;split at h
  ·rename_i z p;cases o:q j with
   | true=>rw[o] at h;cases h;obtain⟨s,e,t,u⟩:=Jv p id e' i;grind[lk]
   | false=>
    rw[o] at h;simp only[cond_false] at h;split at h
    ·rename_i x' y;cases h;simp only[lk] at i⊢;split at i
     ·grind
     ·rename_i w;obtain⟨s,e,t,u⟩:=Jv p id e' i;grind
    ·cases h
  ·cases h
def PS(σ:Al)(q:Id->Bool)(k:Nat):AE->Option AE
 | []=>some []
 | (s,v)::r=>match frz σ q k v with
  | some g=>match PS σ q k r with
   | some e=>some ((s,g)::e)
   | none=>none
  | none=>none
theorem Jf{σ:Al}{q:Id->Bool}{k:Nat}:∀{env env':AE},PS σ q k env=some env'->∀s,(get env s=.any/\get env' s=.any)\/frz σ q k (get env s)=some (get env' s)
 | [],env',h,s=>by cases h;grind[get]
 | (j,v)::r,env',h,s=>by
  rw[PS] at h;split at h
  ·rename_i p i;split at h
   ·rename_i o g;cases h;simp only[get];by_cases e:j=s
    ·grind
    ·rw[if_neg e,if_neg e];exact Jf g s
   ·cases h
  ·cases h
def mH(id:Id)(st:St):Option St:=
 let q:=λj=>decide (j=id)
 match GY st.σ id with
 | some (.arr _ _ _)=>match PS st.σ q 60 st.env with
  | some env=>match zG st.σ q 60 st.σ with
   | some σ=>some ⟨env,σ,st.n⟩
   | none=>none
  | none=>none
 | _=>none
def XLe(W0:World)(nt:Nat)(st e:St):Prop:=∀B a w,Tg W0 nt B st a w->Tg W0 nt B e a w
theorem nQ{W0:World}{nt:Nat}{id:Id}{st i:St}(h:mH id st=some i):XLe W0 nt st i/\i.n=st.n/\∀S,BC S st.env->Ck S st.σ->BC S i.env/\Ck S i.σ:=by
 unfold mH at h;simp only at h;split at h
 ·rename_i e sz es L;rw[Bx] at L;split at h
  ·rename_i env E;split at h
   ·rename_i σ p;cases h;have r:∀S,BC S st.env->Ck S st.σ->BC S env/\Ck S σ:=by
     intro S z q;refine⟨λs=>?_,λj x t=>?_⟩
     ·rcases Jf E s with⟨_,h⟩|h
      ·rw[h];exact .any
      ·exact H7 q h (z s)
     ·obtain⟨_,y,u,A⟩:=Jv p j x t;exact⟨(q _ _ u).1,bE q A (q _ _ u).2⟩
    refine⟨λB a w o=>?_,rfl,r⟩;obtain⟨o,z,q,J⟩:=o;obtain⟨G,H⟩:=r _ z q;refine⟨o.weak (NB st.σ λj=>decide (j=id)) (λj es' g=>?_) (λs=>?_) (λj x t=>?_) (Abm _),G,H,J⟩
    ·unfold NB at g;split at g
     ·rename_i t;split at g
      ·rename_i e' D F C;cases g;refine⟨⟨e',D,C⟩,?_⟩;cases M:lk σ j with
       | none=>rfl
       | some x=>have:=(Jv p j x M).1;grind
      ·cases g
     ·cases g
    ·rcases Jf E s with⟨h5,h6⟩|h5
     ·rw[h6];exact .any _
     ·exact GO h5
    ·obtain⟨_,y,u,A⟩:=Jv p j x t;exact⟨y,u,ZG A⟩
   ·cases h
  ·cases h
 ·cases h
def geN(m:Nat):Id->Bool:=λid=>Nat.ble m id.1
def ltS(m:Nat)(σ:Al):Al:=NL (λid=>Nat.blt id.1 m) σ
theorem T2{m:Nat}{σ:Al}(id:Id):lk (ltS m σ) id=if Nat.blt id.1 m=true then lk σ id else none:=by unfold ltS;rw[LA]
theorem F2.frz{f:FuncId}{args:List V}{σ σ1:Al}{m n' k:Nat}{v q:V}(h:F2 P W0 f args σ m v σ1 n')(G:Go.Ir.frz σ1 (geN m) k v=some q)(L:Oa m q=true):F2 P W0 f args σ m q (ltS m σ1) n' where
 callable:=h.callable
 le:=h.le
 vin:=(DS.1 _ L).mono (Lt.mono h.le)
 sin:=by
  intro id e i;rw[T2] at i;split at i
  ·exact h.sin id e i
  ·cases i
 run:=by
  intro w μ H vals hp o;refine Fb.mono (h.run w μ H vals hp o) ?_;rintro e w' ⟨val,C,E,rfl,B,y,u,j⟩;have r:At W0 1 ⟨μ,H,σ,w,m,none,[]⟩ ⟨[(0,v)],σ1,n'⟩ { tmps:=#[val],defers:=[] } w':=by
   refine⟨C,E,⟨rfl,λs=>?_⟩,y,u,j,h.le,rfl⟩;cases s with
   | zero=>exact B
   | succ s=>exact .any _
  have M:=r.weak (NB σ1 (geN m)) (env':=[(0,q)]) (σ':=ltS m σ1) (n':=n') (λid es g=>?_) (λs=>?_) (λid e i=>?_) (Abm _)
  ·obtain⟨D,F,A,z,t,p,_⟩:=M;exact⟨val,D,F,rfl,A.at_ 0,z,t,p⟩
  ·unfold NB at g;split at g
   ·rename_i J;split at g
    ·rename_i e sz es' i;cases g;refine⟨⟨e,sz,i⟩,?_⟩;rw[T2,if_neg];rw[AxG];exact AxF.2 (Axk J)
    ·cases g
   ·cases g
  ·cases s with
   | zero=>exact GO G
   | succ s=>exact .refl _
  ·rw[T2] at i;split at i
   ·exact⟨e,i,.refl _⟩
   ·cases i
def r9(C:AQ):AQ:=λf args σ m=>match C f args σ m with
 | some (v,σ1,n')=>match frz σ1 (geN m) 60 v with
  | some e=>chk (Oa m e) (some (e,ltS m σ1,n'))
  | none=>none
 | none=>none
theorem Pu{C:AQ}(o:AX P W0 C):AX P W0 (r9 C):=by
 intro f args σ m v σ' n' h p q;unfold r9 at h;split at h
 ·rename_i v1 σ1 r e;split at h
  ·rename_i v2 g;obtain⟨i,j⟩:=A5.1 h;cases j;exact(o _ _ _ _ _ _ _ e p q).frz g i
  ·cases h
 ·cases h
def hZ(σi σo σ:Al):Al:=List.rec (motive:=λ_=>Al) (NL (λid=>Bool.rec (motive:=λ_=>Bool) true false (LM (GY σi id))) σ) (λp _ e=>p::e) σo
theorem RW(σi σo σ:Al):hZ σi σo σ=over σi σo σ:=by
 have e:NL (λid=>Bool.rec (motive:=λ_=>Bool) true false (LM (GY σi id))) σ=σ.filter λp=>(lk σi p.1).isNone:=by rw[PA];congr 1;funext p;rw[N3,Bx];cases lk σi p.1<;>rfl
 unfold hZ over
 induction σo with
 | nil=>simpa using e
 | cons p σo g=>grind
def sG(f:FuncId):Bool:=Bool.rec (motive:=λ_=>Bool) true false (Nat.beq f HR)
theorem LI{f:FuncId}(h:sG f=true):f≠HR:=by rintro rfl;cases h
def P2(C:AQ)(m:Nat)(f:FuncId)(args:List V):Option V:=
 match r9 C f args [] m with
 | some (v,_,_)=>chk (Oa m v&&sG f) (some v)
 | none=>none
theorem JK{C:AQ}(q:AX P W0 C){m:Nat}{f:FuncId}{args:List V}{v:V}(h:P2 C m f args=some v)(i:∀a∈args,AZ (Lt m) a):An P W0 f args [] v []/\AZ (Lt m) v:=by
 unfold P2 at h;split at h
 ·rename_i v1 σ1 t o;obtain⟨g,p⟩:=A5.1 h;cases p;rw[Aan] at g;have j:=DS.1 v g.1;exact⟨An.of_at (LI g.2) (Pu q _ _ _ _ _ _ _ o i Ck.nil) i Ck.nil (λid e r=>by cases r) (λid s=>absurd rfl s) j Ck.nil,j⟩
 ·cases h
def mS(C:AQ)(m:Nat)(σi σ:Al)(f:FuncId)(args:List V):Option (V×Al):=
 match r9 C f args σi m with
 | some (v,σ1,_)=>chk ((Oa m v&&slt m (Np σi σ1))&&sG f) (some (v,hZ σi (Np σi σ1) σ))
 | none=>none
def WM(C:AQ)(m:Nat)(σ:Al)(f:FuncId)(args:List V):Option (V×Al):=mS C m (IS args σ) σ f args
theorem KZ{C:AQ}(A:AX P W0 C){m:Nat}{σ σ':Al}{f:FuncId}{args:List V}{v:V}(h:WM C m σ f args=some (v,σ'))(r:∀a∈args,AZ (Lt m) a)(t:Ck (Lt m) σ):(∃σi σo,An P W0 f args σi v σo/\(∀id e,lk σi id=some e->lk σ id=some e)/\σ'=over σi σo σ)/\AZ (Lt m) v/\Ck (Lt m) σ':=by
 unfold WM mS at h;have g:=Mm args σ;generalize IS args σ=σi at h g;have j:Ck (Lt m) σi:=λid e p=>t id e (g _ _ p);split at h
 ·rename_i v1 σ1 B y;obtain⟨i,z⟩:=A5.1 h;cases z;simp only[Aan] at i;have q:=LI i.2;have i:=i.1;have u:=DS.1 v i.1;have o:=oW i.2;refine⟨⟨σi,Np σi σ1,An.of_at q (Pu A _ _ _ _ _ _ _ y r j) r j (λid e p=>?_) (λid s=>?_) u o,g,RW _ _ _⟩,u,?_⟩
  ·rw[JU] at p;grind
  ·intro w;rw[JU,w] at s;exact s rfl
  ·rw[RW];exact t.over o
 ·cases h
def Uj(C:AQ)(m:Nat)(σ:Al)(f:FuncId)(args:List V):Option (Ax×Al):=
 match C f args σ m with
 | some (.arr id,σ1,_)=>match lk σ1 id with
  | some x=>chk ((Nat.ble m id.1&&elt m x&&slt m (Np σ σ1))&&sG f) (some (x,Np σ σ1))
  | none=>none
 | _=>none
theorem PF{C:AQ}(y:AX P W0 C){m:Nat}{σ τ:Al}{f:FuncId}{args:List V}{x:Ax}(h:Uj C m σ f args=some (x,τ))(p:∀a∈args,AZ (Lt m) a)(r:Ck (Lt m) σ):Jh P W0 f args σ x τ/\Jg (Lt m) x/\Ck (Lt m) τ:=by
 unfold Uj at h;split at h
 ·rename_i id σ1 z u;split at h
  ·rename_i x' j;obtain⟨g,w⟩:=A5.1 h;cases w;simp only[Aan,Axo] at g;have o:=LI g.2;have g:=g.1;have s:=vT g.1.2;have i:=oW g.2;refine⟨Jh.of_at o (y _ _ _ _ _ _ _ u p r) p r j (λid e j=>?_) (λid q=>?_) s i g.1.1,s,i⟩
   ·rw[JU] at j;grind
   ·intro t;rw[JU,t] at q;exact q rfl
  ·cases h
 ·cases h
mutual
def S8:V->V->Bool
 | .b x,.b y=>x==y
 | .i k a,.i k' b=>decide (k=k')&&xY a b
 | .s a,.s b=>OZ a b
 | .nil,.nil=>true
 | .sl a,.sl b=>Ki a b
 | .agg a,.agg b=>Ki a b
 | .tup a,.tup b=>Ki a b
 | .ref i o,.ref j p=>decide (i=j)&&Nat.beq o p
 | .arr i,.arr j=>decide (i=j)
 | .aref i a b c,.aref j e h q=>decide (i=j)&&Nat.beq a e&&Nat.beq b h&&Nat.beq c q
 | .ep a o,.ep b p=>S8 a b&&Nat.beq o p
 | .fn f a c,.fn g b d=>decide (f=g)&&Ki a b&&Ki c d
 | .np,.np|.nf,.nf|.ni,.ni|.nm,.nm|.ub,.ub|.iv,.iv|.any,.any=>true
 | _,_=>false
def Ki:List V->List V->Bool
 | [],[]=>true
 | a::x,b::y=>S8 a b&&Ki x y
 | _,_=>false
end
theorem Jo:∀n:Nat,(∀a b:V,SizeOf.sizeOf a<n->S8 a b=true->a=b)/\∀a b:List V,SizeOf.sizeOf a<n->Ki a b=true->a=b:=by
 intro n
 induction n with
 | zero=>grind
 | succ n g=>
  refine⟨λa b e h=>?_,λa b e h=>?_⟩
  ·unfold S8 at h;split at h
   ·grind
   ·simp only[Aan,decide_eq_true_eq,L6] at h;rw[h.1,h.2]
   ·rw[GA,beq_iff_eq] at h;rw[h]
   ·rfl
   ·grind
   ·grind
   ·grind
   ·simp_all
   ·grind
   ·simp_all
   ·simp at e;simp only[Aan,Awc] at h;grind
   ·grind
   all_goals first|rfl|cases h
  ·unfold Ki at h;grind
def X6:List (V×V)->List (V×V)->Bool
 | [],[]=>true
 | a::x,b::y=>S8 a.1 b.1&&S8 a.2 b.2&&X6 x y
 | _,_=>false
theorem QV:∀{a b:List (V×V)},X6 a b=true->a=b
 | [],[],_=>rfl
 | a::x,b::y,h=>by simp only[X6,Aan] at h;rw[QV h.2,Prod.ext ((Jo _).1 _ _ (Ab3 _) h.1.1) ((Jo _).1 _ _ (Ab3 _) h.1.2)]
 | [],_::_,h=>by cases h
 | _::_,[],h=>by cases h
def Aci:Ax->Ax->Bool
 | .box a,.box b=>S8 a b
 | .tbox t a,.tbox t' b=>Nat.beq t t'&&S8 a b
 | .arr t s a,.arr t' g b=>Nat.beq t t'&&Nat.beq s g&&Ki a b
 | .map a,.map b=>X6 a b
 | .it l p,.it e p'=>OZ l e&&Nat.beq p p'
 | _,_=>false
theorem Y6{a b:Ax}(h:Aci a b=true):a=b:=by
 unfold Aci at h;split at h
 ·rw[(Jo _).1 _ _ (Ab3 _) h]
 ·simp only[Aan,Awc] at h;rw[h.1,(Jo _).1 _ _ (Ab3 _) h.2]
 ·simp only[Aan,Awc] at h;rw[h.1.1,h.1.2,(Jo _).2 _ _ (Ab3 _) h.2]
 ·rw[QV h]
 ·simp only[Aan,Awc] at h;rw[GA,beq_iff_eq] at h;rw[h.1,h.2]
 ·cases h
def Af5(σ τ:Al):Bool:=σ.all λp=>match lk σ p.1,lk τ p.1 with
 | some a,some b=>Aci a b
 | _,_=>false
theorem Z7{σ τ:Al}(h:Af5 σ τ=true):∀id e,lk σ id=some e->lk τ id=some e:=by
 intro id e g;have:=Alm.1 h _ (Kq g);simp only[g] at this;split at this
 ·rename_i a b i j;cases i;rw[j,Y6 this]
 ·cases this
def UN(C:AQ)(m:Nat)(σ:Al)(f:FuncId)(args:List V):Option V:=
 match r9 C f args (IS args σ) m with
 | some (v,σ1,_)=>chk ((Oa m v&&Af5 (IS args σ) σ1)&&sG f) (some v)
 | none=>none
theorem PR{C:AQ}(t:AX P W0 C){m:Nat}{σ:Al}{f:FuncId}{args:List V}{v:V}(h:UN C m σ f args=some v)(p:∀a∈args,AZ (Lt m) a)(y:Ck (Lt m) σ):(∃σi,An P W0 f args σi v σi/\∀id e,lk σi id=some e->lk σ id=some e)/\AZ (Lt m) v:=by
 unfold UN at h;split at h
 ·rename_i v1 σ1 z r;obtain⟨j,s⟩:=A5.1 h;cases s;simp only[Aan] at j;have o:=LI j.2;have j:=j.1;have q:=DS.1 v j.1;have g:=Mm args σ;have i:Ck (Lt m) (IS args σ):=λid e u=>y id e (g _ _ u);exact⟨⟨_,An.of_at o (Pu t _ _ _ _ _ _ _ r p i) p i (Z7 j.2) (λid w=>w) q i,g⟩,q⟩
 ·cases h
def yE(C:AQ)(ep:Nat)(d:Option Nat)(op:AG)(g:Nat->V)(σ:Al):Option (V×Al):=
 match op with
 | .call f xs=>(P2 C (ep+1) f (xs.map (ev g))).map λv=>(v,σ)
 | .calls f xs=>WM C (ep+1) σ f (xs.map (ev g))
 | .callv x xs=>match ev g x with
  | .fn f a c=>(P2 C (ep+1) f (a++xs.map (ev g)++c)).map λv=>(v,σ)
  | _=>none
 | .callvs x xs=>match ev g x with
  | .fn f a c=>WM C (ep+1) σ f (a++xs.map (ev g)++c)
  | _=>none
 | .calln f xs=>match d with
  | some e=>(Uj C (ep+1) σ f (xs.map (ev g))).map λr=>(.arr (ep,e),((ep,e),r.1)::over σ r.2 σ)
  | none=>none
 | .callr f xs=>(UN C (ep+1) σ f (xs.map (ev g))).map λv=>(v,σ)
 | op=>fE ep d op g σ
def apB(i:I)(g:Nat->V):Bool:=
 i.ap.isEmpty||i.ap.all λx=>i.op.cs.all λy=>match Ce (ev g x),Ce (ev g y) with
  | some a,some b=>!(a==b)
  | _,_=>true
def apQ(i:I):Bool:=i.op.cl&&!i.ap.isEmpty
def apK(i:I)(g:Nat->V)(σ τ:Al):Bool:=i.ap.all λx=>match Ce (ev g x) with
 | some id=>(match GY σ id with
  | some a=>(match GY τ id with
   | some b=>Aci a b
   | none=>false)
  | none=>true)
 | none=>true
def apE(i:I)(g:Nat->V)(σ:Al)(o:Option (V×Al)):Option (V×Al):=bif apQ i then(match o with
 | some (v,τ)=>chk (apK i g σ τ) (some (v,τ))
 | none=>none) else o
theorem aO{i:I}{g:Nat->V}(h:apB i g=true):bB i g:=by
 unfold apB at h;rw[AwE] at h;rcases h with h|h
 ·have p:i.ap=[]:=Aw4.1 h;exact λx e=>(by grind)
 ·intro x e y q id j o;grind
theorem bR{i:I}{g:Nat->V}{σ τ:Al}{o:Option (V×Al)}{v:V}(h:apE i g σ o=some (v,τ)):o=some (v,τ)/\K7 i g σ τ:=by
 unfold apE at h;cases e:apQ i with
 | false=>rw[e] at h;refine⟨h,λu x p=>?_⟩;unfold apQ at e;grind
 | true=>
  rw[e] at h;simp only[cond_true] at h;split at h
  ·rename_i v1 y;obtain⟨q,r⟩:=A5.1 h;cases r;refine⟨rfl,λ_ x p id j w=>?_⟩;have:=Alm.1 q x p;rw[j] at this;simp only[Bx] at this;split at this
   ·rename_i a s;split at this
    ·rename_i b t;rw[s,t,Y6 this]
    ·cases this
   grind
  ·cases h
def yop(C:AQ)(ep:Nat)(i:I)(env:AE)(σ:Al):Option (V×Al):=
 match NN env i.gd with
 | some true=>chk (apB i (get env)) (apE i (get env) σ (yE C ep i.dst i.op (get env) σ))
 | some false=>some (.tup [],σ)
 | none=>none
def AbD(C:AQ)(ep:Nat):List I->AE->Al->Option (AE×Al)
 | [],env,σ=>some (env,σ)
 | i::l,env,σ=>match yop C ep i env σ with
  | some (v,σ')=>AbD C ep l (put env i.dst v) σ'
  | none=>none
theorem sV{C:AQ}(B:AX P W0 C){ep:Nat}{i:I}{env:AE}{σ σ':Al}{v:V}(h:yE C ep i.dst i.op (get env) σ=some (v,σ'))(D:i.cl=true)(T:BC (Lt (ep+1)) env)(r:Ck (Lt (ep+1)) σ) :
  E P W0 ep i.dst i.op (get env) σ v σ'/\AZ (Lt (ep+1)) v/\Ck (Lt (ep+1)) σ':=by
 have A:=I.cl_xs (S:=Lt (ep+1)) D T;have Y:=I.cl_zs (S:=Lt (ep+1)) D;have N:Ck (Lt (ep+1)) []:=Ck.nil;have s:i.op.isC=false->fE ep i.dst i.op (get env) σ=some (v,σ')->E P W0 ep i.dst i.op (get env) σ v σ'/\AZ (Lt (ep+1)) v/\Ck (Lt (ep+1)) σ':=by intro R h;have M:=MV (P:=P) (W0:=W0) h;exact⟨M,Ai7 R (λH _=>Ab3 _) A Y r M⟩
 have g:∀{x:X} {xs:List X} {f:FuncId} {a c:List V},ev (get env) x=.fn f a c->(∀y∈x::xs,AZ (Lt (ep+1)) (ev (get env) y))->∀w∈a++xs.map (ev (get env))++c,AZ (Lt (ep+1)) w:=by
  intro x xs f a c u W w z;have J:=W x (by simp);rw[u] at J;simp only[AvS,Ajn] at z;rcases z with z|z|z
  ·exact J.fn_inv.1 w z
  ·grind
  ·exact J.fn_inv.2 w z
 generalize U:i.op=Z at *;have G:∀id e,lk σ id=some e->lk σ id=some e:=λ_ _ h=>h;cases Z with
 | call f xs=>obtain⟨v1,t,q⟩:=AdW.1 h;cases q;obtain⟨j,o⟩:=JK B t (ED A);exact⟨⟨j,rfl⟩,o,r⟩
 | calls f xs=>obtain⟨j,o,p⟩:=KZ B h (ED A) r;exact⟨j,o,p⟩
 | callv x xs=>
  simp only[yE] at h;split at h
  ·rename_i f a c u;obtain⟨v1,t,q⟩:=AdW.1 h;cases q;obtain⟨j,o⟩:=JK B t (g u A);exact⟨⟨f,a,c,u,j,rfl⟩,o,r⟩
  ·cases h
 | callvs x xs=>
  simp only[yE] at h;split at h
  ·rename_i f a c u;obtain⟨⟨σi,σo,j,q,O⟩,o,p⟩:=KZ B h (g u A) r;exact⟨⟨f,a,c,σi,σo,u,j,q,O⟩,o,p⟩
  ·cases h
 | calln f xs=>
  simp only[yE] at h;split at h
  ·rename_i H L;obtain⟨⟨x1,τ⟩,t,q⟩:=AdW.1 h;cases q;obtain⟨j,o,p⟩:=PF B t (ED A) r;have F:Lt (ep+1) (ep,H):=Ab3 _;exact⟨⟨H,σ,τ,x1,L,j,G,rfl,rfl⟩,.arr _ F,(r.over p).cons F o⟩
  ·cases h
 | callr f xs=>obtain⟨v1,t,q⟩:=AdW.1 h;cases q;obtain⟨j,o⟩:=PR B t (ED A) r;exact⟨⟨j,rfl⟩,o,r⟩
 | callw x xs=>cases h
 | _=>exact s rfl h
theorem Mp{C:AQ}(D:AX P W0 C){ep:Nat}:∀{l:List I} {env:AE} {σ:Al} {env':AE} {σ':Al},AbD C ep l env σ=some (env',σ')->(∀i∈l,i.cl=true)->BC (Lt (ep+1)) env->Ck (Lt (ep+1)) σ->
  (∀K:AE->Al->Prop,K env' σ'->Aw P W0 ep l env σ K)/\BC (Lt (ep+1)) env'/\Ck (Lt (ep+1)) σ'
 | [],env,σ,env',σ',h,_,u,w=>by cases h;exact⟨λK h=>h,u,w⟩
 | i::l,env,σ,env',σ',h,r,u,w=>by
  rw[AbD] at h;split at h
  ·rename_i v τ p;have one:(∀K:AE->Al->Prop,K (put env i.dst v) τ->Cx P W0 ep i env σ K)/\AZ (Lt (ep+1)) v/\Ck (Lt (ep+1)) τ:=by
    unfold yop at p;split at p
    ·rename_i e;obtain⟨L,y⟩:=A5.1 p;obtain⟨y,o⟩:=bR y;obtain⟨E,O,B⟩:=sV D y (r i (by simp)) u w;refine⟨λK q=>?_,O,B⟩;have g:bB i (get env)/\K7 i (get env) σ τ:=⟨aO L,o⟩
     unfold Cx;unfold NN at e;cases z:i.gd with
     | none=>exact⟨v,τ,⟨E,g.1,g.2⟩,q⟩
     | some sw=>
      obtain⟨s,F⟩:=sw;rw[z] at e;simp only at e⊢;split at e
      ·rename_i t N;simp only[AkA,beq_iff_eq] at e;rw[N];exact⟨λ_=>⟨v,τ,⟨E,g.1,g.2⟩,q⟩,λA=>absurd e A⟩
      ·cases e
      ·cases e
    ·rename_i e;cases p;refine⟨λK q=>?_,.tup _ (by simp),w⟩;unfold Cx;unfold NN at e;grind
    ·cases p
   obtain⟨G,H,J⟩:=Mp D h (λj M=>r j (by simp[M])) (u.put one.2.1) one.2.2;exact⟨λK q=>one.1 _ (G K q),H,J⟩
  ·cases h
theorem Ago{C:AQ}(w:AX P W0 C){ep:Nat}{i:I}{env:AE}{σ:Al}{n:Nat}{v:V}{τ:Al}{o:Nat}(g:xop C ep i env σ n=some (v,τ,o))(h:i.cl=true)(q:ep<n)(t:BC (Lt n) env)(s:Ck (Lt n) σ):n<=o/\AZ (Lt o) v/\Ck (Lt o) τ:=by
 unfold xop at g;split at g
 ·split at g
  ·rename_i f args e;have p:=w _ _ _ _ _ _ _ g (OJ e h t) s;exact⟨p.le,p.vin,p.sin⟩
  ·rename_i e;obtain⟨⟨v1,z⟩,j,u⟩:=AdW.1 g;cases u;have y:=MV (P:=P) (W0:=W0) j;have r:i.op.isC=false:=Aft j;have:=Ai7 (S:=Lt n) r (λA _=>q) (I.cl_xs h t) (I.cl_zs h) s y;grind
 ·cases g;exact⟨Abm _,.tup _ (by simp),s⟩
 ·cases g
theorem Y1{C:AQ}(p:AX P W0 C){ep:Nat}:∀{l:List I} {env:AE} {σ:Al} {n:Nat} {env':AE} {σ':Al} {n':Nat},Tn C ep l env σ n=some (env',σ',n')->(∀i∈l,i.cl=true)->ep<n->BC (Lt n) env->Ck (Lt n) σ->
  n<=n'/\BC (Lt n') env'/\Ck (Lt n') σ'
 | [],env,σ,n,env',σ',n',h,_,_,o,q=>by cases h;grind
 | i::l,env,σ,n,env',σ',n',h,e,g,o,q=>by
  rw[Tn] at h;split at h
  ·rename_i v τ y r;have one:=Ago p r (e i (by simp)) g o q;obtain⟨t,u,w⟩:=Y1 p h (λj s=>e j (by simp[s])) (AmR g one.1) ((o.mono (Lt.mono one.1)).put one.2.1) one.2.2;grind
  ·cases h
abbrev XB:=IC->St->Option (Exit×St)
def dQ(C:AQ):IC->St->Option (Exit×St)
 | .seqr l live,st=>match Tn C st.n l st.env st.σ (st.n+1) with
  | some (env,σ,n)=>some (.normal,⟨restrict live env,σ,n⟩)
  | none=>none
 | .ops l live _,st=>match AbD C st.n l st.env st.σ with
  | some (env,σ)=>some (.normal,⟨restrict live env,σ,st.n+1⟩)
  | none=>none
 | _,_=>none
def Am0:V->Option Id
 | .arr id=>some id
 | .agg cs=>cs.findSome? λc=>match c with
  | .arr id=>some id
  | _=>none
 | _=>none
def AkR:AG->List X
 | .call _ xs|.calls _ xs|.calln _ xs|.callr _ xs=>xs
 | _=>[]
def Aeh(i:I)(env:AE):Option Id:=
 match(AkR i.op).findSome? λx=>Am0 (ev (get env) x) with
 | some id=>some id
 | none=>
 let x:=match i.op with
  | .slL x _ _ _=>some x
  | .pu _ (x::_)=>some x
  | .app x _ _ _=>some x
  | _=>none
 match x with
 | some x=>match ev (get env) x with
  | .arr id=>some id
  | _=>none
 | none=>none
def AeV(C:AQ)(ep:Nat):List I->AE->Al->Nat->Option Id
 | [],_,_,_=>none
 | i::l,env,σ,n=>match xop C ep i env σ n with
  | some (v,σ',n')=>AeV C ep l (put env i.dst v) σ' n'
  | none=>Aeh i env
def Ad1(C:AQ)(ep:Nat):List I->AE->Al->Option Id
 | [],_,_=>none
 | i::l,env,σ=>match yop C ep i env σ with
  | some (v,σ')=>Ad1 C ep l (put env i.dst v) σ'
  | none=>Aeh i env
def AqL(C:AQ):IC->St->Option Id
 | .seqr l _,st=>AeV C st.n l st.env st.σ (st.n+1)
 | .ops l _ _,st=>Ad1 C st.n l st.env st.σ
 | _,_=>none
def RG(C:AQ):Nat->IC->St->Option (Exit×St)
 | 0,ic,st=>dQ C ic st
 | k+1,ic,st=>match dQ C ic st with
  | some r=>some r
  | none=>match AqL C ic st with
   | some id=>match mH id st with
    | some e=>RG C k ic e
    | none=>none
   | none=>none
def DM(C:AQ)(L:XB):IC->St->Option (Exit×St)
 | .seqr l live,st=>RG C 3 (.seqr l live) st
 | .ops l live p,st=>RG C 3 (.ops l live p) st
 | .seq a b,st=>match DM C L a st with
  | some (.normal,s)=>DM C L b s
  | r=>r
 | .cond c a b,st=>match ev (get st.env) c with
  | .b true=>DM C L a st
  | .b false=>DM C L b st
  | _=>none
 | .block id a,st=>match DM C L a st with
  | some (.exit e,s)=>if e=id then some (.normal,s) else some (.exit e,s)
  | r=>r
 | .loop c,st=>L (.loop c) st
 | .rfn g ps a b h live,st=>L (.rfn g ps a b h live) st
 | .wk c,st=>DM C L c st
 | .exit id,st=>some (.exit id,st)
 | .ret,st=>some (.ret,st)
 | .skip,st=>some (.normal,st)
 | _,_=>none
def XS(P:Program)(W0:World)(nt:Nat)(r:Bool)(ic:IC)(st:St)(e:Exit)(g:St):Prop:=
 BC (Lt st.n) st.env->Ck (Lt st.n) st.σ->(st.n<=g.n/\BC (Lt g.n) g.env/\Ck (Lt g.n) g.σ)/\Ow P W0 nt r ic (λe' s=>e'=e/\s=g) st
def T1(P:Program)(W0:World)(nt:Nat)(r:Bool)(L:XB):Prop:=∀ic st e g,ic.cl=true->(r=true\/ic.nr=true)->L ic st=some (e,g)->XS P W0 nt r ic st e g
theorem Ni{C:AQ}(s:AX P W0 C){nt:Nat}{r:Bool}:∀{ic:IC} {st:St} {e:Exit} {g:St},ic.cl=true->dQ C ic st=some (e,g)->XS P W0 nt r ic st e g
 | .seqr l live,st,e,g,j,h=>by
  intro t w;rw[dQ] at h;split at h
  ·rename_i env σ n z;cases h;have o:∀i∈l,i.cl=true:=λi u=>Alm.1 j i u;obtain⟨y,p,q⟩:=Y1 s z o (Ab3 _) (t.mono (Lt.mono (AmL _))) (w.mono (Lt.mono (AmL _)));exact⟨⟨by simp only;omega,p.restrict _,q⟩,eE s j z ⟨rfl,rfl⟩⟩
  ·cases h
 | .ops l live paths,st,e,g,j,h=>by
  intro t w;rw[dQ] at h;split at h
  ·rename_i env σ B;cases h;have o:∀i∈l,i.cl=true:=λi u=>Alm.1 j i u;obtain⟨y,p,q⟩:=Mp s B o (t.mono (Lt.mono (AmL _))) (w.mono (Lt.mono (AmL _)));refine⟨⟨AmL _,p.restrict _,q⟩,Aav (env':=restrict live env) (σ':=σ) (m:=st.n+1) (S4 (y _ λn' A=>⟨rfl,n',rfl⟩)) (AmL _) (λ_ _=>⟨p.restrict _,q⟩) ⟨rfl,rfl⟩⟩
  ·cases h
 | .opxe ..,st,e,g,j,h=>by cases h
 | .anyr ..,st,e,g,j,h=>by cases h
 | .seq ..,st,e,g,j,h=>by cases h
 | .cond ..,st,e,g,j,h=>by cases h
 | .block ..,st,e,g,j,h=>by cases h
 | .loop ..,st,e,g,j,h=>by cases h
 | .wk ..,st,e,g,j,h=>by cases h
 | .exit ..,st,e,g,j,h=>by cases h
 | .ret,st,e,g,j,h=>by cases h
 | .skip,st,e,g,j,h=>by cases h
 | .mnext ..,st,e,g,j,h=>by cases h
 | .opx ..,st,e,g,j,h=>by cases h
 | .opxq ..,st,e,g,j,h=>by cases h
 | .opxd ..,st,e,g,j,h=>by cases h
 | .opxv ..,st,e,g,j,h=>by cases h
 | .scope ..,st,e,g,j,h=>by cases h
 | .rfn ..,st,e,g,j,h=>by cases h
theorem Hk{C:AQ}(o:AX P W0 C){nt:Nat}{r:Bool}{ic:IC}(q:ic.cl=true):∀(k:Nat) {st:St} {e:Exit} {g:St},RG C k ic st=some (e,g)->XS P W0 nt r ic st e g
 | 0,st,e,g,h=>Ni o q h
 | k+1,st,e,g,h=>by
  rw[RG] at h;split at h
  ·rename_i r H;cases h;exact Ni o q H
  ·split at h
   ·split at h
    ·rename_i L G;obtain⟨t,A,s⟩:=nQ (W0:=W0) (nt:=nt) G;intro F J;have D:=Hk (nt:=nt) (r:=r) o q k h;obtain⟨u,y⟩:=s _ F J;rw[<-A] at u y;obtain⟨z,E⟩:=D u y;rw[A] at z;exact⟨z,λj i B a w hB p=>E j i B a w hB (t B a w p)⟩
    ·cases h
   ·cases h
theorem Bb{C:AQ}(y:AX P W0 C){L:XB}{nt:Nat}{r:Bool}(z:T1 P W0 nt r L):∀{ic:IC} {st:St} {e:Exit} {i:St},ic.cl=true->(r=true\/ic.nr=true)->DM C L ic st=some (e,i)->XS P W0 nt r ic st e i
 | .seqr l live,st,e,i,j,_,h=>Hk y j 3 h
 | .ops l live p,st,e,i,j,_,h=>Hk y j 3 h
 | .opxe ..,st,e,i,j,_,h=>by cases h
 | .anyr ..,st,e,i,j,_,h=>by cases h
 | .seq a b,st,e,i,j,o,h=>by
  intro q t;simp only[IC.cl,Aan] at j;simp only[IC.nr,Aan] at o;have A:=o.imp id And.left;have D:=o.imp id And.right;rw[DM] at h;split at h
  ·rename_i s F;obtain⟨⟨u,M,N⟩,w⟩:=Bb y z j.1 A F q t;obtain⟨⟨O,R,S⟩,W⟩:=Bb y z j.2 D h M N;refine⟨⟨All u O,R,S⟩,VA (Gn w λe' E B=>?_)⟩;grind
  ·rename_i T;obtain⟨u,w⟩:=Bb y z j.1 A h q t;refine⟨u,VA (Gn w λe' E B=>?_)⟩;simp_all
 | .cond c a b,st,e,i,j,o,h=>by
  intro q t;simp only[IC.cl,Aan] at j;simp only[IC.nr,Aan] at o;have A:=o.imp id And.left;have D:=o.imp id And.right;rw[DM] at h;split at h
  ·rename_i H;obtain⟨u,w⟩:=Bb y z j.1 A h q t;exact⟨u,SE H w⟩
  ·rename_i H;obtain⟨u,w⟩:=Bb y z j.2 D h q t;exact⟨u,SE H w⟩
  ·cases h
 | .block id a,st,e,i,j,o,h=>by
  intro q t;rw[DM] at h;split at h
  ·rename_i J s F;obtain⟨u,w⟩:=Bb y z (ic:=a) j o F q t;split at h
   ·rename_i G;cases h;refine⟨u,K6 (Gn w λe' E B=>?_)⟩;obtain⟨rfl,rfl⟩:=B;simp only[D7];grind
   ·rename_i G;cases h;refine⟨u,K6 (Gn w λe' E B=>?_)⟩;obtain⟨rfl,rfl⟩:=B;simp only[D7];grind
  ·rename_i T;obtain⟨u,w⟩:=Bb y z (ic:=a) j o h q t;refine⟨u,K6 (Gn w λe' E B=>?_)⟩;obtain⟨rfl,rfl⟩:=B;cases e' with
   | exit J=>grind
   | _=>exact⟨rfl,rfl⟩
 | .loop c,st,e,i,j,o,h=>z _ st e i j o h
 | .wk c,st,e,i,j,o,h=>by intro q t;obtain⟨u,w⟩:=Bb y z (ic:=c) j o h q t;exact⟨u,Agl w⟩
 | .exit id,st,e,i,j,o,h=>by intro q t;cases h;exact⟨⟨Abm _,q,t⟩,qJ ⟨rfl,rfl⟩⟩
 | .ret,st,e,i,j,o,h=>by intro q t;cases h;exact⟨⟨Abm _,q,t⟩,AbJ ⟨rfl,rfl⟩⟩
 | .skip,st,e,i,j,o,h=>by intro q t;cases h;exact⟨⟨Abm _,q,t⟩,dR ⟨rfl,rfl⟩⟩
 | .mnext ..,st,e,i,j,o,h=>by cases h
 | .opx ..,st,e,i,j,o,h=>by cases h
 | .opxq ..,st,e,i,j,o,h=>by cases h
 | .opxd ..,st,e,i,j,o,h=>by cases h
 | .opxv ..,st,e,i,j,o,h=>by cases h
 | .scope ..,st,e,i,j,o,h=>by cases h
 | .rfn g ps a b U live,st,e,i,j,o,h=>z _ st e i j o h
end
end
end Go.Ir
end
section
namespace Go.Ir
open Go.RowKit
noncomputable section
variable[FW]
def AiD(C:AQ)(nt:Nat)(g:X)(ps:List Nat)(a b:IC)(h live:List Nat)(st:St):Option (Exit×St):=
 match ev (get st.env) g with
 | .fn f first e=>match xS f (first++[.arr (st.n,0)]++e) with
  | some (f,args)=>match C f args (((st.n,0),.loop nt (restrict h st.env) ps a b .ready none)::st.σ) (st.n+1) with
   | some (_,σ',n')=>match GY σ' (st.n,0) with
    | some (.loop _ _ _ _ _ s i)=>bif K3 s then none else some (eY i,⟨restrict live st.env,YM σ' (st.n,0),n'⟩)
    | _=>none
   | none=>none
  | none=>none
 | _=>none
section
variable{P:Program}{W0:World}{nt:Nat}
theorem Ux{C:AQ}(hC:AX P W0 C)(hP:GV P){g:X}{ps:List Nat}{a b:IC}{E live:List Nat}{st:St}{e:Exit}{p:St}(Z:(IC.rfn g ps a b E live).cl=true)(h:AiD C nt g ps a b E live st=some (e,p)):XS P W0 nt true (.rfn g ps a b E live) st e p:=by
 intro O hs;unfold AiD at h;split at h
 ·rename_i f0 first D hg
  split at h
  ·rename_i f args N;split at h
   ·rename_i v σ' n' y;split at h
    ·rename_i al W am a1 b1 s pd J;rw[Bx] at J;cases u:K3 s with
     | true=>rw[u] at h;cases h
     | false=>
     rw[u] at h;simp only[cond_false,AkA,Axb] at h;obtain⟨rfl,rfl⟩:=h;rw[Qj];obtain⟨rfl,i,q⟩:=Hw N;simp only[IC.cl,Aan] at Z;have F:AZ (Lt st.n) (.fn f0 first D):=by rw[<-hg];exact X.cl_in Z.1.1 O
     have r:Lt (st.n+1) (st.n,0):=Ab3 _;have S:Ck (Lt (st.n+1)) (((st.n,0),Ax.loop nt (restrict E st.env) ps a b .ready none)::st.σ):=
      (hs.mono (Lt.mono (AmL _))).cons r (.loop _ _ _ _ _ _ _ ((O.restrict E).mono (Lt.mono (AmL _))) (by grind))
     have L:∀x∈args,AZ (Lt (st.n+1)) x:=by
      rw[<-i];intro x o;simp only[AvS,Ajn,ArF] at o;rcases o with o|rfl|o
      ·exact(F.fn_inv.1 x o).mono (Lt.mono (AmL _))
      ·exact .arr _ r
      ·exact(F.fn_inv.2 x o).mono (Lt.mono (AmL _))
     have A:=hC _ _ _ _ _ _ _ y L S;have G:st.n<=n':=Nat.le_of_succ_le A.le;have Y:=(O.restrict live).mono (Lt.mono G);refine⟨⟨G,Y,A.sin.del _⟩,λU z B ad w hB M=>?_⟩;refine Bc (QP (Q:=λe s=>e=eY pd/\s=⟨restrict live st.env,del σ' (st.n,0),n'⟩) hP hg (A.callable q) (λw μ H vals hp hv=>?_) z (hB rfl) M.1) λe a' w' ⟨B',o,p,⟨h1,h2⟩,ha⟩=>⟨B',o.1,p,⟨h1,h2⟩,ha,by rw[h2];exact Y,by rw[h2];exact A.sin.del _,o.2⟩
     have t:=A.run w μ H vals hp (by rw[<-i];exact hv);rw[Cp q] at t;refine AtR t ?_;rintro e w' ⟨val,T,H',rfl,ak,R,hf,j⟩;exact⟨val,T,H',n',σ',rfl,⟨_,_,_,_,_,s,pd,J,u,rfl,rfl⟩,R,A.le,hf,j⟩
    ·cases h
   ·cases h
  ·cases h
 ·cases h
end
end
end Go.Ir
end
section
namespace Go.Ir
open Go.RowKit
noncomputable section
variable[FW]
def Sub(σ' σ:Al):Prop:=∀id e,lk σ' id=some e->lk σ id=some e
theorem Tg.sub{W0:World}{nt:Nat}{B:Iq}{env:AE}{σ σ':Al}{n:Nat}{a:Act}{w:World}(h:Tg W0 nt B ⟨env,σ,n⟩ a w)(q:Sub σ' σ):Tg W0 nt B ⟨env,σ',n⟩ a w:=by obtain⟨⟨μ,H,A,hp,i,j,y,o⟩,u,r,t⟩:=h;refine⟨⟨μ,H,A,hp.part q,⟨i.mu,i.hp,i.size,i.keep,i.pin,λs g z=>i.dom s g ?_⟩,j,y,o⟩,u,λid e p=>r id e (q _ _ p),t⟩;obtain⟨id,e,p,g⟩:=z;exact⟨id,e,q _ _ p,g⟩
def Aea(n0:Nat)(σ:Al):List Id:=List.rec (motive:=λ_=>List Id) [] (λp _ e=>Bool.rec (motive:=λ_=>List Id) e (p.1::e) (Nat.blt p.1.1 n0)) σ
def Apb(n0:Nat)(σ:Al):Nat:=List.rec (motive:=λ_=>Nat) 0 (λp _ e=>Bool.rec (motive:=λ_=>Nat) (Nat.succ e) e (Nat.blt p.1.1 n0)) σ
def gcS(n0:Nat)(e:List V)(σ:Al):Al:=
 Bool.rec (motive:=λ_=>Al) (Mn (T7 σ 100000 (WJ e (Aea n0 σ)) []) σ) σ (Nat.ble (Apb n0 σ) 12)
theorem JG(n0:Nat)(g:List V)(σ:Al):Sub (gcS n0 g σ) σ:=by
 intro id e h;unfold gcS at h;cases i:Nat.ble (Apb n0 σ) 12 with
 | true=>rw[i] at h;exact h
 | false=>rw[i] at h;have h:lk (Mn (T7 σ 100000 (WJ g (Aea n0 σ)) []) σ) id=some e:=h;unfold Mn at h;rw[LA] at h;grind
def TP(n0:Nat)(st:St):St:=⟨st.env,gcS n0 (st.env.map (·.2)) st.σ,st.n⟩
section
variable{P:Program}{W0:World}
def F5(C:AQ)(nt n0:Nat):Nat->XB
 | 0=>λ_ _=>none
 | k+1=>λic st=>match ic with
  | .loop c=>match DM C (F5 C nt n0 k) c st with
   | some (.normal,s)=>F5 C nt n0 k (.loop c) (TP n0 s)
   | r=>r
  | .rfn g ps a b e live=>AiD C nt g ps a b e live st
  | _=>none
theorem Hy{C:AQ}(A:AX P W0 C)(hP:GV P){nt n0:Nat}{r:Bool}:∀k,T1 P W0 nt r (F5 C nt n0 k):=by
 intro k
 induction k using Nat.strongRecOn with
 | _ k W=>
 cases k with
 | zero=>intro c st e i _ _ h;cases h
 | succ k=>
  have U:=W k (Ab3 _);intro ic st e i q j h;cases ic with
  | rfn g ps a b en live=>
   have hr:r=true:=by
    rcases j with t|t
    ·exact t
    ·cases t
   subst hr;exact Ux A hP q h
  | loop c=>
   have q:c.cl=true:=q;have j:r=true\/c.nr=true:=j;intro N S;have o:(match DM C (F5 C nt n0 k) c st with
    | some (.normal,s)=>F5 C nt n0 k (.loop c) (TP n0 s)
    | r=>r)=some (e,i):=h
   have names:∀s,DM C (F5 C nt n0 k) c st=some (.normal,s)->XS P W0 nt r c st .normal s:=λs p=>Bb A U q j p;have O:st.n<=i.n/\BC (Lt i.n) i.env/\Ck (Lt i.n) i.σ:=by
    split at o
    ·rename_i s p;obtain⟨⟨t,Y,G⟩,_⟩:=names s p N S;have H:Ck (Lt s.n) (TP n0 s).σ:=λid e R=>G id e (JG _ _ _ _ _ R);obtain⟨⟨J,z,h6⟩,_⟩:=U (.loop c) (TP n0 s) e i q j o Y H;exact⟨All t J,z,h6⟩
    ·exact(Bb A U q j o N S).1
   refine⟨O,?_⟩;refine lP (Inv:=λm s=>m<=k+1/\F5 C nt n0 m (.loop c) s=some (e,i)/\BC (Lt s.n) s.env/\Ck (Lt s.n) s.σ) (λm s hI=>?_) (k+1) ⟨Abm _,h,N,S⟩;obtain⟨hm,p,D,E⟩:=hI;cases m with
   | zero=>cases p
   | succ m=>
    have p:(match DM C (F5 C nt n0 m) c s with
     | some (.normal,s)=>F5 C nt n0 m (.loop c) (TP n0 s)
     | r=>r)=some (e,i):=p
    have F:T1 P W0 nt r (F5 C nt n0 m):=W m (by omega);split at p
    ·rename_i s1 t;obtain⟨⟨Y,G,J⟩,z⟩:=Bb A F q j t D E;have L:Ck (Lt s1.n) (TP n0 s1).σ:=λid e R=>J id e (JG _ _ _ _ _ R);intro y u B a w hB M;refine Bc (z y u B a w hB M) λe' a w Z=>?_;obtain⟨B',T,s2,⟨rfl,rfl⟩,ha⟩:=Z;exact⟨B',T,TP n0 s2,⟨m,Ab3 _,by omega,p,G,L⟩,Tg.sub ha (JG _ _ _)⟩
    ·rename_i hr;obtain⟨_,z⟩:=Bb A F q j p D E;refine Gn z λe' s' Z=>?_;simp_all
  | _=>cases h
theorem M6{S:Id->Prop}:∀{ps:List Nat} {vs:List V} {env:AE},(∀v∈vs,AZ S v)->BC S env->BC S (Ix ps vs env)
 | [],_,_,_,e=>e
 | _::_,[],_,_,e=>e
 | p::ps,v::vs,env,g,e=>M6 (ps:=ps) (λx h=>g x (by simp[h])) (e.put (d:=some p) (g v (by simp)))
def Acm(C:AQ)(K:Nat)(args:List V)(σ:Al)(n:Nat):Option (V×Al×Nat):=match args with
 | .arr id::vs=>match GY σ id with
  | some (.loop nt env ps a b .ready D)=>bif Nat.beq vs.length ps.length&&ps.all (λp=>Nat.blt p nt) then(match DM C (F5 C nt n K) a ⟨Ix ps vs env,σ,n⟩ with
   | some (.normal,j)=>(match GY j.σ id with
    | some (.loop o h s w y .ready r)=>(match DM C (F5 C nt n K) b ⟨j.env,ZE j.σ id (.loop o h s w y .busy r),j.n⟩ with
     | some (e,u)=>(match pdX e with
      | some g=>(match GY u.σ id with
       | some (.loop q i t a2 z B A)=>some (.b g.isNone,gcS n [] (ZE u.σ id (.loop q i t a2 z (bif g.isNone then .ready else .done) g)),u.n)
       | _=>none)
      | none=>none)
     | none=>none)
    | _=>none)
   | _=>none) else none
  | _=>none
 | _=>none
theorem Abp{C:AQ}(hC:AX P W0 C)(hP:GV P){K:Nat}{args:List V}{σ σ':Al}{n n':Nat}{v:V}(h:Acm C K args σ n=some (v,σ',n'))(ha:∀a∈args,AZ (Lt n) a)(hs:Ck (Lt n) σ):F2 P W0 HR args σ n v σ' n':=by
 unfold Acm at h;split at h
 ·rename_i id vs;split at h
  ·rename_i nt env ps a b pd L;rw[Bx] at L;cases T:(Nat.beq vs.length ps.length&&ps.all λp=>Nat.blt p nt) with
   | false=>rw[T] at h;cases h
   | true=>
   rw[T] at h;simp only[cond_true] at h;rw[Aan,Awc] at T;split at h
   ·rename_i s1 ay;split at h
    ·rename_i ad A af a1 b1 ae u;rw[Bx] at u;split at h
     ·rename_i e G ab;split at h
      ·rename_i g aw;split at h
       ·rename_i s i t a2 O aC az y;rw[Bx] at y;cases h;rw[L7] at ab⊢;obtain⟨D,q⟩:=(hs _ _ L).2.loop_inv;simp only[Aan] at q;have aa:∀x∈vs,AZ (Lt n) x:=λx hx=>ha x (by simp[hx]);have am:=Bb (nt:=nt) (r:=false) hC (Hy hC hP K) q.1.1 (.inr q.2.1) ay;obtain⟨⟨q1,q2,q3⟩,q4⟩:=am (M6 aa D) hs;have ag:Ck (Lt s1.n) (upd s1.σ id (.loop ad A af a1 b1 .busy ae)):=q3.upd u (by obtain⟨h1,M⟩:=(q3 _ _ u).2.loop_inv;exact .loop _ _ _ _ _ _ _ h1 M);have an:=Bb (nt:=nt) (r:=false) hC (Hy hC hP K) q.1.2 (.inr q.2.2) ab;obtain⟨⟨q5,q6,q7⟩,q8⟩:=an q2 ag;have aA:Ck (Lt G.n) (upd G.σ id (.loop s i t a2 O (bif g.isNone then .ready else .done) g)):=q7.upd y (by obtain⟨h1,M⟩:=(q7 _ _ y).2.loop_inv;exact .loop _ _ _ _ _ _ _ h1 M);have E:=JG n [] (upd G.σ id (.loop s i t a2 O (bif g.isNone then .ready else .done) g));simp only at q1 q5;refine⟨λh=>absurd rfl h,All q1 q5,.b _,λj x hj=>aA j x (E _ _ hj),λw μ H vals hp J=>?_⟩;refine Fb.mono (f:=HR) (R:=λe w'=>∃val z H' n' vv σ',e=.returned val/\(n'=G.n/\vv=.b g.isNone/\σ'=gcS n [] (upd G.σ id (.loop s i t a2 O (bif g.isNone then .ready else .done) g)))/\Ap z H' vv val/\Hp W0 σ' n' z H' w'/\n<=n'/\Fr μ H σ w z H' σ' w'/\∀id,id.1<n->μ id=none->z id=none) ?_ ?_
        ·unfold Fb;rw[if_pos rfl];refine MD (R:=λ_ n' vv σ'=>n'=G.n/\vv=.b g.isNone/\σ'=gcS n [] (upd G.σ id (.loop s i t a2 O (bif g.isNone then .ready else .done) g))) hp J L T.1 T.2 λl ca cb ap aq aK ao=>?_;refine Bc (q4 ca ((hP _ _ _).1 ap) _ _ _ (λh=>by cases h) ⟨ao,M6 aa D,hs,λid av=>hp.bd id av⟩) λe1 N w1 ar=>?_;obtain⟨B1,F,aS,⟨U,Y⟩,o⟩:=ar;rw[Y] at o;refine⟨U,B1,s1,ad,A,af,a1,b1,ae,F,o.1,u,λw2 S=>?_⟩;have M:=q8 cb ((hP _ _ _).1 aq) B1 N w2 (λh=>by cases h) ⟨S,q2,ag,o.2.2.2⟩;rw[F.ro] at M;refine Bc M λe2 aF w3 au=>?_;obtain⟨B2,ac,aT,⟨W,Z⟩,B⟩:=au;rw[Z] at B;rw[W];exact⟨B2,G,g,s,i,t,a2,O,aC,az,_,xB aw,ac,B.1,y,E,rfl,rfl,rfl⟩
        grind
       ·cases h
      ·cases h
     ·cases h
    ·cases h
   ·cases h
  ·cases h
 ·cases h
def Ahw(env:AE)(σ:Al):R->Option V
 | .t s=>some (get env s)
 | .c s n g=>match get env s with
  | .ref id e=>match GY σ id with
   | some (.box u)=>sub u e n g
   | _=>none
  | _=>none
def Vn(env:AE)(σ:Al):List R->Option (List V)
 | []=>some []
 | r::e=>match Ahw env σ r with
  | some v=>match Vn env σ e with
   | some vs=>some (v::vs)
   | none=>none
  | none=>none
theorem AcX{S:Id->Prop}{st:St}{r:R}{v:V}(h:Ahw st.env st.σ r=some v)(i:BC S st.env)(o:Ck S st.σ):Nf st r v/\AZ S v:=by
 cases r with
 | t s=>cases h;exact⟨rfl,i s⟩
 | c s n p=>
  simp only[Ahw] at h;split at h
  ·rename_i id g j;split at h
   ·rename_i u e;rw[Bx] at e;exact⟨⟨id,g,u,j,e,h⟩,IK h (o _ _ e).2.box_inv⟩
   ·cases h
  ·cases h
theorem RF{S:Id->Prop}{st:St}(g:BC S st.env)(i:Ck S st.σ):∀{e:List R} {vs:List V},Vn st.env st.σ e=some vs->D8 st e vs/\∀v∈vs,AZ S v
 | [],vs,h=>by cases h;exact⟨trivial,λv s=>by cases s⟩
 | r::e,vs,h=>by
  rw[Vn] at h;split at h
  ·rename_i v j;split at h
   ·rename_i t o;cases h;obtain⟨p,u⟩:=AcX j g i;obtain⟨q,w⟩:=RF g i o;exact⟨⟨p,q⟩,λx y=>by grind
⟩
   ·cases h
  ·cases h
theorem Ab2{S:Id->Prop}{vs:List V}(h:∀v∈vs,AZ S v):AZ S (Ml vs):=by
 unfold Ml;split
 ·exact h _ (by simp)
 ·exact .tup _ h
structure E6 where
 nt:Nat
 ic:IC
 rs:List R
def AaF(F:E6)(n:Nat)(st:St):Option (V×Al×Nat):=
 match Vn st.env st.σ F.rs with
 | some vs=>some (Ml vs,gcS n [Ml vs] st.σ,st.n)
 | none=>none
def xfn(C:AQ)(k:Nat)(F:E6)(args:List V)(σ:Al)(n:Nat):Option (V×Al×Nat):=
 bif Nat.ble args.length F.nt then(match DM C (F5 C F.nt n k) F.ic ⟨params 0 args,σ,n⟩ with
  | some (.ret,st)=>AaF F n st
  | some (.normal,st)=>AaF F n st
  | _=>none) else none
def Iy(P:Program)(T:FuncId->Option E6):Prop:=∀f F,T f=some F->Au P f F.nt F.ic F.rs=true/\F.ic.cl=true
def MB(T:FuncId->Option E6)(B:AQ)(K:Nat):Nat->AQ
 | 0=>λ_ _ _ _=>none
 | k+1=>λf args σ n=>bif Nat.beq f HR then Acm (MB T B K k) K args σ n else(match T f with
  | some F=>xfn (MB T B K k) K F args σ n
  | none=>B f args σ n)
theorem NU{S:Id->Prop}{args:List V}(h:∀a∈args,AZ S a):BC S (params 0 args):=by
 intro s;rw[IQ];simp only[Alq,if_true,Axz];cases e:args[s]? with
 | none=>exact .any
 | some v=>exact CX h e
theorem AaX{T:FuncId->Option E6}{B:AQ}{K:Nat}(hT:Iy P T)(hB:AX P W0 B)(hP:GV P):∀k,AX P W0 (MB T B K k):=by
 intro k
 induction k with
 | zero=>intro f args σ n v σ' n' h;cases h
 | succ k ih=>
  intro f args σ n v σ' n' h J L;have h:(bif Nat.beq f HR then Acm (MB T B K k) K args σ n else(match T f with
   | some F=>xfn (MB T B K k) K F args σ n
   | none=>B f args σ n))=some (v,σ',n'):=h
  cases M:Nat.beq f HR with
  | true=>rw[M] at h;have hf:f=HR:=Ath M;subst hf;exact Abp ih hP h J L
  | false=>
  rw[M] at h;simp only[cond_false] at h;have ab:f≠HR:=by rintro rfl;simp at M
  split at h
  ·rename_i F hF;obtain⟨W,Y⟩:=hT f F hF;unfold xfn at h;cases O:Nat.ble args.length F.nt with
   | false=>rw[O] at h;cases h
   | true=>
   rw[O] at h;simp only[cond_true] at h;have u:args.length<=F.nt:=Axk O;have key:∀e st,(e=.ret\/e=.normal)->DM (MB T B K k) (F5 (MB T B K k) F.nt n K) F.ic ⟨params 0 args,σ,n⟩=some (e,st)->AaF F n st=some (v,σ',n')->F2 P W0 f args σ n v σ' n':=by
    intro e st Z p g;unfold AaF at g;split at g
    ·rename_i vs ah;cases g;obtain⟨⟨h1,h2,h3⟩,h4⟩:=Bb (nt:=F.nt) (r:=true) ih (Hy ih hP K) Y (.inl rfl) p (NU J) L;obtain⟨h5,h6⟩:=RF h2 h3 ah;have j:=JG n [Ml vs] st.σ;obtain⟨fn,c,hf,S,o,ae,ag,t⟩:=HT W;refine⟨λ_=>t,h1,Ab2 h6,λid e hl=>h3 id e (j _ _ hl),λw μ H vals hp hv=>?_⟩;rw[Cp ab];have y:fn.ntmps=F.nt:=ae;have N:=LC (nt:=F.nt) u hp hv;refine Ek (nt:=F.nt) (Q:=λe' s=>e'=e/\s=st) hf S hp ?_ (λe' s C=>by
      rw[C.1];rcases Z with rfl|rfl
      ·exact .inr rfl
      ·exact .inl rfl) (λe' G a aj H' C _ hn z w' af A i=>?_)
     ·rw[y];exact Bc (h4 c o ⟨μ,H,σ,w,n,none,[]⟩ _ w (λ_=>rfl) ⟨N,NU J,L,λid ac=>hp.bd id ac⟩) λe' a' w' hh=>by obtain⟨B',p,G,C,q⟩:=hh;exact⟨B',p,G,C,q.1⟩
     ·obtain⟨_,rfl⟩:=C;obtain⟨val,E,D⟩:=F3 af A ag h5;refine⟨val,E,val,aj,H',rfl,D,A.part j,⟨i.mu,i.hp,i.size,i.keep,i.pin,λbk U ho=>i.dom bk U ?_⟩,z⟩;obtain⟨id,e,hl,R⟩:=ho;exact⟨id,e,j _ _ hl,R⟩
    ·cases g
   split at h
   ·rename_i st p;exact key _ st (.inl rfl) p h
   ·rename_i st p;exact key _ st (.inr rfl) p h
   ·cases h
  ·exact hB f args σ n v σ' n' h J L
theorem TN{T:FuncId->Option E6}{B:AQ}{K k:Nat}(j:Iy P T)(hB:AX P W0 B)(i:GV P){f:FuncId}{args:List V}{v:V}{σ':Al}{n':Nat}(h:MB T B K k f args [] 0=some (v,σ',n'))(g:Ku 0 args=true)(r:Oa 0 v=true)(o:f≠HR:=by decide):An P W0 f args [] v []:=
 An.of_at o (AaX j hB i k _ _ _ _ _ _ _ h (DS.2 args g) Ck.nil) (DS.2 args g) Ck.nil (λid e p=>by cases p) (λid q=>absurd rfl q) (DS.1 v r) Ck.nil
end
end
end Go.Ir
end
section
namespace Go.Ir
open Go.RowKit
noncomputable section
variable[FW]
section force
variable{β:Type}
def CY(n:Nat)(k:Nat->β):β:=Nat.rec (motive:=λ_=>β) (k 0) (λm _=>k (Nat.succ m)) n
theorem C4(n:Nat)(k:Nat->β):CY n k=k n:=by cases n<;>rfl
def Td(n:Int)(k:Int->β):β:=Int.rec (motive:=λ_=>β) (λa=>CY a λa=>k (.ofNat a)) (λa=>CY a λa=>k (.negSucc a)) n
theorem aQ(n:Int)(k:Int->β):Td n k=k n:=by
 cases n with
 | ofNat a=>exact C4 a λa=>k (.ofNat a)
 | negSucc a=>exact C4 a λa=>k (.negSucc a)
def sL(b:Bool)(k:Bool->β):β:=Bool.rec (motive:=λ_=>β) (k false) (k true) b
theorem YB(b:Bool)(k:Bool->β):sL b k=k b:=by cases b<;>rfl
def Pz(c:UInt8)(k:UInt8->β):β:=CY c.toNat λn=>k (UInt8.ofNat n)
theorem aU(c:UInt8)(k:UInt8->β):Pz c k=k c:=by unfold Pz;rw[C4,UInt8.ofNat_toNat]
def Ps(l:List UInt8)(k:List UInt8->β):β:=List.rec (motive:=λ_=>(List UInt8->β)->β) (λk=>k []) (λc _ e k=>Pz c λc=>e λl=>k (c::l)) l k
theorem Zy(l:List UInt8):∀k:List UInt8->β,Ps l k=k l:=by
 induction l with
 | nil=>intro k;rfl
 | cons c l e=>intro k;rw[show Ps (c::l) k=Pz c λc=>Ps l λl=>k (c::l) from rfl,aU];exact e _
def hB(x:Bool)(k:V->β):β:=k (.b x)
def hI(a:IntKind)(n:Int)(k:V->β):β:=k (.i a n)
def hS(l:List UInt8)(k:V->β):β:=k (.s l)
def Asm(k:V->β):β:=k .nil
def hSl(l:List V)(k:V->β):β:=k (.sl l)
def Ata(l:List V)(k:V->β):β:=k (.agg l)
def Atv(l:List V)(k:V->β):β:=k (.tup l)
def As8(id:Id)(o:Nat)(k:V->β):β:=k (.ref id o)
def Atp(id:Id)(k:V->β):β:=k (.arr id)
def Amq(id:Id)(a b c:Nat)(k:V->β):β:=k (.aref id a b c)
def hEp(e:V)(o:Nat)(k:V->β):β:=k (.ep e o)
def hFn(f:FuncId)(a c:List V)(k:V->β):β:=k (.fn f a c)
def hNp(k:V->β):β:=k .np
def hNf(k:V->β):β:=k .nf
def hNi(k:V->β):β:=k .ni
def hNm(k:V->β):β:=k .nm
def hUb(k:V->β):β:=k .ub
def hIv(k:V->β):β:=k .iv
def Asf(k:V->β):β:=k .any
def Mv(v:V)(k:V->β):β:=V.casesOn (motive_1:=λ_=>(V->β)->β) v hB hI hS Asm hSl Ata Atv As8 Atp Amq hEp hFn hNp hNf hNi hNm hUb hIv Asf k
theorem Ok(v:V)(k:V->β):Mv v k=k v:=by cases v<;>rfl
def DD(l:List V)(k:List V->β):β:=List.rec (motive:=λ_=>(List V->β)->β) (λk=>k []) (λv _ e k=>Mv v λv=>e λl=>k (v::l)) l k
theorem DU(l:List V):∀k:List V->β,DD l k=k l:=by
 induction l with
 | nil=>intro k;rfl
 | cons c l e=>intro k;rw[show DD (c::l) k=Mv c λc=>DD l λl=>k (c::l) from rfl,Ok];exact e _
def GK(id:Id)(k:Id->β):β:=CY id.1 λa=>CY id.2 λb=>k (a,b)
theorem IX(id:Id)(k:Id->β):GK id k=k id:=by unfold GK;rw[C4,C4]
def Uc(a:IntKind)(k:IntKind->β):β:=
 match a with
 | .i8=>k .i8|.i16=>k .i16|.i32=>k .i32|.i64=>k .i64|.u8=>k .u8|.u16=>k .u16|.u32=>k .u32|.u64=>k .u64
theorem aB(a:IntKind)(k:IntKind->β):Uc a k=k a:=by cases a<;>rfl
def vB(x:Bool)(_:Bool)(k:V->β):β:=sL x λx=>k (.b x)
def vI(a:IntKind)(n:Int)(_:Bool)(k:V->β):β:=Uc a λa=>Td n λn=>k (.i a n)
def Aq3(l:List UInt8)(e:Bool)(k:V->β):β:=bif e then Ps l λl=>k (.s l) else k (.s l)
def AmN(_:Bool)(k:V->β):β:=k .nil
def vSl(es:List V)(_:Bool)(k:V->β):β:=DD es λes=>k (.sl es)
def Aok(es:List V)(_:Bool)(k:V->β):β:=DD es λes=>k (.agg es)
def ArR(es:List V)(_:Bool)(k:V->β):β:=DD es λes=>k (.tup es)
def Aop(id:Id)(o:Nat)(_:Bool)(k:V->β):β:=GK id λid=>CY o λo=>k (.ref id o)
def Al7(id:Id)(_:Bool)(k:V->β):β:=GK id λid=>k (.arr id)
def Aep(id:Id)(a b c:Nat)(_:Bool)(k:V->β):β:=GK id λid=>CY a λa=>CY b λb=>CY c λc=>k (.aref id a b c)
def vEp(e:V)(o:Nat)(_:Bool)(k:V->β):β:=Mv e λe=>CY o λo=>k (.ep e o)
def vFn(f:FuncId)(a c:List V)(_:Bool)(k:V->β):β:=DD a λa=>DD c λc=>k (.fn f a c)
def vNp(_:Bool)(k:V->β):β:=k .np
def vNf(_:Bool)(k:V->β):β:=k .nf
def vNi(_:Bool)(k:V->β):β:=k .ni
def vNm(_:Bool)(k:V->β):β:=k .nm
def vUb(_:Bool)(k:V->β):β:=k .ub
def vIv(_:Bool)(k:V->β):β:=k .iv
def Aoa(_:Bool)(k:V->β):β:=k .any
def OY(e:Bool)(v:V)(k:V->β):β:=V.casesOn (motive_1:=λ_=>Bool->(V->β)->β) v vB vI Aq3 AmN vSl Aok ArR Aop Al7 Aep vEp vFn vNp vNf vNi vNm vUb vIv Aoa e k
theorem AV(d:Bool)(v:V)(k:V->β):OY d v k=k v:=by
 cases v with
 | b x=>exact YB x λx=>k (.b x)
 | i a n=>show Uc a (λa=>Td n λn=>k (.i a n))=_;rw[aB,aQ]
 | s l=>cases d
        ·rfl
        ·exact Zy l λl=>k (.s l)
 | sl es=>exact DU es λes=>k (.sl es)
 | agg es=>exact DU es λes=>k (.agg es)
 | tup es=>exact DU es λes=>k (.tup es)
 | ref id o=>show GK id (λid=>CY o λo=>k (.ref id o))=_;rw[IX,C4]
 | arr id=>exact IX id λid=>k (.arr id)
 | aref id a b c=>show GK id (λid=>CY a λa=>CY b λb=>CY c λc=>k (.aref id a b c))=_;rw[IX,C4,C4,C4]
 | ep e o=>show Mv e (λe=>CY o λo=>k (.ep e o))=_;rw[Ok,C4]
 | fn f a c=>show DD a (λa=>DD c λc=>k (.fn f a c))=_;rw[DU,DU]
 | _=>rfl
def LQ(l:List V)(k:List V->β):β:=List.rec (motive:=λ_=>(List V->β)->β) (λk=>k []) (λv _ e k=>OY true v λv=>e λl=>k (v::l)) l k
theorem Tt(l:List V):∀k:List V->β,LQ l k=k l:=by
 induction l with
 | nil=>intro k;rfl
 | cons c l e=>intro k;rw[show LQ (c::l) k=OY true c λc=>LQ l λl=>k (c::l) from rfl,AV];exact e _
def Atl(es:List V)(e:Bool)(k:V->β):β:=bif e then LQ es λes=>k (.tup es) else DD es λes=>k (.tup es)
def Pb(e:Bool)(v:V)(k:V->β):β:=V.casesOn (motive_1:=λ_=>Bool->(V->β)->β) v vB vI Aq3 AmN vSl Aok Atl Aop Al7 Aep vEp vFn vNp vNf vNi vNm vUb vIv Aoa e k
theorem Ia(d:Bool)(v:V)(k:V->β):Pb d v k=k v:=by
 cases v with
 | tup es=>cases d
           ·exact DU es λes=>k (.tup es)
           ·exact Tt es λes=>k (.tup es)
 | b x=>exact AV d (.b x) k
 | i a n=>exact AV d (.i a n) k
 | s l=>exact AV d (.s l) k
 | nil=>exact AV d (.nil ) k
 | sl es=>exact AV d (.sl es) k
 | agg es=>exact AV d (.agg es) k
 | ref id o=>exact AV d (.ref id o) k
 | arr id=>exact AV d (.arr id) k
 | aref id a b c=>exact AV d (.aref id a b c) k
 | ep e o=>exact AV d (.ep e o) k
 | fn f a c=>exact AV d (.fn f a c) k
 | np=>exact AV d (.np ) k
 | nf=>exact AV d (.nf ) k
 | ni=>exact AV d (.ni ) k
 | nm=>exact AV d (.nm ) k
 | ub=>exact AV d (.ub ) k
 | iv=>exact AV d (.iv ) k
 | any=>exact AV d (.any ) k
end force
section
variable{β:Type}
end
end
end Go.Ir
end
section
namespace Go.Ir
open Go.RowKit
variable[FW]
section
variable{P:Program}{W0:World}{f:FuncId}{args:List V}{σ:Al}{n:Nat}{v:V}
theorem F2.of_ret(L:f≠HR)(h:An P W0 f args [] v [])(z:V1 v=true)(y:Ck (Lt n) σ):F2 P W0 f args σ n v σ n where
 callable _:=h.callable
 le:=Abm _
 vin:=P0.1 v z
 sin:=y
 run:=by
  intro w μ H vals hp o;have i:∀id e,lk ([]:Al) id=some e->lk σ id=some e:=λid e F=>by cases F
  rw[Cp L];refine AtR (h.run n w μ H vals (hp.part i) o) ?_;rintro e w' ⟨val,t,A,n',rfl,r,q,G,E,g⟩;obtain⟨u,j⟩:=hp.back i q E;rw[HE] at u j;refine⟨val,cut n t,A,rfl,r.cut (P0.1 v z),u.cut y,⟨λid x s=>?_,j.hp,j.size,j.keep,j.pin,λB D J=>j.dom B D (G4 J)⟩,λid p C=>?_⟩
  ·rcases Av2 id.1 n with h|h
   ·rw[FH (m:=n) h];exact j.mu id x s
   ·rw[hp.bd id h] at s;cases s
  ·rw[FH (m:=n) p];exact g id p C
theorem Hp.lose{w w':World}{σ1:Al}{μ:Id->Option Value}{H:Addr->Option Value}(hp:Hp W0 σ n μ H w){R:Nat->Prop}(r:AL R w w')(s:∀k,R k->Fh μ σ k)
  (j:∀id e,lk σ1 id=some e->lk σ id=some e/\∀g,BH (μ id)=some g->¬R g):Hp W0 σ1 n μ H w'/\Fr μ H σ w μ H σ1 w':=by
 have i:∀g,Fh μ σ1 g->Fh μ σ g:=by rintro g ⟨id,e,p,o⟩;exact⟨id,e,(j _ _ p).1,o⟩
 refine⟨⟨hp.base_turned r s,hp.pins_turned r s,?_,λg q=>hp.unp g (i g q),λz u i2 y g l1 l2=>hp.sep _ _ _ _ g (j _ _ l1).1 (j _ _ l2).1,hp.bd⟩,
  ⟨λ_ _ h=>h,λ_ _ h=>h,r.size,λg o q=>r.block g o (λt=>q (s g t)),λ_ _ _=>rfl,λg _ q=>i g q⟩⟩
 intro id e p;refine(hp.ents _ _ (j _ _ p).1).keep (λ_ _ h=>h) (λ_ _ h=>h) (λg o=>?_);exact r.block g ((hp.ents _ _ (j _ _ p).1).block o).2 ((j _ _ p).2 g o)
end
theorem VRels.one_{μ:Id->Option Value}{H:Addr->Option Value}{v:V}{vals:List Value}(h:VRels μ H [v] vals):∃x,vals=[x]/\Ap μ H v x:=by
 have e:=h.len
 match vals,e with
 | [x],_=>exact⟨x,rfl,h.at_ 0 v x rfl rfl⟩
 | [],e=>simp at e
 | _::_::_,e=>simp at e
theorem Ap.np_inv'{μ:Id->Option Value}{H:Addr->Option Value}{val:Value}(h:Ap μ H .np val):val=.pointer none:=by cases h;rfl
section
variable{P:Program}{W0:World}
def orC(a b:AQ):AQ:=λf args σ n=>match a f args σ n with
 | some r=>some r
 | none=>b f args σ n
theorem Qzz{a b:AQ}(e:AX P W0 a)(g:AX P W0 b):AX P W0 (orC a b):=by
 intro f args σ n v σ' n' h;unfold orC at h;split at h
 ·rename_i r i;cases h;exact e _ _ _ _ _ _ _ i
 ·exact g _ _ _ _ _ _ _ h
noncomputable def xR(e:FuncId)(g:List V->Option V):AQ:=λf args σ n=>bif Nat.beq f e then(match g args with
 | some v=>Pb true v λv=>some (v,σ,n)
 | none=>none) else none
theorem Ph{i:FuncId}{g:List V->Option V}(h:∀args v,g args=some v->An P W0 i args [] v []/\V1 v=true)(s:i≠HR:=by decide):AX P W0 (xR i g):=by
 intro f args σ n v σ' n' e t q;unfold xR at e;cases j:Nat.beq f i with
 | false=>rw[j] at e;cases e
 | true=>
  rw[j] at e;obtain rfl:=Ath j;simp only[cond_true] at e;split at e
  ·rename_i v1 r;rw[Ia] at e;cases e;obtain⟨o,p⟩:=h _ _ r;exact F2.of_ret s o p q
  ·cases e
noncomputable def zI(j:FuncId)(h:List (TypeId×Nat×Nat)):AQ:=λf args σ n=>bif Nat.beq f j then(match args with
 | [.ref id e]=>match GY σ id with
  | some (.tbox T u)=>chk (h.any λp=>Nat.beq p.1 T&&Nat.beq p.2.1 (cells u).length&&Nat.beq p.2.2 e) (match(cells u)[e]? with
   | some .np=>match Dx u e 1 (.ref id e) with
    | some o=>some (.tup [],ZE σ id (.tbox T o),n)
    | none=>none
   | some (.ref i g)=>chk (Rq id i&&Nat.beq e g) (some (.tup [],σ,n))
   | _=>none)
  | _=>none
 | _=>none) else none
theorem Aas{N:FuncId}{B:List (TypeId×Nat×Nat)}(z:callable P N=true)
  (ab:∀(b g:Nat) (w:World),w.cell? ⟨b,g,none⟩=some (.pointer (some ⟨b,g,none⟩))->Calls P N #[.pointer (some ⟨b,g,none⟩)] w λe w'=>e=.returned (.tuple #[])/\w'=w)
  (C:∀(T k g:Nat),(T,k,g)∈B->∀(b:Nat) (w:World),w.cell? ⟨b,g,none⟩=some (.pointer none)->w.shape? b=some (T,k)->w.frozen? ⟨b,g,none⟩=false->g<k->
   Calls P N #[.pointer (some ⟨b,g,none⟩)] w λe w'=>e=.returned (.tuple #[])/\w'=w.setCell ⟨b,g,none⟩ (.pointer (some ⟨b,g,none⟩)))(hy:N≠HR:=by decide):AX P W0 (zI N B):=by
 intro f args σ n v σ' n' i ha hs;unfold zI at i;cases hb:Nat.beq f N with
 | false=>rw[hb] at i;cases i
 | true=>
  rw[hb] at i;obtain rfl:=Ath hb;simp only[cond_true] at i;split at i
  ·rename_i id g;split at i
   ·rename_i T u F;rw[Bx] at F;obtain⟨O,i⟩:=A5.1 i;obtain⟨p,ay,Y⟩:=Awl.1 O;simp only[Aan,Awc] at Y;obtain⟨⟨hT,hk⟩,ho⟩:=Y;have U:(T,(cells u).length,g)∈B:=by grind
    have ai:Lt n id:=(hs _ _ F).1;have Z:∀{μ:Id->Option Value} {H:Addr->Option Value},Ap μ H (.tup []) (.tuple #[]):=.tup [] [] rfl (λk c v hk=>by simp at hk);split at i
    ·rename_i hc;split at i
     ·rename_i u' A;cases i;obtain⟨ax,an,t⟩:=G8 A;have W:g<(cells u).length:=by omega
      have aj:Jg (Lt n) (.tbox T u'):=.tbox _ _ (LB A (hs _ _ F).2.tbox_inv (.ref _ _ ai));refine⟨λ_=>z,Abm _,.tup _ (λ_ h=>by cases h),by rw[L7];exact hs.upd F aj,?_⟩;intro w μ H vals hp q;obtain⟨x,rfl,hx⟩:=q.one_;obtain⟨o,G,rfl⟩:=hx.ref_inv;obtain⟨ae,s,r,hB,E,j⟩:=hp.ents _ _ F;rw[G] at r;cases r;obtain⟨x0,aa,J⟩:=j.toVRels.get hc;rw[J.np_inv'] at aa;have R:(cells u).length=s.size:=by rw[j.len];simp
      have y:g<s.size:=by omega
      have D:s[g]=.pointer none:=by grind
      rw[Cp hy];refine AtR (C T _ g U o w (by simp[World.cell?,E,y,D]) (by simp[World.shape?,E,R]) (by simp[World.frozen?,E]) W) ?_;rintro e w' ⟨rfl,rfl⟩;have M:w.setCell ⟨o,g,none⟩ (.pointer (some ⟨o,g,none⟩))=w.setRow o (s.setIfInBounds g (.pointer (some ⟨o,g,none⟩))):=setCell_eq_setRow w o g s T (0,0) _ E;rw[M];have L:AI μ H (cells u') (s.setIfInBounds g (.pointer (some ⟨o,g,none⟩))).toList:=by
       have h1:AI μ H (cells (V.ref id g)) [.pointer (some ⟨o,g,none⟩)]:=⟨VRels.nil_.cons (.ref id g o G),λv hv=>by simp at hv;subst hv;rfl⟩
       have:=Dw j h1 g (g+1);rw[t,Axp,AwO,if_pos (by simpa using y)];simpa using this
      have ao:=hp.set_ (e:=.tbox T u') F ((AL.setRow w o _).to (λk hk=>by subst hk;simp[G,BH])) ⟨o,_,G,hB,setRow_heap w o s _ T (0,0) E,L⟩;rw[L7];grind
     ·cases i
    ·rename_i az au hc;obtain⟨hq,ah⟩:=A5.1 i;clear i;simp only[Aan,Awc] at hq;obtain⟨ak,rfl⟩:=hq;obtain rfl:=EP.1 ak;cases ah;refine⟨λ_=>z,Abm _,.tup _ (λ_ h=>by cases h),hs,?_⟩;intro w μ H vals hp q;obtain⟨x,rfl,hx⟩:=q.one_;obtain⟨o,G,rfl⟩:=hx.ref_inv;obtain⟨ae,s,r,hB,E,j⟩:=hp.ents _ _ F;rw[G] at r;cases r;obtain⟨x0,aa,J⟩:=j.toVRels.get hc;obtain⟨av,S,rfl⟩:=J.ref_inv;rw[G] at S;cases S;have y:g<s.size:=by grind
     have D:s[g]=.pointer (some ⟨o,g,none⟩):=by grind
     rw[Cp hy];refine AtR (ab o g w (by simp[World.cell?,E,y,D])) ?_;rintro e w' ⟨rfl,rfl⟩;exact⟨_,μ,H,rfl,Z,hp,Fr.refl _ _ _ _,λ_ _ h=>h⟩
    ·cases i
   ·cases i
  ·cases i
def Xi(v:V):Option UInt8:=
 match v with
 | .i .u8 (.ofNat n)=>bif Nat.blt n 256 then some (UInt8.ofNat n) else none
 | _=>none
noncomputable def UQ(es:List V):Option (List UInt8):=List.rec (motive:=λ_=>Option (List UInt8)) (some []) (λv _ e=>match Xi v with
 | some c=>match e with
  | some l=>some (c::l)
  | none=>none
 | none=>none) es
theorem sZ{v:V}{c:UInt8}(h:Xi v=some c):v=.i .u8 c.toNat:=by
 unfold Xi at h;split at h
 ·rename_i n;cases e:Nat.blt n 256 with
  | false=>rw[e] at h;cases h
  | true=>
   rw[e] at h;cases h;have:n<256:=by simpa using e
   have g:(UInt8.ofNat n).toNat=n:=by simp;omega
   rw[g];rfl
 ·cases h
theorem OM:∀{es:List V} {l:List UInt8},UQ es=some l->es=Ay l
 | [],l,h=>by cases h;rfl
 | v::es,l,h=>by
  have e:(match Xi v with
   | some c=>match UQ es with
    | some l=>some (c::l)
    | none=>none
   | none=>none)=some l:=h
  split at e
  ·rename_i c g;split at e
   ·rename_i j i;cases e;rw[OM i,sZ g];rfl
   ·cases e
  ·cases e
theorem IE{μ:Id->Option Value}{H:Addr->Option Value}:∀{l:List UInt8} {vals:List Value},AI μ H (AF (Ay l)) vals->vals=Lib.byteCells l
 | [],vals,g=>by have:=g.len;simp only[Ay,Alw,AF,List.flatMap_nil,Alo] at this;exact ArL this.symm
 | c::l,vals,g=>by
  have e:=g.len;have p:AF (Ay (c::l))=V.i .u8 c.toNat::AF (Ay l):=rfl;rw[p] at g e;cases vals with
  | nil=>simp at e
  | cons x xs=>
   have j:=g.at_ 0 _ x rfl rfl;have o:AI μ H (AF (Ay l)) xs:=⟨⟨by simpa using e,λk c v q h=>g.at_ (k+1) c v (by simpa using q) (by simpa using h)⟩,λv h=>g.one v (by simp[h])⟩
   rw[IE o,j.i_inv];rfl
noncomputable def Abl(l:List UInt8)(σ:Al)(n:Nat):Option (V×Al×Nat):=chk (Nat.ble l.length AA) (Pb true (.s l) λv=>some (v,σ,n))
noncomputable def AaS(h:FuncId)(e:TypeId):AQ:=λf args σ n=>bif Nat.beq f h then(match args with
 | [.ref id g]=>match GY σ id with
  | some (.tbox T u)=>match(cells u)[Nat.succ g]? with
   | some .nil=>Abl [] σ n
   | some (.arr bid)=>match GY σ bid with
    | some (.arr e' sz es)=>chk (Nat.beq e' e&&Nat.beq sz 1) (match UQ es with
     | some l=>Abl l (YM σ bid) n
     | none=>none)
    | _=>none
   | _=>none
  | _=>none
 | _=>none) else none
theorem zE{M:FuncId}{e:TypeId}(D:callable P M=true)
  (F:∀(b g:Nat) (l:List UInt8) (v:Value) (B:Nat) (w:World),w.cell? ⟨b,Nat.succ g,none⟩=some v->w.ownsRow B e 1 v l.length (Lib.byteCells l)->
   Calls P M #[.pointer (some ⟨b,g,none⟩)] w λe w'=>e=.returned (.string ⟨l.toArray⟩)/\w.grownBy w' v.ownBlock)(hy:M≠HR:=by decide):AX P W0 (AaS M e):=by
 intro f args σ n v σ' n' j ha hs;unfold AaS at j;cases N:Nat.beq f M with
 | false=>rw[N] at j;cases j
 | true=>
  rw[N] at j;obtain rfl:=Ath N;simp only[cond_true] at j;have C:∀{id g T u x w} {μ:Id->Option Value} {H:Addr->Option Value} {vals:List Value},lk σ id=some (.tbox T u)->(cells u)[Nat.succ g]?=some x->Hp W0 σ n μ H w->VRels μ H [.ref id g] vals->
    ∃A val,vals=[.pointer (some ⟨A,g,none⟩)]/\w.cell? ⟨A,Nat.succ g,none⟩=some val/\Ap μ H x val:=by
   intro id g T u x w μ H vals U O hp i;obtain⟨y,rfl,hy⟩:=i.one_;obtain⟨A,hm,rfl⟩:=hy.ref_inv;obtain⟨an,cv,W,hB,hg,r⟩:=hp.ents _ _ U;rw[hm] at W;cases W;obtain⟨x0,L,ah⟩:=r.toVRels.get O;refine⟨A,x0,rfl,?_,ah⟩;have t:=(Alp.1 L).1;have t:Nat.succ g<cv.size:=by simpa using t
   rw[Awe,At8 t] at L;simp only[World.cell?,hg,At8 t];exact L
  split at j
  ·rename_i id g;split at j
   ·rename_i T u U;rw[Bx] at U;split at j
    ·rename_i O;unfold Abl at j;obtain⟨E,j⟩:=A5.1 j;rw[Ia] at j;cases j;refine⟨λ_=>D,Abm _,.s _,hs,?_⟩;intro w μ H vals hp i;obtain⟨A,val,rfl,o,hr⟩:=C U O hp i;rw[hr.nil_inv] at o;rw[Cp hy];refine AtR (F A g [] _ W0.heap.size w o (AwK w _ e 1)) ?_;rintro e' w' ⟨rfl,G⟩;have:=hp.lose (σ1:=σ) (R:=λ_=>False) ((AL.of_grown G).to (λk J=>by simp[Value.ownBlock] at J)) (λ_ h=>h.elim) (λid e h=>⟨h,λ_ _ h=>h⟩);exact⟨_,μ,H,rfl,.s [] (by unfold AA;simp),this.1,this.2,λ_ _ h=>h⟩
    ·rename_i bid O;split at j
     ·rename_i e' sz es z;rw[Bx] at z;obtain⟨hq,p⟩:=A5.1 j;clear j;simp only[Aan,Awc] at hq;obtain⟨rfl,rfl⟩:=hq;split at p
      ·rename_i l ad;unfold Abl at p;obtain⟨E,S⟩:=A5.1 p;clear p;rw[Ia,Qj] at S;cases S;obtain rfl:=OM ad;refine⟨λ_=>D,Abm _,.s _,hs.del _,?_⟩;intro w μ H vals hp i;obtain⟨A,val,rfl,o,hr⟩:=C U O hp i;obtain⟨Y,aq⟩:=hr.arr_inv;obtain⟨ab,_,q,ae,av,r⟩:=Dm hp z Y;rw[IE r,show(Ay l).length=l.length by simp[Ay]] at q;rw[Cp hy];refine AtR (F A g l val W0.heap.size w o q) ?_;rintro ap w' ⟨rfl,G⟩;have Z:∀k,some k=val.ownBlock->BH (μ bid)=some k:=by
        intro k J;rw[Y];obtain⟨A',ak,ai⟩:=BY q;rw[ai] at J⊢;cases A' with
        | none=>simp[Value.ownBlock] at J
        | some A'=>simpa[Value.ownBlock,BH] using J.symm
       have:=hp.lose (σ1:=del σ bid) (AL.of_grown G) (λk J=>⟨bid,_,z,Z k J⟩) (λaw e' h=>by
        rw[CJ] at h;split at h
        ·cases h
        ·rename_i af;exact⟨h,λb N ac=>af (hp.sep _ _ _ _ b z h (Z b ac) N)⟩)
       exact⟨_,μ,H,rfl,.s l (Axk E),this.1,this.2,λ_ _ h=>h⟩
      ·cases p
     ·cases j
    ·cases j
   ·cases j
  ·cases j
end
section
variable{P:Program}{W0:World}{f:FuncId}{args args':List V}{σ:Al}{n:Nat}{v:V}
def OR:V->Bool
 | .b _|.i _ _|.s _|.ni|.np|.nf|.nm=>true
 | _=>false
def OX:V->Bool
 | .tup vs=>vs.all OR
 | v=>OR v
theorem MJ{μ e:Id->Option Value}{H g:Addr->Option Value}{v:V}{val:Value}(h:OR v=true)(i:Ap μ H v val):Ap e g v val:=by
 cases i<;>first|(cases h;done)|constructor
 assumption
theorem UC{μ g:Id->Option Value}{H o:Addr->Option Value}{v:V}{val:Value}(h:OX v=true)(j:Ap μ H v val):Ap g o v val:=by
 cases v with
 | tup vs=>obtain⟨vals,rfl,e⟩:=j.tup_inv;exact .tup vs vals e.len λk c x i p=>MJ (Alm.1 h c (Aln i)) (e.at_ k c x i p)
 | _=>exact MJ h j
theorem O5{S:Id->Prop}{v:V}(h:OR v=true):AZ S v:=by cases v<;>first|(cases h;done)|constructor
theorem bM{S:Id->Prop}{v:V}(h:OX v=true):AZ S v:=by
 cases v with
 | tup vs=>exact .tup _ λc e=>O5 (Alm.1 h c e)
 | _=>exact O5 h
theorem TK{w:World}{μ:Id->Option Value}{H:Addr->Option Value}(hp:Hp W0 σ n μ H w){φ:Id->Option (List V)}(C:∀id es,φ id=some es->∃e sz,lk σ id=some (.arr e sz es)) :
  ∀id es,φ id=some es->∀val,μ id=some val->(∃A h,val=.slice A es.length h/\es.length<=h/\es.length<=AK/\
   (es=[]\/∃(D:Addr) (sz:Nat) (vals:List Value),A=some D/\(∀e∈es,(cells e).length=sz)/\AI μ H (AF es) vals/\∀(k:Nat) (v:Value),vals[k]?=some v->Bh φ μ H w (D.add k)=some v)):=by
 intro id es p val y;obtain⟨e,sz,E⟩:=C id es p;obtain⟨vals,_,i,q,z,r⟩:=Dm hp E y;rcases Axy es.length with t|t
 ·have:es=[]:=ArL t;subst this;rcases i.2 with⟨rfl,_⟩|⟨g,h,s,rfl,_⟩
  ·grind
  grind
 ·obtain⟨g,h,s,rfl,hB,M,G,o,F,B⟩:=Gk i t;refine⟨_,h,rfl,o,q,.inr ⟨⟨g,0,none⟩,sz,vals,rfl,z,r,λk v L=>?_⟩⟩;have u:=i.cells (g:=g) rfl k v L;have j:H ((⟨g,0,none⟩:Addr).add k)=none:=hp.unp g ⟨id,_,E,by simp[y,BH]⟩ _ (by rw[Cn]);have J:∃id es,φ id=some es/\BH (μ id)=some ((⟨g,0,none⟩:Addr).add k).block:=⟨id,es,p,by rw[Cn,y];rfl⟩;simp only[Bh,j];simp_all
theorem F2.of_plain{φ:Id->Option (List V)}(F:f≠HR)(h:An P W0 f args' [] v [])(M:OX v=true)(R:Ck (Lt n) σ)(G:∀id es,φ id=some es->∃e sz,lk σ id=some (.arr e sz es))(A:args.length=args'.length)
  (C:∀(k:Nat) (c u:V),args[k]?=some c->args'[k]?=some u->Lz φ c u):F2 P W0 f args σ n v σ n where
 callable _:=h.callable
 le:=Abm _
 vin:=bM M
 sin:=R
 run:=by
  intro w μ H vals hp g;have j:∀p x,H p=some x->Bh φ μ H w p=some x:=by intro p x r;simp only[Bh,r]
  have D:Hp W0 [] n μ (Bh φ μ H w) w:=
   {base:=hp.base
    pins:=by
     intro p x r;simp only[Bh] at r;split at r
     ·rename_i y F;rw[<-r];exact hp.pins p y F
     simp_all
    ents:=λ_ _ h=>by cases h
    unp:=λ_ ⟨_,_,h,_⟩=>by cases h
    sep:=λ_ _ _ _ _ h=>by cases h
    bd:=hp.bd }
  have q:VRels μ (Bh φ μ H w) args' vals:=by
   refine⟨by rw[<-A];exact g.len,λk u x N r=>?_⟩;have J:k<args.length:=by grind
   exact Ap.le j (TK hp G) (C k _ u (Ai0 J) N) (g.at_ k _ x (Ai0 J) r)
  rw[Cp F];refine AtR (h.run n w μ _ vals D q) ?_;rintro e w' ⟨val,S,T,n',rfl,E,t,L,B,z⟩;have i:∀o,o<w.heap.size->w'.heap[o]?=w.heap[o]?:=λo s=>B.keep o s (λ⟨_,_,h,_⟩=>by cases h);exact⟨val,μ,H,rfl,UC M E,⟨t.base,λp x r=>t.pins p x (B.hp p x (j p x r)),λid e A=>(hp.ents id e A).keep (λ_ _ h=>h) (λ_ _ h=>h) (λo s=>i o ((hp.ents id e A).block s).2),hp.unp,hp.sep,hp.bd⟩,
   ⟨λ_ _ h=>h,λ_ _ h=>h,B.size,λo s _=>i o s,λ_ _ _=>rfl,λo _ O=>O⟩,λ_ _ h=>h⟩
noncomputable def onP(e:FuncId)(g:List V->Option V):AQ:=λf args σ n=>bif Nat.beq f e then(match MC (frz σ (λ_=>true) 60) args with
 | some args'=>(match g args' with
  | some v=>Pb true v λv=>some (v,σ,n)
  | none=>none)
 | none=>none) else none
theorem nA{i:FuncId}{g:List V->Option V}(h:∀args v,g args=some v->An P W0 i args [] v []/\OX v=true)(B:i≠HR:=by decide):AX P W0 (onP i g):=by
 intro f args σ n v σ' n' e C A;unfold onP at e;cases j:Nat.beq f i with
 | false=>rw[j] at e;cases e
 | true=>
  rw[j] at e;obtain rfl:=Ath j;simp only[cond_true] at e;split at e
  ·rename_i args' z;split at e
   ·rename_i v1 y;rw[Ia] at e;cases e;obtain⟨r,s⟩:=h _ _ y;obtain⟨t,u⟩:=Ec z;refine F2.of_plain B (φ:=NB σ λ_=>true) r s A (λid es p=>?_) t λk c q w o=>GO (u k c q w o);unfold NB at p;grind
   ·cases e
  ·cases e
end
end Go.Ir
end
namespace Go.Ir
open Go.Proofs Go.RowKit
theorem XQ:∃j,Tryz.prog.info? 98=some j/\j.size=2:=AdW.1 (show(Tryz.prog.info? 98).map (·.size)=some 2 by kernel_rfl)
set_option maxHeartbeats 1000000 in
set_option maxRecDepth 100000 in
theorem O3(b g:Nat)(w:World)(i:w.cell? ⟨b,g,none⟩=some (.pointer (some ⟨b,g,none⟩))) :
  Calls Tryz.prog 180 #[.pointer (some ⟨b,g,none⟩)] w λe w'=>e=.returned (.tuple #[])/\w'=w:=by
 obtain⟨j,h,_⟩:=XQ
 go_enter Tryz.func180,Tryz.ntmps180
 go_wp2
 rw[Lib.run_neq_ptr_same w _ Tryz.underlying95 h]
 go_wp2
 go_end0
 exact⟨rfl,rfl⟩
set_option maxHeartbeats 1000000 in
set_option maxRecDepth 100000 in
theorem My(T k g:Nat)(h:liesAt Tryz.prog Tryz.prog.depth T (k / Tryz.prog.cellsOf T) g 98 1=true)(b:Nat)(w:World)(s:w.cell? ⟨b,g,none⟩=some (.pointer none))(o:w.shape? b=some (T,k))(r:w.frozen? ⟨b,g,none⟩=false)(i:g<k) :
  Calls Tryz.prog 180 #[.pointer (some ⟨b,g,none⟩)] w λe w'=>e=.returned (.tuple #[])/\w'=w.setCell ⟨b,g,none⟩ (.pointer (some ⟨b,g,none⟩)):=by
 obtain⟨j,q,p⟩:=XQ
 go_enter Tryz.func180,Tryz.ntmps180
 go_wp2
 rw[Lib.run_to_unsafe w ⟨b,g,none⟩ Tryz.underlying95 Tryz.underlying315 q (by rw[p];decide) o i];simp only[Result.andThen];rw[Axg]
 go_wp2
 rw[run_callFunc_extern Tryz.func236 (by kernel_rfl) (by kernel_rfl) (by kernel_rfl) (e:=Extern.AbiNoEscape.same) (by kernel_rfl),Lib.run_noEscape];simp only[Result.andThen];rw[Axg]
 go_wp2
 rw[Lib.run_from_unsafe w ⟨b,g,none⟩ Tryz.underlying315 Tryz.underlying95 q o h];simp only[Result.andThen];rw[Axg]
 go_wp2
 go_end0
 exact⟨rfl,rfl⟩
theorem GH(w:World)(e:Option Nat):w.grownBy w.drew e:=⟨rfl,rfl,rfl,Abm _,λ_ _ _=>rfl⟩
theorem PW(w:World)(g n:Nat):w.grownBy (w.freeze ⟨g,0,none⟩ n) (some g):=by
 unfold World.freeze;split
 ·exact⟨rfl,rfl,rfl,Abm _,λ_ _ _=>rfl⟩
 ·exact⟨rfl,rfl,rfl,by simp,λk h e=>by grind
⟩
theorem Lk{a b c:World}{e:Option Nat}(h:a.grownBy b e)(k:b.grownBy c e):a.grownBy c e:=
 ⟨k.os.trans h.os,k.tape.trans h.tape,k.output.trans h.output,All h.size k.size,λi g j=>(k.block i (AmR g h.size) j).trans (h.block i g j)⟩
theorem RQ(w:World)(o:Obj)(e:Option Nat):w.grownBy (w.alloc o) e:=⟨rfl,rfl,rfl,by simp,λk g _=>heap_alloc_old w o g⟩
set_option maxHeartbeats 2000000 in
set_option maxRecDepth 100000 in
theorem iN(b o g h:Nat)(l:List UInt8)(i:Array Value)(w:World)(s:l≠[])(u:w.cell? ⟨b,o+1,none⟩=some (.slice (some ⟨g,0,none⟩) l.length h))(B:w.heap[g]?=some (.cells i 5 (0,0)))(t:l.length<=h)(q:h<=maxLen)(A:i.size=h)
  (p:∀j x,l[j]?=some x->w.cell? ((⟨g,0,none⟩:Addr).add j)=some (.int .u8 x.toNat)) :
  Calls Tryz.prog 45 #[.pointer (some ⟨b,o,none⟩)] w λe w'=>e=.returned (.string ⟨l.toArray⟩)/\w.grownBy w' (some g):=by
 have C:l.length≠0:=by simpa using s
 have D:w.drew.cell? ⟨b,o+1,none⟩=some (.slice (some ⟨g,0,none⟩) l.length h):=u;have y:(Builtin.unsafeSliceData_ #[96] 158 #[.slice (some ⟨g,0,none⟩) l.length h]).run Tryz.prog w.drew=.ok (.pointer (some ⟨g,0,none⟩)) w.drew:=
  Lib.run_unsafeSliceData_row _ _ _ _ _ _ (by omega)
 have z:(Builtin.unsafeString_ #[158,3] 9 #[.pointer (some ⟨g,0,none⟩),.int .i64 l.length]).run Tryz.prog w.drew=.ok (.string ⟨l.toArray⟩) (w.drew.freeze ⟨g,0,none⟩ l.length):=by refine Lib.run_unsafeString_row w.drew 158 3 9 5 Tryz.underlying158 (by kernel_rfl) g i.size (by have r:w.drew.heap[g]?=some (.cells i 5 (0,0)):=B;simp[World.shape?,r]) l s (by omega) (by unfold maxLen at q;omega) ?_;simp_all
 go_enter Tryz.func45,Tryz.ntmps45
 go_wp2
 go_region
 all_goals (go_wp2;go_ret;exact⟨rfl,Lk (GH w _) (PW _ _ _)⟩)
set_option maxHeartbeats 2000000 in
set_option maxRecDepth 100000 in
theorem dK(b g:Nat)(w:World)(h:w.cell? ⟨b,g+1,none⟩=some (.slice none 0 0)) :
  Calls Tryz.prog 45 #[.pointer (some ⟨b,g,none⟩)] w λe w'=>e=.returned (.string ⟨#[]⟩)/\w.grownBy w' none:=by
 have j:∀(W:World) (q:Option Addr),(Builtin.unsafeString_ #[158,3] 9 #[.pointer q,.int .i64 0]).run Tryz.prog W=.ok (.string .empty) W:=λW q=>Lib.run_unsafeString_none W _ _ _ q;have o:w.drew.cell? ⟨b,g+1,none⟩=some (.slice none 0 0):=h;have i:(Builtin.unsafeSliceData_ #[96] 158 #[.slice none 0 0]).run Tryz.prog w.drew=.ok (.pointer none) w.drew:=rfl
 go_enter Tryz.func45,Tryz.ntmps45
 go_wp2
 go_region
 all_goals (go_wp2;go_ret;exact⟨rfl,GH w _⟩)
set_option maxHeartbeats 2000000 in
set_option maxRecDepth 100000 in
theorem Ra(b h g:Nat)(i:Array Value)(w:World)(p:w.cell? ⟨b,h+1,none⟩=some (.slice (some ⟨g,0,none⟩) 0 0))(u:w.heap[g]?=some (.cells i 5 (0,0))) :
  Calls Tryz.prog 45 #[.pointer (some ⟨b,h,none⟩)] w λe w'=>e=.returned (.string ⟨#[]⟩)/\w.grownBy w' (some g):=by
 have t:∀(W:World) (q:Option Addr),(Builtin.unsafeString_ #[158,3] 9 #[.pointer q,.int .i64 0]).run Tryz.prog W=.ok (.string .empty) W:=λW q=>Lib.run_unsafeString_none W _ _ _ q;have r:w.drew.cell? ⟨b,h+1,none⟩=some (.slice (some ⟨g,0,none⟩) 0 0):=p;have s:(Builtin.unsafeSliceData_ #[96] 158 #[.slice (some ⟨g,0,none⟩) 0 0]).run Tryz.prog w.drew=.ok (.pointer (some ⟨w.drew.heap.size,0,none⟩)) (w.drew.alloc (.view ⟨g,0,none⟩ 5)):=
  Lib.run_unsafeSliceData_zero w.drew _ _ 5 Tryz.underlying158 ⟨g,0,none⟩ 0 (5,i.size) (by have j:w.drew.heap[g]?=some (.cells i 5 (0,0)):=u;simp[World.shape?,j])
 have o:b<w.heap.size:=Ax1 w _ p;have c3:(w.drew.alloc (.view ⟨g,0,none⟩ 5)).cell? ⟨b,h+1,none⟩=some (.slice (some ⟨g,0,none⟩) 0 0):=by rw[AxA (w:=w.drew) (heap_alloc_old w.drew _ o)];exact r
 have y:(w.alloc (.view ⟨g,0,none⟩ 5)).drew.cell? ⟨b,h+1,none⟩=some (.slice (some ⟨g,0,none⟩) 0 0):=c3
 go_enter Tryz.func45,Tryz.ntmps45
 go_wp2
 go_region
 all_goals (go_wp2;go_ret;exact⟨rfl,Lk (GH w _) (RQ _ _ _)⟩)
set_option maxHeartbeats 2000000 in
set_option maxRecDepth 100000 in
theorem Zu(b i g h:Nat)(w:World)(j:h≠0)(o:w.cell? ⟨b,i+1,none⟩=some (.slice (some ⟨g,0,none⟩) 0 h)) :
  Calls Tryz.prog 45 #[.pointer (some ⟨b,i,none⟩)] w λe w'=>e=.returned (.string ⟨#[]⟩)/\w.grownBy w' (some g):=by
 have r:∀(W:World) (q:Option Addr),(Builtin.unsafeString_ #[158,3] 9 #[.pointer q,.int .i64 0]).run Tryz.prog W=.ok (.string .empty) W:=λW q=>Lib.run_unsafeString_none W _ _ _ q;have s:w.drew.cell? ⟨b,i+1,none⟩=some (.slice (some ⟨g,0,none⟩) 0 h):=o;have p:(Builtin.unsafeSliceData_ #[96] 158 #[.slice (some ⟨g,0,none⟩) 0 h]).run Tryz.prog w.drew=.ok (.pointer (some ⟨g,0,none⟩)) w.drew:=
  Lib.run_unsafeSliceData_row _ _ _ _ _ _ j
 clear j
 go_enter Tryz.func45,Tryz.ntmps45
 go_wp2
 go_region
 all_goals (go_wp2;go_ret;exact⟨rfl,GH w _⟩)
theorem Lo(b h:Nat)(l:List UInt8)(v:Value)(B:Nat)(w:World)(p:w.cell? ⟨b,Nat.succ h,none⟩=some v)(i:w.ownsRow B 5 1 v l.length (Lib.byteCells l)) :
  Calls Tryz.prog 45 #[.pointer (some ⟨b,h,none⟩)] w λe w'=>e=.returned (.string ⟨l.toArray⟩)/\w.grownBy w' v.ownBlock:=by
 have r:=i;rcases i.2 with⟨rfl,q⟩|⟨g,cap,cur,rfl,hbg,hg,hnc,hcm,hcs,htake⟩
 ·have:l=[]:=ArL q;subst this;exact dK b h w p
 ·by_cases q:l=[]
  ·subst q;by_cases o:cap=0
   ·subst o;exact Ra b h g cur w p hg
   ·exact Zu b h g cap w o p
  ·refine iN b h g cap l cur w q p hg hnc hcm (by simpa using hcs) λj x s=>?_;exact i.cells (g:=g) rfl j (.int .u8 x.toNat) (by simp[Lib.byteCells,s])
set_option maxRecDepth 100000 in
theorem Ze(W0:World)(e:List (TypeId×Nat×Nat))(h:∀p∈e,liesAt Tryz.prog Tryz.prog.depth p.1 (p.2.1 / Tryz.prog.cellsOf p.1) p.2.2 98 1=true):AX Tryz.prog W0 (zI 180 e):=by
 have r:callable Tryz.prog 180=true:=by kernel_rfl
 refine Aas r O3 ?_;intro T k i s b w q o j g;exact My T k i (h (T,k,i) s) b w q o j g
set_option maxRecDepth 100000 in
theorem Z4(W0:World):AX Tryz.prog W0 (AaS 45 5):=by
 have e:callable Tryz.prog 45=true:=by kernel_rfl
 exact zE e Lo
end Go.Ir

namespace Go.Ir
variable[FW]
def Cs(P:Program)(f:FuncId)(F:E6):Bool:=Au P f F.nt F.ic F.rs&&F.ic.cl
def B7(m:Nat)(a b:FuncId->Option E6):FuncId->Option E6:=λf=>bif Nat.blt f m then a f else b f
def B3(d:FuncId)(F:E6):FuncId->Option E6:=λf=>bif Nat.beq f d then some F else none
theorem Iy.node{P:Program}{m:Nat}{a b:FuncId->Option E6}(g:Iy P a)(i:Iy P b):Iy P (B7 m a b):=by
 intro f F h;unfold B7 at h;cases e:Nat.blt f m with
 | true=>rw[e] at h;exact g f F h
 | false=>rw[e] at h;exact i f F h
theorem Iy.leaf{P:Program}{d:FuncId}{F:E6}(g:Cs P d F=true):Iy P (B3 d F):=by
 intro f G h;unfold B3 at h;cases e:Nat.beq f d with
 | true=>rw[e] at h;cases h;obtain rfl:=Ath e;unfold Cs at g;simpa using g
 | false=>rw[e] at h;cases h
def ApB(o:Option (V×Al×Nat)):Option V:=match o with
 | some r=>some r.1
 | none=>none
theorem Ro{P:Program}{W0:World}{T:FuncId->Option E6}{B:AQ}{K k:Nat}(i:Iy P T)(hB:AX P W0 B)(g:GV P){f:FuncId}{args:List V}{v:V}(h:ApB (MB T B K k f args [] 0)=some v)(j:Ku 0 args=true)(p:Oa 0 v=true)(o:f≠HR:=by decide):An P W0 f args [] v []:=by
 cases e:MB T B K k f args [] 0 with
 | none=>rw[e] at h;cases h
 | some r=>rw[e] at h;cases h;obtain⟨v,σ,n⟩:=r;exact TN i hB g e j p o
end Go.Ir
section
namespace Go.Ir
open Go.RowKit
variable[FW]
def rO(e:BinOp)(b:Int):Prop:=
 match e with
 | .add|.sub|.mul|.eql|.neq|.lss|.leq|.gtr|.geq=>True
 | .quo|.rem=>b≠0
 | _=>False
def uW(e:BinOp)(k:IntKind)(a b:Int):V:=
 match e with
 | .add=>.i k (k.wrap (a+b))
 | .sub=>.i k (k.wrap (a-b))
 | .mul=>.i k (k.wrap (a*b))
 | .quo=>.i k (k.wrap (a.tdiv b))
 | .rem=>.i k (a.tmod b)
 | .eql=>.b (a==b)
 | .neq=>.b (a !=b)
 | .lss=>.b (decide (a<b))
 | .leq=>.b (decide (a<=b))
 | .gtr=>.b (decide (a>b))
 | .geq=>.b (decide (a>=b))
 | _=>.any
def iY(e:BinOp)(a b:List UInt8):Prop:=
 match e with
 | .add=>a.length+b.length<=AA
 | .eql|.neq|.lss|.leq|.gtr|.geq=>True
 | _=>False
def i7(e:BinOp)(a b:List UInt8):V:=
 match e with
 | .add=>.s (a++b)
 | .eql=>.b (a==b)
 | .neq=>.b (!(a==b))
 | .lss=>.b (Op.bytesLess a b)
 | .leq=>.b (Op.bytesLess a b||a==b)
 | .gtr=>.b (!(Op.bytesLess a b||a==b))
 | .geq=>.b (!Op.bytesLess a b)
 | _=>.any
def NE(e:BinOp):V->V->Prop
 | .i k _,.i k' b=>k=k'/\rO e b
 | .s a,.s b=>iY e a b
 | _,_=>False
def RC(e:BinOp):V->V->V
 | .i k a,.i _ b=>uW e k a b
 | .s a,.s b=>i7 e a b
 | _,_=>.any
theorem iP{e:BinOp}{k:IntKind}{a b:Int}{v:V}:Sx e k a b v↔rO e b/\v=uW e k a b:=by cases e<;>simp[Sx,rO,uW]
theorem wZ{e:BinOp}{a b:List UInt8}{v:V}:SO e a b v↔iY e a b/\v=i7 e a b:=by cases e<;>simp[SO,iY,i7]
theorem pI{e:BinOp}{x y v:V}:Pa e x y v↔NE e x y/\v=RC e x y:=by
 unfold Pa;split
 ·simp only[NE,RC,iP,and_assoc]
 ·simp only[NE,RC,wZ]
 ·rename_i g h;have:¬NE e x y:=by unfold NE;grind
  simp[this]
def SY:V->Prop|.b _=>True|_=>False
def N9:V->Bool|.b t=>t|_=>false
theorem W2{v:V}{Q:Bool->Prop}:(∃t,v=.b t/\Q t)↔SY v/\Q (N9 v):=by cases v<;>simp[SY,N9]
def isI:V->Prop|.i _ _=>True|_=>False
def toI:V->Int|.i _ n=>n|_=>0
def kiI:V->IntKind|.i k _=>k|_=>.i64
def isS:V->Prop|.s _=>True|_=>False
def toS:V->List UInt8|.s l=>l|_=>[]
def T8:V->Prop|.ref _ _|.aref _ _ _ _|.ep _ _=>True|_=>False
def Jd:V->Nat->V
 | .ref id o,n=>.ref id (o+n)
 | .aref id g sz o,n=>.aref id g sz (o+n)
 | .ep e o,n=>.ep e (o+n)
 | v,_=>v
def EF(σ:Al)(sz:Nat):V->V->Option V
 | .sl es,.i _ n=>if 0<=n then(es[n.toNat]?).bind λg=>if(cells g).length=sz then some (.ep g 0) else none else none
 | .arr id,.i _ n=>if 0<=n then(match lk σ id with|some (.arr _ e es)=>if e=sz/\n.toNat<es.length then some (.aref id n.toNat sz 0) else none|_=>none) else none
 | _,_=>none
def Gt(σ:Al)(n:Nat)(g:Bool):V->Option V
 | .ref id e=>match lk σ id with|some (.box u)=>sub u e n g|some (.tbox _ u)=>sub u e n g|_=>none
 | .aref id j sz e=>match lk σ id with|some (.arr _ h es)=>if h=sz then(es[j]?).bind λi=>sub i e n g else none|_=>none
 | .ep u e=>sub u e n g
 | _=>none
def FT(σ:Al)(n:Nat)(x:V):V->Option Al
 | .ref id g=>match lk σ id with|some (.box u)=>(Dx u g n x).map λj=>upd σ id (.box j)|some (.tbox t u)=>(Dx u g n x).map λj=>upd σ id (.tbox t j)|_=>none
 | .aref id o sz g=>match lk σ id with|some (.arr e i es)=>if i=sz then(es[o]?).bind λp=>(Dx p g n x).map λh=>upd σ id (.arr e sz (es.set o h)) else none|_=>none
 | _=>none
def Pc:V->V->Option V
 | .s l,.i _ n=>if 0<=n then(l[n.toNat]?).map λc=>.i .u8 c.toNat else none
 | _,_=>none
section
variable{P:Program}{W0:World}{ep:Nat}{l:List I}{env:AE}{σ:Al}{K:AE→Al→Prop}
theorem C9{d:Option Nat}{e:AG}:Aw P W0 ep (⟨d,e,none,[]⟩::l) env σ K↔∃v σ',E P W0 ep d e (get env) σ v σ'/\Aw P W0 ep l (put env d v) σ' K:=by simp[Aw,Cx,EA,bB,K7]
theorem AsG{d:Option Nat}{e:AG}{x:X}{ap:List X}(p:e.cl=false):Aw P W0 ep (⟨d,e,none,x::ap⟩::l) env σ K↔bB ⟨d,e,none,x::ap⟩ (get env)/\Aw P W0 ep (⟨d,e,none,[]⟩::l) env σ K:=by
 simp only[Aw,Cx,EA];constructor
 ·rintro⟨v,σ',⟨g,i,_⟩,j⟩;exact⟨i,v,σ',⟨g,λx o=>(by cases o),λ_ x o=>(by cases o)⟩,j⟩
 ·rintro⟨i,v,σ',⟨g,_⟩,j⟩;exact⟨v,σ',⟨g,i,λh=>by rw[p] at h;cases h⟩,j⟩
def ID(e:Bool)(v:V)(x y:Prop):Prop:=
 match v with
 | .b t=>(t=e->x)/\(t≠e->y)
 | .tup []=>y
 | _=>False
theorem I4{d:Option Nat}{e:AG}{C:Prop}{val:V}{τ:Al}(h:∀v σ',E P W0 ep d e (get env) σ v σ'↔C/\v=val/\σ'=τ) :
  Aw P W0 ep (⟨d,e,none,[]⟩::l) env σ K↔C/\Aw P W0 ep l (put env d val) τ K:=by
 rw[C9];grind
theorem Ll{d:Option Nat}{e:AG}{C:Prop}{o:Option V}(h:∀v σ',E P W0 ep d e (get env) σ v σ'↔C/\o=some v/\σ'=σ) :
  Aw P W0 ep (⟨d,e,none,[]⟩::l) env σ K↔C/\o.isSome=true/\Aw P W0 ep l (put env d (o.getD .any)) σ K:=by
 rw[C9];constructor
 ·grind
 ·rintro⟨j,g,i⟩;cases o with
  | none=>cases g
  | some v=>grind
variable{d:Nat}
theorem AsT{x:X}:Aw P W0 ep (⟨some d,.mv x,none,[]⟩::l) env σ K↔Aw P W0 ep l ((d,ev (get env) x)::env) σ K:=
 (I4 (C:=True) (val:=ev (get env) x) (τ:=σ) λv σ'=>by simp[E]).trans (by simp[put])
theorem Ail{c a b:X}:Aw P W0 ep (⟨some d,.pick c a b,none,[]⟩::l) env σ K↔SY (ev (get env) c)/\Aw P W0 ep l ((d,bif N9 (ev (get env) c) then ev (get env) a else ev (get env) b)::env) σ K:=
 I4 λv σ'=>by simp only[E];exact W2
theorem An0{e:BinOp}{x y:X}:Aw P W0 ep (⟨some d,.bin e x y,none,[]⟩::l) env σ K↔NE e (ev (get env) x) (ev (get env) y)/\Aw P W0 ep l ((d,RC e (ev (get env) x) (ev (get env) y))::env) σ K:=
 I4 λv σ'=>by simp only[E,pI,and_assoc]
theorem Aqq{e:Bool}{x y:X}:Aw P W0 ep (⟨some d,.eqb e x y,none,[]⟩::l) env σ K↔(SY (ev (get env) x)/\SY (ev (get env) y))/\Aw P W0 ep l ((d,.b (if e then !(N9 (ev (get env) x)==N9 (ev (get env) y)) else N9 (ev (get env) x)==N9 (ev (get env) y)))::env) σ K:=
 I4 λv σ'=>by simp only[E];cases ev (get env) x<;>cases ev (get env) y<;>simp[SY,N9]
theorem Aou{x:X}:Aw P W0 ep (⟨some d,.not x,none,[]⟩::l) env σ K↔SY (ev (get env) x)/\Aw P W0 ep l ((d,.b (!(N9 (ev (get env) x))))::env) σ K:=
 I4 λv σ'=>by simp only[E];exact W2
theorem Aqt{k:IntKind}{x:X}:Aw P W0 ep (⟨some d,.cvi k x,none,[]⟩::l) env σ K↔isI (ev (get env) x)/\Aw P W0 ep l ((d,.i k (k.wrap (toI (ev (get env) x))))::env) σ K:=
 I4 λv σ'=>by
  simp only[E];cases ev (get env) x<;>(try (simp[isI,toI];done))
  rename_i k' n;simp only[isI,toI,true_and];grind
theorem AaO{x:X}{e:Nat}:Aw P W0 ep (⟨some d,.faddr x e,none,[]⟩::l) env σ K↔T8 (ev (get env) x)/\Aw P W0 ep l ((d,Jd (ev (get env) x) e)::env) σ K:=
 I4 λv σ'=>by simp only[E];cases ev (get env) x<;>simp[T8,Jd]
theorem Aam{x i:X}{e sz:Nat}:Aw P W0 ep (⟨some d,.iaddr x i e sz,none,[]⟩::l) env σ K↔True/\(EF σ sz (ev (get env) x) (ev (get env) i)).isSome=true/\Aw P W0 ep l ((d,(EF σ sz (ev (get env) x) (ev (get env) i)).getD .any)::env) σ K:=
 Ll λv σ'=>by
  simp only[E,true_and];cases g:ev (get env) i<;>(try (cases ev (get env) x<;>simp[EF];done))
  rename_i k n;cases h:ev (get env) x<;>(try (simp[EF];done))
  ·rename_i es;simp only[EF];grind
  ·rename_i id;simp only[EF];grind
theorem Aqr{x i:X}:Aw P W0 ep (⟨some d,.idx x i,none,[]⟩::l) env σ K↔True/\(Pc (ev (get env) x) (ev (get env) i)).isSome=true/\Aw P W0 ep l ((d,(Pc (ev (get env) x) (ev (get env) i)).getD .any)::env) σ K:=
 Ll λv σ'=>by
  simp only[E,true_and];cases e:ev (get env) i<;>(try (cases ev (get env) x<;>simp[Pc];done))
  rename_i k n;cases g:ev (get env) x<;>(try (simp[Pc];done))
  rename_i l;simp only[Pc];grind
theorem AkF{x:X}{n:Nat}{e:Bool}:Aw P W0 ep (⟨some d,.load x n e,none,[]⟩::l) env σ K↔True/\(Gt σ n e (ev (get env) x)).isSome=true/\Aw P W0 ep l ((d,(Gt σ n e (ev (get env) x)).getD .any)::env) σ K:=
 Ll λv σ'=>by
  simp only[E,true_and];cases j:ev (get env) x<;>(try (simp[Gt];done))
  ·rename_i id g;simp only[Gt];cases i:lk σ id with
   | none=>simp
   | some h=>cases h<;>simp[ldB]
  ·rename_i id o sz g;simp only[Gt];grind
end
end Go.Ir
end
section
namespace Go.Ir
open Go.RowKit
variable[FW]
def Hr(sz:Nat):List V->Prop
 | []=>True
 | x::xs=>(x.ok=true/\(cells x).length=sz)/\Hr sz xs
theorem KA{sz:Nat}:∀{xs:List V},(∀x∈xs,x.ok=true/\(cells x).length=sz)↔Hr sz xs
 | []=>by simp[Hr]
 | x::xs=>by simp[Hr,KA (xs:=xs)]
def YN(g:Nat->V):List (Nat×Nat×X)->Prop
 | []=>True
 | p::ps=>(ev g p.2.2).ok=true/\YN g ps
theorem SK{g:Nat->V}:∀{ps:List (Nat×Nat×X)},(∀p∈ps,(ev g p.2.2).ok=true)↔YN g ps
 | []=>by simp[YN]
 | p::ps=>by have:=SK (g:=g) (ps:=ps);simp only[YN,AqN,forall_eq_or_imp,this]
def Kt(g:Nat->V)(h e:Option X):V->Option V
 | .s l=>(FP g 0 h).bind λa=>(FP g l.length e).bind λb=>if a<=b/\b<=l.length then some (.s ((l.take b).drop a)) else none
 | _=>none
def Hx(g:Nat->V)(h e:Option X)(es:List V):Option V:=
 (FP g 0 h).bind λa=>(FP g es.length e).bind λb=>if a<=b/\b<=es.length then some (.sl ((es.take b).drop a)) else none
def isL(sz:Nat):V->Prop
 | .sl es=>∀y∈es,(cells y).length=sz
 | .nil=>True
 | _=>False
def toL:V->List V
 | .sl es=>es
 | _=>[]
def N5(σ:Al)(id:Id)(e sz:Nat)(xs:List V):V->Option Al
 | .nil=>if xs.length<=AK then some ((id,.arr e sz xs)::σ) else none
 | .arr g=>match lk σ g with
  | some (.arr e' h es)=>if e'=e/\h=sz/\es.length+xs.length<=AK then some ((id,.arr e sz (es++xs))::del σ g) else none
  | _=>none
 | _=>none
def Ud(k:Nat):V->Option V
 | .tup vs=>vs[k]?
 | _=>none
def isN:V->Prop
 | .ref _ _|.aref _ _ _ _|.ep _ _|.fn _ _ _=>True
 | _=>False
section
variable{P:Program}{W0:World}{ep:Nat}{l:List I}{env:AE}{σ:Al}{K:AE→Al→Prop}
theorem AdL{d:Option Nat}{e:AG}{C:Prop}{val:V}{o:Option Al}(h:∀v σ',E P W0 ep d e (get env) σ v σ'↔C/\v=val/\o=some σ') :
  Aw P W0 ep (⟨d,e,none,[]⟩::l) env σ K↔C/\o.isSome=true/\Aw P W0 ep l (put env d val) (o.getD []) K:=by
 rw[C9];constructor
 ·grind
 ·rintro⟨j,g,i⟩;cases o with
  | none=>cases g
  | some τ=>grind
theorem AbZ{a x:X}{n:Nat}:Aw P W0 ep (⟨none,.store a x n,none,[]⟩::l) env σ K↔(ev (get env) x).ok=true/\(FT σ n (ev (get env) x) (ev (get env) a)).isSome=true/\Aw P W0 ep l env ((FT σ n (ev (get env) x) (ev (get env) a)).getD []) K:=
 AdL λv σ'=>by
  simp only[E];refine and_congr_right λ_=>and_congr_right λ_=>?_;cases ev (get env) a<;>(try (simp[FT];done))
  ·rename_i id g;simp only[FT];cases y:lk σ id with
   | none=>simp
   | some j=>
    cases j with
    | arr e sz es=>simp[Yz]
    | map _=>simp[Yz]
    | it _ _=>simp[Yz]
    | mit _ _ _ _=>simp[Yz]
    | loop _ _ _ _ _ _ _=>simp[Yz]
    | box u=>
     constructor
     ·rintro⟨j,o,p,h,rfl⟩;cases p;simp only[Yz] at h;cases i:Dx u g n (ev (get env) x) with
      | none=>rw[i] at h;cases h
      | some w=>grind
     ·intro h;cases i:Dx u g n (ev (get env) x) with
      | none=>grind
      | some w=>simp only[i] at h;cases h;exact⟨_,_,rfl,by simp only[Yz,i];rfl,rfl⟩
    | tbox t u=>
     constructor
     ·rintro⟨j,o,p,h,rfl⟩;cases p;simp only[Yz] at h;cases i:Dx u g n (ev (get env) x) with
      | none=>rw[i] at h;cases h
      | some w=>grind
     ·intro h;cases i:Dx u g n (ev (get env) x) with
      | none=>grind
      | some w=>simp only[i] at h;cases h;exact⟨_,_,rfl,by simp only[Yz,i];rfl,rfl⟩
  ·rename_i id z sz g;simp only[FT];cases y:lk σ id with
   | none=>simp
   | some j=>
    cases j with
    | box u=>simp
    | tbox _ _=>simp
    | map _=>simp
    | it _ _=>simp
    | mit _ _ _ _=>simp
    | loop _ _ _ _ _ _ _=>simp
    | arr e A es=>
     simp only[AkA,Ax.arr.injEq];constructor
     ·grind
     ·intro h;split at h
      ·rename_i q;subst q;cases r:es[z]? with
       | none=>rw[r] at h;cases h
       | some s=>
        rw[r] at h;simp only[Aw7] at h;cases i:Dx s g n (ev (get env) x) with
        | none=>rw[i] at h;cases h
        | some w=>grind
      ·cases h
variable{d:Nat}
theorem Apl{x:X}:Aw P W0 ep (⟨some d,.box x,none,[]⟩::l) env σ K↔(ev (get env) x).ok=true/\Aw P W0 ep l ((d,.ref (ep,d) 0)::env) (((ep,d),.box (ev (get env) x))::σ) K:=
 I4 λv σ'=>by simp only[E,AkA];grind
theorem y8{z:V}:Aw P W0 ep (⟨some d,.alloc z,none,[]⟩::l) env σ K↔True/\Aw P W0 ep l ((d,.ref (ep,d) 0)::env) (((ep,d),.box z)::σ) K:=
 I4 λv σ'=>by simp only[E,AkA,true_and];grind
theorem zW{z:List V}{ps:List (Nat×Nat×X)}:Aw P W0 ep (⟨some d,.build z ps,none,[]⟩::l) env σ K↔YN (get env) ps/\(((EL z (ps.map λp=>(p.1,p.2.1,ev (get env) p.2.2))).map V.agg).isSome=true)/\Aw P W0 ep l ((d,((EL z (ps.map λp=>(p.1,p.2.1,ev (get env) p.2.2))).map V.agg).getD .any)::env) σ K:=
 Ll λv σ'=>by
  simp only[E,SK];refine and_congr_right λ_=>and_congr_left λ_=>?_;cases EL z (ps.map λp=>(p.1,p.2.1,ev (get env) p.2.2)) with
  | none=>simp
  | some cs=>simp[eq_comm]
theorem AiS{e sz:Nat}{xs:List X}:Aw P W0 ep (⟨some d,.msl true e sz xs,none,[]⟩::l) env σ K↔Hr sz (xs.map (ev (get env)))/\Aw P W0 ep l ((d,.arr (ep,d))::env) (((ep,d),.arr e sz (xs.map (ev (get env))))::σ) K:=
 I4 λv σ'=>by simp only[E,KA,if_true,AkA];grind
theorem Agy{e sz:Nat}{xs:List X}:Aw P W0 ep (⟨some d,.msl false e sz xs,none,[]⟩::l) env σ K↔Hr sz (xs.map (ev (get env)))/\Aw P W0 ep l ((d,.sl (xs.map (ev (get env))))::env) σ K:=
 I4 λv σ'=>by simp only[E,KA,AcY,if_false]
theorem ApR{x:X}{i g:Option X}:Aw P W0 ep (⟨some d,.slS x i g,none,[]⟩::l) env σ K↔True/\(Kt (get env) i g (ev (get env) x)).isSome=true/\Aw P W0 ep l ((d,(Kt (get env) i g (ev (get env) x)).getD .any)::env) σ K:=
 Ll λv σ'=>by
  simp only[E,true_and];constructor
  ·rintro⟨l,a,b,e,j,o,p,q,rfl,rfl⟩;simp[Kt,e,j,o,p,q]
  ·rintro⟨h,rfl⟩;cases r:ev (get env) x<;>rw[r] at h<;>simp only[Kt] at h<;>(try (cases h;done));rename_i l;cases e:FP (get env) 0 i with
   | none=>rw[e] at h;cases h
   | some a=>
    cases j:FP (get env) l.length g with
    | none=>rw[e,j] at h;cases h
    | some b=>simp_all
theorem Ao9{x:X}{i g:Option X}{sz:Nat}:Aw P W0 ep (⟨some d,.slL x i g sz,none,[]⟩::l) env σ K↔isL sz (ev (get env) x)/\(Hx (get env) i g (toL (ev (get env) x))).isSome=true/\Aw P W0 ep l ((d,(Hx (get env) i g (toL (ev (get env) x))).getD .any)::env) σ K:=
 Ll λv σ'=>by
  simp only[E];constructor
  ·rintro⟨es,a,b,e,j,r,s,t,u,rfl,rfl⟩;rcases e with e|⟨e,rfl⟩
   ·rw[e];exact⟨u,by simp[Hx,toL,j,r,s,t],rfl⟩
   ·rw[e];exact⟨trivial,(by simp only[Hx,j,r,Aw7];exact if_pos ⟨s,t⟩:Hx (get env) i g []=_),rfl⟩
  ·rintro⟨p,h,rfl⟩;have q:∀es:List V,(ev (get env) x=.sl es\/ev (get env) x=.nil/\es=[])->Hx (get env) i g es=some v->(∀y∈es,(cells y).length=sz)->∃es a b,(ev (get env) x=.sl es\/ev (get env) x=.nil/\es=[])/\FP (get env) 0 i=some a/\FP (get env) es.length g=some b/\a<=b/\b<=es.length/\(∀y∈es,(cells y).length=sz)/\v=.sl ((es.take b).drop a)/\σ'=σ':=by
    intro es w h z;unfold Hx at h;cases e:FP (get env) 0 i with
    | none=>rw[e] at h;cases h
    | some a=>
     cases j:FP (get env) es.length g with
     | none=>rw[e,j] at h;cases h
     | some b=>
      simp only[e,j,Aw7] at h;split at h
      ·grind
      ·cases h
   cases o:ev (get env) x<;>rw[o] at p h<;>simp only[isL] at p
   ·have:=q [] (.inr ⟨o,rfl⟩) h (by simp);rw[o] at this;exact this
   ·rename_i es;have:=q es (.inl o) h p;rw[o] at this;exact this
theorem Ajt{x:X}:Aw P W0 ep (⟨some d,.lenS x,none,[]⟩::l) env σ K↔isS (ev (get env) x)/\Aw P W0 ep l ((d,.i .i64 ((toS (ev (get env) x)).length:Nat))::env) σ K:=
 I4 λv σ'=>by simp only[E];cases ev (get env) x<;>simp[isS,toS]
theorem AjD{x:X}:Aw P W0 ep (⟨some d,.lenL x,none,[]⟩::l) env σ K↔(A4 σ (ev (get env) x)).isSome=true/\Aw P W0 ep l ((d,.i .i64 (((A4 σ (ev (get env) x)).getD []).length:Nat))::env) σ K:=
 I4 λv σ'=>by simp only[E];cases A4 σ (ev (get env) x)<;>simp
theorem Apo{s x:X}{e sz:Nat}:Aw P W0 ep (⟨some d,.app s x e sz,none,[]⟩::l) env σ K↔((A4 σ (ev (get env) x)).isSome=true/\∀y∈(A4 σ (ev (get env) x)).getD [],(cells y).length=sz)/\(N5 σ (ep,d) e sz ((A4 σ (ev (get env) x)).getD []) (ev (get env) s)).isSome=true/\Aw P W0 ep l ((d,.arr (ep,d))::env) ((N5 σ (ep,d) e sz ((A4 σ (ev (get env) x)).getD []) (ev (get env) s)).getD []) K:=
 AdL λv σ'=>by
  simp only[E,AkA];cases A4 σ (ev (get env) x) with
  | none=>simp
  | some xs=>
   simp only[AkA,Ars,Option.getD_some,true_and];constructor
   ·rintro⟨q,p,rfl,rfl,h,rfl,g⟩;refine⟨h,rfl,?_⟩;cases i:ev (get env) s<;>rw[i] at g<;>simp only at g<;>(try (exact g.elim))
    ·simp[N5,g]
    ·obtain⟨es,j,o,rfl⟩:=g;simp[N5,j,o]
   ·rintro⟨h,rfl,g⟩;refine⟨d,xs,rfl,rfl,h,rfl,?_⟩;cases i:ev (get env) s<;>rw[i] at g<;>simp only[N5] at g<;>(try (cases g;done))
    ·grind
    grind
theorem Aoo{x:X}{k:Nat}:Aw P W0 ep (⟨some d,.ext x k,none,[]⟩::l) env σ K↔True/\(Ud k (ev (get env) x)).isSome=true/\Aw P W0 ep l ((d,(Ud k (ev (get env) x)).getD .any)::env) σ K:=
 Ll λv σ'=>by simp only[E];cases ev (get env) x<;>simp[Ud]
theorem AhF{f:FuncId}{first e:List X}:Aw P W0 ep (⟨some d,.mkfn f first e,none,[]⟩::l) env σ K↔True/\Aw P W0 ep l ((d,.fn f (first.map (ev (get env))) (e.map (ev (get env))))::env) σ K:=
 I4 λv σ'=>by simp[E]
theorem AsR{e:Bool}{x:X}{xs:List X}:Aw P W0 ep (⟨some d,.mx e x xs,none,[]⟩::l) env σ K↔True/\(PZ e (ev (get env) x) (xs.map (ev (get env)))).isSome=true/\Aw P W0 ep l ((d,(PZ e (ev (get env) x) (xs.map (ev (get env)))).getD .any)::env) σ K:=
 Ll λv σ'=>by simp[E]
theorem AcH{x:X}:Aw P W0 ep (⟨some d,.nilck x,none,[]⟩::l) env σ K↔isN (ev (get env) x)/\Aw P W0 ep l ((d,ev (get env) x)::env) σ K:=
 I4 λv σ'=>Iff.rfl
end
theorem wrap64{n:Int}(e:-9223372036854775808<=n)(g:n<9223372036854775808):IntKind.i64.wrap n=n:=by simp only[IntKind.wrap,IntKind.bits,IntKind.signed] at *;simp;omega
theorem AcM{e:Bool}{v:V}:PZ e v []=some v:=by cases v<;>rfl
theorem Amb{e:Bool}{k:IntKind}{a b:Int}{r:List V}:PZ e (.i k a) (.i k b::r)=PZ e (.i k (if e=true then min a b else max a b)) r:=by simp[PZ]
end Go.Ir
end
namespace Go.Ir
open Go.RowKit
variable[FW]
def TJ(o:Option Ax)(id:Id)(sz:Nat)(n:Int):Option V:=
 match o with|some (.arr _ e es)=>if e=sz/\n.toNat<es.length then some (.aref id n.toNat sz 0) else none|_=>none
def XA(h:Option Ax)(e n:Nat)(g:Bool):Option V:=match h with|some (.box u)=>sub u e n g|some (.tbox _ u)=>sub u e n g|_=>none
def nD(j:Option Ax)(o sz e n:Nat)(h:Bool):Option V:=match j with|some (.arr _ g es)=>if g=sz then(es[o]?).bind λi=>sub i e n h else none|_=>none
def Qh(h:Option Ax)(σ:Al)(n:Nat)(x:V)(id:Id)(e:Nat):Option Al:=match h with|some (.box u)=>(Dx u e n x).map λg=>upd σ id (.box g)|some (.tbox t u)=>(Dx u e n x).map λg=>upd σ id (.tbox t g)|_=>none
def AgM(p:Option Ax)(σ:Al)(n:Nat)(x:V)(id:Id)(j sz h:Nat):Option Al:=match p with|some (.arr e i es)=>if i=sz then(es[j]?).bind λo=>(Dx o h n x).map λg=>upd σ id (.arr e sz (es.set j g)) else none|_=>none
def AiM(i:Option Ax)(σ:Al)(id g:Id)(e sz:Nat)(xs:List V):Option Al:=match i with|some (.arr e' h es)=>if e'=e/\h=sz/\es.length+xs.length<=AK then some ((id,.arr e sz (es++xs))::del σ g) else none|_=>none
def Ul:Option Ax->Option (List V)|some (.arr _ _ es)=>some es|_=>none
def AcW:V->Option Nat|.i _ n=>if 0<=n then some n.toNat else none|_=>none
theorem Abf{x:Bool}:cells (.b x)=[(.b x)]:=rfl
theorem AtE{x:Bool}:V.ok (.b x)=true:=rfl
theorem Aaj{k:IntKind}{n:Int}:cells (.i k n)=[(.i k n)]:=rfl
theorem AsM{k:IntKind}{n:Int}:V.ok (.i k n)=true:=rfl
theorem yY{l:List UInt8}:cells (.s l)=[(.s l)]:=rfl
theorem AtM{l:List UInt8}:V.ok (.s l)=true:=rfl
theorem bW:cells .nil=[.nil]:=rfl
theorem Akc:V.ok .nil=true:=rfl
theorem gD{es:List V}:cells (.sl es)=[(.sl es)]:=rfl
theorem ApH{es:List V}:V.ok (.sl es)=true:=rfl
theorem Zs{cs:List V}:cells (.agg cs)=cs:=rfl
theorem Ahy{cs:List V}:V.ok (.agg cs)=true:=rfl
theorem ZM{id:Id}{o:Nat}:cells (.ref id o)=[(.ref id o)]:=rfl
theorem Aj5{id:Id}{o:Nat}:V.ok (.ref id o)=true:=rfl
theorem bA{id:Id}:cells (.arr id)=[(.arr id)]:=rfl
theorem AiV{id:Id}:V.ok (.arr id)=true:=rfl
theorem Tp{id:Id}{e:Nat}{sz:Nat}{o:Nat}:cells (.aref id e sz o)=[(.aref id e sz o)]:=rfl
theorem Aag{id:Id}{e:Nat}{sz:Nat}{o:Nat}:V.ok (.aref id e sz o)=true:=rfl
theorem cN{e:V}{o:Nat}:cells (.ep e o)=[(.ep e o)]:=rfl
theorem AnX{e:V}{o:Nat}:V.ok (.ep e o)=true:=rfl
theorem vU{f:FuncId}{a:List V}{c:List V}:cells (.fn f a c)=[(.fn f a c)]:=rfl
theorem Amu{f:FuncId}{a:List V}{c:List V}:V.ok (.fn f a c)=true:=rfl
theorem nY:cells .np=[.np]:=rfl
theorem Am6:V.ok .np=true:=rfl
theorem tI:cells .nf=[.nf]:=rfl
theorem Aoq:V.ok .nf=true:=rfl
theorem uJ:cells .ni=[.ni]:=rfl
theorem AoK:V.ok .ni=true:=rfl
theorem Aar{cs:List V}:Q6 (.agg cs)=true:=rfl
theorem ApF{x:Bool}:SY (.b x)=True:=rfl
theorem AlT{x:Bool}:N9 (.b x)=x:=rfl
theorem AoN{k:IntKind}{n:Int}:isI (.i k n)=True:=rfl
theorem Ao5{k:IntKind}{n:Int}:toI (.i k n)=n:=rfl
theorem Amr{k:IntKind}{n:Int}:kiI (.i k n)=k:=rfl
theorem AlF{l:List UInt8}:isS (.s l)=True:=rfl
theorem AnP{l:List UInt8}:toS (.s l)=l:=rfl
theorem dA{id:Id}{o:Nat}:T8 (.ref id o)=True:=rfl
theorem Uk{id:Id}{o:Nat}{m:Nat}:Jd (.ref id o) m=.ref id (o+m):=rfl
theorem Aa6{id:Id}{o:Nat}:isN (.ref id o)=True:=rfl
theorem YO{id:Id}{e:Nat}{sz:Nat}{o:Nat}:T8 (.aref id e sz o)=True:=rfl
theorem QG{id:Id}{e:Nat}{sz:Nat}{o:Nat}{m:Nat}:Jd (.aref id e sz o) m=.aref id e sz (o+m):=rfl
theorem cZ{id:Id}{e:Nat}{sz:Nat}{o:Nat}:isN (.aref id e sz o)=True:=rfl
theorem Aax{e:V}{o:Nat}:T8 (.ep e o)=True:=rfl
theorem Z6{e:V}{o:Nat}{m:Nat}:Jd (.ep e o) m=.ep e (o+m):=rfl
theorem AhS{e:V}{o:Nat}:isN (.ep e o)=True:=rfl
theorem Ah9{f:FuncId}{a:List V}{c:List V}:isN (.fn f a c)=True:=rfl
theorem bQ{σ:Al}{sz:Nat}{es:List V}{k:IntKind}{n:Int}:EF σ sz (.sl es) (.i k n)=if 0<=n then(es[n.toNat]?).bind λe=>if(cells e).length=sz then some (.ep e 0) else none else none:=rfl
theorem T5{σ:Al}{sz:Nat}{id:Id}{k:IntKind}{n:Int}:EF σ sz (.arr id) (.i k n)=if 0<=n then TJ (lk σ id) id sz n else none:=by unfold EF TJ;rfl
theorem Ty{e g:Nat}{es:List V}{id:Id}{sz:Nat}{n:Int}:TJ (some (.arr e g es)) id sz n=if g=sz/\n.toNat<es.length then some (.aref id n.toNat sz 0) else none:=rfl
theorem aA{σ:Al}{n:Nat}{e:Bool}{id:Id}{o:Nat}:Gt σ n e (.ref id o)=XA (lk σ id) o n e:=by unfold Gt XA;rfl
theorem YW{u:V}{o n:Nat}{e:Bool}:XA (some (.box u)) o n e=sub u o n e:=rfl
theorem Tu{t:TypeId}{u:V}{o n:Nat}{e:Bool}:XA (some (.tbox t u)) o n e=sub u o n e:=rfl
theorem TM{σ:Al}{n:Nat}{e:Bool}{id:Id}{g sz o:Nat}:Gt σ n e (.aref id g sz o)=nD (lk σ id) g sz o n e:=by unfold Gt nD;rfl
theorem bG{e g:Nat}{es:List V}{i sz o n:Nat}{h:Bool}:nD (some (.arr e g es)) i sz o n h=if g=sz then(es[i]?).bind λj=>sub j o n h else none:=rfl
theorem iU{σ:Al}{n:Nat}{g:Bool}{e:V}{o:Nat}:Gt σ n g (.ep e o)=sub e o n g:=rfl
theorem Uq{σ:Al}{n:Nat}{x:V}{id:Id}{o:Nat}:FT σ n x (.ref id o)=Qh (lk σ id) σ n x id o:=by unfold FT Qh;rfl
theorem TY{u:V}{σ:Al}{n:Nat}{x:V}{id:Id}{o:Nat}:Qh (some (.box u)) σ n x id o=(Dx u o n x).map λe=>upd σ id (.box e):=rfl
theorem SP{t:TypeId}{u:V}{σ:Al}{n:Nat}{x:V}{id:Id}{o:Nat}:Qh (some (.tbox t u)) σ n x id o=(Dx u o n x).map λe=>upd σ id (.tbox t e):=rfl
theorem UI{e g:Nat}{es:List V}{σ:Al}{n:Nat}{x:V}{id:Id}{i sz o:Nat}:AgM (some (.arr e g es)) σ n x id i sz o=if g=sz then(es[i]?).bind λj=>(Dx j o n x).map λh=>upd σ id (.arr e sz (es.set i h)) else none:=rfl
theorem AhN{l:List UInt8}{k:IntKind}{n:Int}:Pc (.s l) (.i k n)=if 0<=n then(l[n.toNat]?).map λc=>.i .u8 c.toNat else none:=rfl
theorem gQ{g:Nat->V}{h e:Option X}{l:List UInt8}:Kt g h e (.s l)=(FP g 0 h).bind λa=>(FP g l.length e).bind λb=>if a<=b/\b<=l.length then some (.s ((l.take b).drop a)) else none:=rfl
theorem Ag3{sz:Nat}{es:List V}:isL sz (.sl es)=∀y∈es,(cells y).length=sz:=rfl
theorem Abt{sz:Nat}:isL sz .nil=True:=rfl
theorem Akx{es:List V}:toL (.sl es)=es:=rfl
theorem zQ:toL .nil=[]:=rfl
theorem jA{σ:Al}{id:Id}{e sz:Nat}{xs:List V}:N5 σ id e sz xs .nil=if xs.length<=AK then some ((id,.arr e sz xs)::σ) else none:=rfl
theorem eI{σ:Al}{id g:Id}{e sz:Nat}{xs:List V}:N5 σ id e sz xs (.arr g)=AiM (lk σ g) σ id g e sz xs:=by unfold N5 AiM;rfl
theorem eN{e' h:Nat}{es:List V}{σ:Al}{id g:Id}{e sz:Nat}{xs:List V}:AiM (some (.arr e' h es)) σ id g e sz xs=if e'=e/\h=sz/\es.length+xs.length<=AK then some ((id,.arr e sz (es++xs))::del σ g) else none:=rfl
theorem uL{k:Nat}{vs:List V}:Ud k (.tup vs)=vs[k]?:=rfl
theorem TA{σ:Al}{es:List V}:A4 σ (.sl es)=some es:=rfl
theorem RT{σ:Al}:A4 σ .nil=some []:=rfl
theorem SI{σ:Al}{id:Id}:A4 σ (.arr id)=Ul (lk σ id):=by unfold A4 Ul;rfl
theorem Tz{e sz:Nat}{es:List V}:Ul (some (.arr e sz es))=some es:=rfl
theorem Aiq{e:BinOp}{k k':IntKind}{a b:Int}:NE e (.i k a) (.i k' b)=(k=k'/\rO e b):=rfl
theorem AkE{e:BinOp}{a b:List UInt8}:NE e (.s a) (.s b)=iY e a b:=rfl
theorem AkO{e:BinOp}{k k':IntKind}{a b:Int}:RC e (.i k a) (.i k' b)=uW e k a b:=rfl
theorem AiH{e:BinOp}{a b:List UInt8}:RC e (.s a) (.s b)=i7 e a b:=rfl
theorem xE{g:Nat->V}{m:Nat}:FP g m none=some m:=rfl
theorem R0{g:Nat->V}{m:Nat}{x:X}:FP g m (some x)=AcW (ev g x):=by unfold FP AcW;rfl
theorem AkP{k:IntKind}{n:Int}:AcW (.i k n)=if 0<=n then some n.toNat else none:=rfl
end Go.Ir
section
namespace Go.Ir
open Go.RowKit
variable[FW]
def Be(env:AE)(x:X):V:=ev (get env) x
def En(env:AE)(xs:List X):List V:=xs.map (ev (get env))
def psE(env:AE)(ps:List (Nat×Nat×X)):List (Nat×Nat×V):=ps.map λp=>(p.1,p.2.1,ev (get env) p.2.2)
def Sy(env:AE)(ps:List (Nat×Nat×X)):Prop:=YN (get env) ps
def TI(env:AE)(m:Nat)(x:Option X):Option Nat:=FP (get env) m x
def LS(env:AE)(g e:Option X)(v:V):Option V:=Kt (get env) g e v
def LD(env:AE)(g e:Option X)(es:List V):Option V:=Hx (get env) g e es
theorem AnF{env:AE}{s:Nat}:Be env (.t s)=get env s:=rfl
theorem Ans{env:AE}{v:V}:Be env (.c v)=v:=rfl
theorem Aa9{env:AE}:En env []=[]:=rfl
theorem sB{env:AE}{x:X}{xs:List X}:En env (x::xs)=Be env x::En env xs:=rfl
theorem yT{env:AE}:psE env []=[]:=rfl
theorem qM{env:AE}{a b:Nat}{x:X}{ps:List (Nat×Nat×X)}:psE env ((a,b,x)::ps)=(a,b,Be env x)::psE env ps:=rfl
theorem Zw{env:AE}:Sy env []=True:=rfl
theorem UM{env:AE}{a b:Nat}{x:X}{ps:List (Nat×Nat×X)}:Sy env ((a,b,x)::ps)=((Be env x).ok=true/\Sy env ps):=rfl
theorem Zn{env:AE}{m:Nat}:TI env m none=some m:=rfl
theorem aN{env:AE}{m:Nat}{x:X}:TI env m (some x)=AcW (Be env x):=by unfold TI Be;exact R0
theorem Z2{env:AE}{g e:Option X}{l:List UInt8}:LS env g e (.s l)=(TI env 0 g).bind λa=>(TI env l.length e).bind λb=>if a<=b/\b<=l.length then some (.s ((l.take b).drop a)) else none:=rfl
theorem Ug{env:AE}{g e:Option X}{es:List V}:LD env g e es=(TI env 0 g).bind λa=>(TI env es.length e).bind λb=>if a<=b/\b<=es.length then some (.sl ((es.take b).drop a)) else none:=rfl
theorem BF{k s:Nat}{v:V}{r:AE}:get ((k,v)::r) s=if k=s then v else get r s:=rfl
theorem zJ{s:Nat}:get [] s=.any:=rfl
theorem PX{env:AE}:restrict [] env=[]:=rfl
theorem NO{s:Nat}{l:List Nat}{env:AE}:restrict (s::l) env=(s,get env s)::restrict l env:=rfl
section
variable{P:Program}{W0:World}{ep d:Nat}{l:List I}{env:AE}{σ:Al}{K:AE→Al→Prop}
theorem AsW{x:X}:Aw P W0 ep (⟨some d,.mv x,none,[]⟩::l) env σ K↔Aw P W0 ep l ((d,Be env x)::env) σ K:=AsT
theorem Aiu{c a b:X}:Aw P W0 ep (⟨some d,.pick c a b,none,[]⟩::l) env σ K↔SY (Be env c)/\Aw P W0 ep l ((d,bif N9 (Be env c) then Be env a else Be env b)::env) σ K:=Ail
theorem AnA{e:BinOp}{x y:X}:Aw P W0 ep (⟨some d,.bin e x y,none,[]⟩::l) env σ K↔NE e (Be env x) (Be env y)/\Aw P W0 ep l ((d,RC e (Be env x) (Be env y))::env) σ K:=An0
theorem AlB{e:Bool}{x y:X}:Aw P W0 ep (⟨some d,.eqb e x y,none,[]⟩::l) env σ K↔(SY (Be env x)/\SY (Be env y))/\Aw P W0 ep l ((d,.b (if e then !(N9 (Be env x)==N9 (Be env y)) else N9 (Be env x)==N9 (Be env y)))::env) σ K:=Aqq
theorem AnO{x:X}:Aw P W0 ep (⟨some d,.not x,none,[]⟩::l) env σ K↔SY (Be env x)/\Aw P W0 ep l ((d,.b (!(N9 (Be env x))))::env) σ K:=Aou
theorem ApZ{k:IntKind}{x:X}:Aw P W0 ep (⟨some d,.cvi k x,none,[]⟩::l) env σ K↔isI (Be env x)/\Aw P W0 ep l ((d,.i k (k.wrap (toI (Be env x))))::env) σ K:=Aqt
theorem Ac6{x:X}{e:Nat}:Aw P W0 ep (⟨some d,.faddr x e,none,[]⟩::l) env σ K↔T8 (Be env x)/\Aw P W0 ep l ((d,Jd (Be env x) e)::env) σ K:=AaO
theorem yV{x i:X}{e sz:Nat}:Aw P W0 ep (⟨some d,.iaddr x i e sz,none,[]⟩::l) env σ K↔True/\(EF σ sz (Be env x) (Be env i)).isSome=true/\Aw P W0 ep l ((d,(EF σ sz (Be env x) (Be env i)).getD .any)::env) σ K:=Aam
theorem AoX{x i:X}:Aw P W0 ep (⟨some d,.idx x i,none,[]⟩::l) env σ K↔True/\(Pc (Be env x) (Be env i)).isSome=true/\Aw P W0 ep l ((d,(Pc (Be env x) (Be env i)).getD .any)::env) σ K:=Aqr
theorem AiG{x:X}{n:Nat}{e:Bool}:Aw P W0 ep (⟨some d,.load x n e,none,[]⟩::l) env σ K↔True/\(Gt σ n e (Be env x)).isSome=true/\Aw P W0 ep l ((d,(Gt σ n e (Be env x)).getD .any)::env) σ K:=AkF
theorem Abi{a x:X}{n:Nat}:Aw P W0 ep (⟨none,.store a x n,none,[]⟩::l) env σ K↔(Be env x).ok=true/\(FT σ n (Be env x) (Be env a)).isSome=true/\Aw P W0 ep l env ((FT σ n (Be env x) (Be env a)).getD []) K:=AbZ
theorem Ant{x:X}:Aw P W0 ep (⟨some d,.box x,none,[]⟩::l) env σ K↔(Be env x).ok=true/\Aw P W0 ep l ((d,.ref (ep,d) 0)::env) (((ep,d),.box (Be env x))::σ) K:=Apl
theorem AbA{z:V}:Aw P W0 ep (⟨some d,.alloc z,none,[]⟩::l) env σ K↔True/\Aw P W0 ep l ((d,.ref (ep,d) 0)::env) (((ep,d),.box z)::σ) K:=y8
theorem AaZ{z:List V}{ps:List (Nat×Nat×X)}:Aw P W0 ep (⟨some d,.build z ps,none,[]⟩::l) env σ K↔Sy env ps/\(((EL z (psE env ps)).map V.agg).isSome=true)/\Aw P W0 ep l ((d,((EL z (psE env ps)).map V.agg).getD .any)::env) σ K:=zW
theorem AiW{e sz:Nat}{xs:List X}:Aw P W0 ep (⟨some d,.msl true e sz xs,none,[]⟩::l) env σ K↔Hr sz (En env xs)/\Aw P W0 ep l ((d,.arr (ep,d))::env) (((ep,d),.arr e sz (En env xs))::σ) K:=AiS
theorem AkW{e sz:Nat}{xs:List X}:Aw P W0 ep (⟨some d,.msl false e sz xs,none,[]⟩::l) env σ K↔Hr sz (En env xs)/\Aw P W0 ep l ((d,.sl (En env xs))::env) σ K:=Agy
theorem AlQ{x:X}{g e:Option X}:Aw P W0 ep (⟨some d,.slS x g e,none,[]⟩::l) env σ K↔True/\(LS env g e (Be env x)).isSome=true/\Aw P W0 ep l ((d,(LS env g e (Be env x)).getD .any)::env) σ K:=ApR
theorem ApX{x:X}{g e:Option X}{sz:Nat}:Aw P W0 ep (⟨some d,.slL x g e sz,none,[]⟩::l) env σ K↔isL sz (Be env x)/\(LD env g e (toL (Be env x))).isSome=true/\Aw P W0 ep l ((d,(LD env g e (toL (Be env x))).getD .any)::env) σ K:=Ao9
theorem Ak4{x:X}:Aw P W0 ep (⟨some d,.lenS x,none,[]⟩::l) env σ K↔isS (Be env x)/\Aw P W0 ep l ((d,.i .i64 ((toS (Be env x)).length:Nat))::env) σ K:=Ajt
theorem Aho{x:X}:Aw P W0 ep (⟨some d,.lenL x,none,[]⟩::l) env σ K↔(A4 σ (Be env x)).isSome=true/\Aw P W0 ep l ((d,.i .i64 (((A4 σ (Be env x)).getD []).length:Nat))::env) σ K:=AjD
theorem AlR{s x:X}{e sz:Nat}:Aw P W0 ep (⟨some d,.app s x e sz,none,[]⟩::l) env σ K↔((A4 σ (Be env x)).isSome=true/\∀y∈(A4 σ (Be env x)).getD [],(cells y).length=sz)/\(N5 σ (ep,d) e sz ((A4 σ (Be env x)).getD []) (Be env s)).isSome=true/\Aw P W0 ep l ((d,.arr (ep,d))::env) ((N5 σ (ep,d) e sz ((A4 σ (Be env x)).getD []) (Be env s)).getD []) K:=Apo
theorem Aqe{x:X}{k:Nat}:Aw P W0 ep (⟨some d,.ext x k,none,[]⟩::l) env σ K↔True/\(Ud k (Be env x)).isSome=true/\Aw P W0 ep l ((d,(Ud k (Be env x)).getD .any)::env) σ K:=Aoo
theorem AiE{f:FuncId}{first e:List X}:Aw P W0 ep (⟨some d,.mkfn f first e,none,[]⟩::l) env σ K↔True/\Aw P W0 ep l ((d,.fn f (En env first) (En env e))::env) σ K:=AhF
theorem Aso{e:Bool}{x:X}{xs:List X}:Aw P W0 ep (⟨some d,.mx e x xs,none,[]⟩::l) env σ K↔True/\(PZ e (Be env x) (En env xs)).isSome=true/\Aw P W0 ep l ((d,(PZ e (Be env x) (En env xs)).getD .any)::env) σ K:=AsR
theorem AcQ{x:X}:Aw P W0 ep (⟨some d,.nilck x,none,[]⟩::l) env σ K↔isN (Be env x)/\Aw P W0 ep l ((d,Be env x)::env) σ K:=AcH
variable{nt:Nat}{b:IC}{Q:Exit→St→Prop}{st:St}{Inv:Nat→St→Prop}{m k k':Nat}
theorem N7:D7 k Q .normal st=Q .normal st:=rfl
theorem PQ:D7 k Q (.exit k') st=if k'=k then Q .normal st else Q (.exit k') st:=rfl
theorem SA:D7 k Q .ret st=Q .ret st:=rfl
theorem Qw:V9 Inv m Q .normal st=∃e,e<m/\Inv e st:=rfl
theorem TX:V9 Inv m Q (.exit k) st=Q (.exit k) st:=rfl
theorem YF:V9 Inv m Q .ret st=Q .ret st:=rfl
end
end Go.Ir
end
section
namespace Go.Ir
open Go.RowKit
variable[FW]
def J(P:Program)(W0:World)(ep:Nat)(live:List Nat)(Q:Exit->St->Prop)(l:List I)(env:AE)(σ:Al):Prop:=
 Aw P W0 ep l env σ λenv σ=>∀k,Q .normal ⟨restrict live env,σ,ep+1+k⟩
def JP(P:Program)(W0:World)(ep:Nat)(live:List Nat)(Q:Exit->St->Prop)(p:Prop)(l:List I)(env:AE)(σ:Al):Prop:=p/\J P W0 ep live Q l env σ
def JL(P:Program)(W0:World)(ep:Nat)(live:List Nat)(Q:Exit->St->Prop)(p:Prop)(o:Option V)(l:List I)(d:Nat)(env:AE)(σ:Al):Prop:=p/\o.isSome=true/\J P W0 ep live Q l ((d,o.getD .any)::env) σ
def JT(P:Program)(W0:World)(ep:Nat)(live:List Nat)(Q:Exit->St->Prop)(p:Prop)(o:Option Al)(l:List I)(env:AE):Prop:=p/\o.isSome=true/\J P W0 ep live Q l env (o.getD [])
def VU(P:Program)(W0:World)(ep:Nat)(live:List Nat)(Q:Exit->St->Prop)(v:V)(e:Bool)(d:Option Nat)(g:AG)(ap:List X)(l:List I)(env:AE)(σ:Al):Prop:=
 ID e v (J P W0 ep live Q (⟨d,g,none,ap⟩::l) env σ) (J P W0 ep live Q l (put env d (.tup [])) σ)
def QO(P:Program)(W0:World)(ep:Nat)(live:List Nat)(Q:Exit->St->Prop)(f:FuncId)(vs:List V)(l:List I)(d:Nat)(env:AE)(σ:Al):Prop:=
 ∃v,An P W0 f vs [] v []/\J P W0 ep live Q l ((d,v)::env) σ
def Te(P:Program)(W0:World)(ep:Nat)(live:List Nat)(Q:Exit->St->Prop)(f:FuncId)(vs:List V)(l:List I)(d:Nat)(env:AE)(σ:Al):Prop:=
 ∃v σi,An P W0 f vs σi v σi/\(∀id e,lk σi id=some e->lk σ id=some e)/\J P W0 ep live Q l ((d,v)::env) σ
def Gx(P:Program)(W0:World)(ep:Nat)(live:List Nat)(Q:Exit->St->Prop)(f:FuncId)(vs:List V)(l:List I)(d:Nat)(env:AE)(σ:Al):Prop:=
 ∃v σi σo,An P W0 f vs σi v σo/\(∀id e,lk σi id=some e->lk σ id=some e)/\J P W0 ep live Q l ((d,v)::env) (over σi σo σ)
def Ts(P:Program)(W0:World)(ep:Nat)(live:List Nat)(Q:Exit->St->Prop)(f:FuncId)(vs:List V)(l:List I)(d:Nat)(env:AE)(σ:Al):Prop:=
 ∃x σi σo,Jh P W0 f vs σi x σo/\(∀id e,lk σi id=some e->lk σ id=some e)/\J P W0 ep live Q l ((d,.arr (ep,d))::env) (((ep,d),x)::over σi σo σ)
def Agh(P:Program)(W0:World)(ep:Nat)(live:List Nat)(Q:Exit->St->Prop)(h:V)(vs:List V)(l:List I)(d:Nat)(env:AE)(σ:Al):Prop:=
 match h with
 | .fn f first e=>QO P W0 ep live Q f (first++vs++e) l d env σ
 | _=>False
def L5(P:Program)(W0:World)(ep:Nat)(live:List Nat)(Q:Exit->St->Prop)(h:V)(vs:List V)(l:List I)(d:Nat)(env:AE)(σ:Al):Prop:=
 match h with
 | .fn f first e=>Gx P W0 ep live Q f (first++vs++e) l d env σ
 | _=>False
def Wb(P:Program)(W0:World)(ep:Nat)(live:List Nat)(Q:Exit->St->Prop)(f:FuncId)(vs g:List V)(l:List I)(d:Nat)(env:AE)(σ:Al):Prop:=
 ∃v σi σo,An P W0 f vs σi v σo/\(∀id e,lk σi id=some e->lk σ id=some e)/\(∀y∈g,∀id,Ce y=some id->lk σ id≠none->lk (over σi σo σ) id=lk σ id)/\J P W0 ep live Q l ((d,v)::env) (over σi σo σ)
def AaQ(P:Program)(W0:World)(ep:Nat)(live:List Nat)(Q:Exit->St->Prop)(h:V)(vs g:List V)(l:List I)(d:Nat)(env:AE)(σ:Al):Prop:=
 match h with
 | .fn f first e=>Wb P W0 ep live Q f (first++vs++e) g l d env σ
 | _=>False
def JW(P:Program)(W0:World)(ep:Nat)(live:List Nat)(Q:Exit->St->Prop)(o:Option (Al×V))(l:List I)(d:Nat)(env:AE):Prop:=∃p,o=some p/\J P W0 ep live Q l ((d,p.2)::env) p.1
def JM(P:Program)(W0:World)(ep:Nat)(live:List Nat)(Q:Exit->St->Prop)(k:MkK)(o:Option Ax)(l:List I)(d:Nat)(env:AE)(σ:Al):Prop:=∃e,o=some e/\J P W0 ep live Q l ((d,xZ k (ep,d))::env) (((ep,d),e)::σ)
def Zi(k:RdK)(xs:List V)(e:Option Ax):Option V:=e.bind λe=>rdF k e xs
def rdV(σ:Al)(k:RdK)(xs:List V):V->Option V
 | .arr id=>Zi k xs (lk σ id)
 | _=>none
def wrO(σ:Al)(id:Id)(k:lQ)(xs:List V)(e:Option Ax):Option (Al×V):=e.bind λe=>(o4 k e xs).map λr=>(upd σ id r.1,r.2)
def wrV(σ:Al)(k:lQ)(xs:List V):V->Option (Al×V)
 | .arr id=>wrO σ id k xs (lk σ id)
 | _=>none
def d9(σ:Al)(id:Id)(n:Nat):Option Ax->Option (Al×V)
 | some (.box (.agg cs))=>if cs.length=n/\cs.all (λc=>!Q6 c)=true then some (del σ id,.sl cs) else none
 | _=>none
def Abv(σ:Al)(n:Nat):V->Option (Al×V)
 | .ref id 0=>d9 σ id n (lk σ id)
 | _=>none
def Ka(σ:Al)(e mid:Id):Option Ax->Option (Al×V)
 | some (.map es)=>some ((e,.mit mid es.length [] es.length)::σ,.arr e)
 | _=>none
def L8(σ:Al)(e:Id):V->Option (Al×V)
 | .arr mid=>Ka σ e mid (lk σ mid)
 | _=>none
def Ju(i:Option Nat)(e:Nat):Option Ax->Option V
 | some (.map es)=>if e=es.length then i.bind λi=>(es[i]?).map λg=>.tup [g.1,g.2] else none
 | _=>none
def Jj(σ:Al):Option Ax->Option V
 | some (.mit mid _ seen e)=>Ju seen.getLast? e (lk σ mid)
 | _=>none
def Kd(σ:Al):V->Option V
 | .arr id=>Jj σ (lk σ id)
 | _=>none
def Sm:Option Ax->Nat
 | some (.arr _ _ es)=>es.length
 | _=>0
def Nm(σ:Al):V->Nat
 | .arr id=>Sm (lk σ id)
 | _=>0
def OC:V->Nat
 | .s l=>l.length
 | _=>0
def QE(σ:Al)(id g:Id)(e:TypeId)(l:List UInt8):Option Ax->Option (Al×V)
 | some (.arr e' sz es)=>if e'=e/\sz=1 then some ((g,.arr e 1 (es++Ay l))::del σ id,.arr g) else none
 | _=>none
def Oi(σ:Al)(g:Id)(e:TypeId)(l:List UInt8):V->Option (Al×V)
 | .nil=>some ((g,.arr e 1 (Ay l))::σ,.arr g)
 | .arr id=>QE σ id g e l (lk σ id)
 | _=>none
def Wv(σ:Al)(g:Id)(e:TypeId)(s:V):V->Option (Al×V)
 | .s l=>Oi σ g e l s
 | _=>none
def lC(σ:Al)(id g:Id)(sz:Nat)(h:V):Option Ax->Option (Al×V)
 | some (.arr e j es)=>if j=sz then(match h with
  | .i _ n=>if 0<=n then(if n.toNat<=es.length then some ((g,.arr e sz (es.take n.toNat))::del σ id,.arr g) else none) else none
  | _=>none) else none
 | _=>none
def AcR(σ:Al)(e:Id)(sz:Nat)(h:V):V->Option (Al×V)
 | .arr id=>lC σ id e sz h (lk σ id)
 | _=>none
def JWP(P:Program)(W0:World)(ep:Nat)(live:List Nat)(Q:Exit->St->Prop)(p:Prop)(o:Option (Al×V))(l:List I)(d:Nat)(env:AE):Prop:=∃q,o=some q/\JP P W0 ep live Q p l ((d,q.2)::env) q.1
def Alf(es:List V):V:=.i .i64 (es.length:Nat)
def nP:List V->List V->Prop
 | [],_=>True
 | x::xs,ys=>(∀y∈ys,∀id,Ce x=some id->Ce y≠some id)/\nP xs ys
section
variable{P:Program}{W0:World}{ep d:Nat}{live:List Nat}{Q:Exit→St→Prop}{l:List I}{env:AE}{σ:Al}
theorem Aqg:J P W0 ep live Q [] env σ=∀k,Q .normal ⟨restrict live env,σ,ep+1+k⟩:=rfl
theorem AaL:JP P W0 ep live Q True l env σ=J P W0 ep live Q l env σ:=by simp[JP]
theorem AcS{v:V}:JL P W0 ep live Q True (some v) l d env σ=J P W0 ep live Q l ((d,v)::env) σ:=by simp[JL]
theorem AaJ{τ:Al}:JT P W0 ep live Q True (some τ) l env=J P W0 ep live Q l env τ:=by simp[JT]
theorem Asi{x:X}:J P W0 ep live Q (⟨some d,.mv x,none,[]⟩::l) env σ=J P W0 ep live Q l ((d,Be env x)::env) σ:=by unfold J;exact propext (AsW.trans (by simp))
theorem AhH{c a b:X}:J P W0 ep live Q (⟨some d,.pick c a b,none,[]⟩::l) env σ=JP P W0 ep live Q (SY (Be env c)) l ((d,bif N9 (Be env c) then Be env a else Be env b)::env) σ:=by unfold J JP;exact propext (Aiu.trans (by simp[J]))
theorem Anq{e:BinOp}{x y:X}:J P W0 ep live Q (⟨some d,.bin e x y,none,[]⟩::l) env σ=JP P W0 ep live Q (NE e (Be env x) (Be env y)) l ((d,RC e (Be env x) (Be env y))::env) σ:=by unfold J JP;exact propext (AnA.trans (by simp[J]))
theorem Aog{e:Bool}{x y:X}:J P W0 ep live Q (⟨some d,.eqb e x y,none,[]⟩::l) env σ=JP P W0 ep live Q ((SY (Be env x)/\SY (Be env y))) l ((d,.b (if e then !(N9 (Be env x)==N9 (Be env y)) else N9 (Be env x)==N9 (Be env y)))::env) σ:=by unfold J JP;exact propext (AlB.trans (by simp[J]))
theorem AoJ{x:X}:J P W0 ep live Q (⟨some d,.not x,none,[]⟩::l) env σ=JP P W0 ep live Q (SY (Be env x)) l ((d,.b (!(N9 (Be env x))))::env) σ:=by unfold J JP;exact propext (AnO.trans (by simp[J]))
theorem Aqb{k:IntKind}{x:X}:J P W0 ep live Q (⟨some d,.cvi k x,none,[]⟩::l) env σ=JP P W0 ep live Q (isI (Be env x)) l ((d,.i k (k.wrap (toI (Be env x))))::env) σ:=by unfold J JP;exact propext (ApZ.trans (by simp[J]))
theorem Abr{x:X}{e:Nat}:J P W0 ep live Q (⟨some d,.faddr x e,none,[]⟩::l) env σ=JP P W0 ep live Q (T8 (Be env x)) l ((d,Jd (Be env x) e)::env) σ:=by unfold J JP;exact propext (Ac6.trans (by simp[J]))
theorem AaB{x i:X}{e sz:Nat}:J P W0 ep live Q (⟨some d,.iaddr x i e sz,none,[]⟩::l) env σ=JL P W0 ep live Q (True) (EF σ sz (Be env x) (Be env i)) l d env σ:=by unfold J JL;exact propext (yV.trans (by simp[J]))
theorem Aon{x i:X}:J P W0 ep live Q (⟨some d,.idx x i,none,[]⟩::l) env σ=JL P W0 ep live Q (True) (Pc (Be env x) (Be env i)) l d env σ:=by unfold J JL;exact propext (AoX.trans (by simp[J]))
theorem AgZ{x:X}{n:Nat}{e:Bool}:J P W0 ep live Q (⟨some d,.load x n e,none,[]⟩::l) env σ=JL P W0 ep live Q (True) (Gt σ n e (Be env x)) l d env σ:=by unfold J JL;exact propext (AiG.trans (by simp[J]))
theorem yJ{a x:X}{n:Nat}:J P W0 ep live Q (⟨none,.store a x n,none,[]⟩::l) env σ=JT P W0 ep live Q ((Be env x).ok=true) (FT σ n (Be env x) (Be env a)) l env:=by unfold J JT;exact propext (Abi.trans (by simp[J]))
theorem An8{x:X}:J P W0 ep live Q (⟨some d,.box x,none,[]⟩::l) env σ=JP P W0 ep live Q ((Be env x).ok=true) l ((d,.ref (ep,d) 0)::env) (((ep,d),.box (Be env x))::σ):=by unfold J JP;exact propext (Ant.trans (by simp[J]))
theorem Abw{z:V}:J P W0 ep live Q (⟨some d,.alloc z,none,[]⟩::l) env σ=JP P W0 ep live Q (True) l ((d,.ref (ep,d) 0)::env) (((ep,d),.box z)::σ):=by unfold J JP;exact propext (AbA.trans (by simp[J]))
theorem AbG{z:List V}{ps:List (Nat×Nat×X)}:J P W0 ep live Q (⟨some d,.build z ps,none,[]⟩::l) env σ=JL P W0 ep live Q (Sy env ps) ((EL z (psE env ps)).map V.agg) l d env σ:=by unfold J JL;exact propext (AaZ.trans (by simp[J]))
theorem AhE{e sz:Nat}{xs:List X}:J P W0 ep live Q (⟨some d,.msl true e sz xs,none,[]⟩::l) env σ=JP P W0 ep live Q (Hr sz (En env xs)) l ((d,.arr (ep,d))::env) (((ep,d),.arr e sz (En env xs))::σ):=by unfold J JP;exact propext (AiW.trans (by simp[J]))
theorem Ajl{e sz:Nat}{xs:List X}:J P W0 ep live Q (⟨some d,.msl false e sz xs,none,[]⟩::l) env σ=JP P W0 ep live Q (Hr sz (En env xs)) l ((d,.sl (En env xs))::env) σ:=by unfold J JP;exact propext (AkW.trans (by simp[J]))
theorem Ap8{x:X}{g e:Option X}:J P W0 ep live Q (⟨some d,.slS x g e,none,[]⟩::l) env σ=JL P W0 ep live Q (True) (LS env g e (Be env x)) l d env σ:=by unfold J JL;exact propext (AlQ.trans (by simp[J]))
theorem AqG{x:X}{g e:Option X}{sz:Nat}:J P W0 ep live Q (⟨some d,.slL x g e sz,none,[]⟩::l) env σ=JL P W0 ep live Q (isL sz (Be env x)) (LD env g e (toL (Be env x))) l d env σ:=by unfold J JL;exact propext (ApX.trans (by simp[J]))
theorem Aky{x:X}:J P W0 ep live Q (⟨some d,.lenS x,none,[]⟩::l) env σ=JP P W0 ep live Q (isS (Be env x)) l ((d,.i .i64 ((toS (Be env x)).length:Nat))::env) σ:=by unfold J JP;exact propext (Ak4.trans (by simp[J]))
theorem AjY{x:X}:J P W0 ep live Q (⟨some d,.lenL x,none,[]⟩::l) env σ=JL P W0 ep live Q (True) ((A4 σ (Be env x)).map Alf) l d env σ:=by unfold J JL;refine propext (Aho.trans ?_);cases A4 σ (Be env x)<;>simp[Alf,J]
theorem AmE{s x:X}{e sz:Nat}:J P W0 ep live Q (⟨some d,.app s x e sz,none,[]⟩::l) env σ=JT P W0 ep live Q (((A4 σ (Be env x)).isSome=true/\∀y∈(A4 σ (Be env x)).getD [],(cells y).length=sz)) (N5 σ (ep,d) e sz ((A4 σ (Be env x)).getD []) (Be env s)) l ((d,.arr (ep,d))::env):=by unfold J JT;exact propext (AlR.trans (by simp[J]))
theorem Apj{x:X}{k:Nat}:J P W0 ep live Q (⟨some d,.ext x k,none,[]⟩::l) env σ=JL P W0 ep live Q (True) (Ud k (Be env x)) l d env σ:=by unfold J JL;exact propext (Aqe.trans (by simp[J]))
theorem AjG{f:FuncId}{first e:List X}:J P W0 ep live Q (⟨some d,.mkfn f first e,none,[]⟩::l) env σ=J P W0 ep live Q l ((d,.fn f (En env first) (En env e))::env) σ:=by unfold J;exact propext (AiE.trans (by simp))
theorem Atx{e:Bool}{x:X}{xs:List X}:J P W0 ep live Q (⟨some d,.mx e x xs,none,[]⟩::l) env σ=JL P W0 ep live Q (True) (PZ e (Be env x) (En env xs)) l d env σ:=by unfold J JL;exact propext (Aso.trans (by simp[J]))
theorem AaR{x:X}:J P W0 ep live Q (⟨some d,.nilck x,none,[]⟩::l) env σ=JP P W0 ep live Q (isN (Be env x)) l ((d,Be env x)::env) σ:=by unfold J JP;exact propext (AcQ.trans (by simp[J]))
theorem ArA{k:PuK}{xs:List X}:J P W0 ep live Q (⟨some d,.pu k xs,none,[]⟩::l) env σ=JL P W0 ep live Q True (Gr k (En env xs)) l d env σ:=by
 unfold J JL;refine propext (C9.trans ?_);simp only[E,put,En,true_and];cases h:Gr k (xs.map (ev (get env))) with
 | none=>simp
 | some v=>simp only[AkA,Ars,Option.getD_some,true_and];exact⟨λ⟨u,τ,⟨h1,h2⟩,h3⟩=>by subst h1;subst h2;exact h3,λh=>⟨_,_,⟨rfl,rfl⟩,h⟩⟩
theorem AnQ{r:Bool}:eqN true r=.b (!r):=rfl
theorem AqJ{r:Bool}:eqN false r=.b r:=rfl
theorem AcP{e:Bool}:Gr (.nilq .p e) [.np]=some (eqN e true):=rfl
theorem AaK{e:Bool}{id:Id}{o:Nat}:Gr (.nilq .p e) [.ref id o]=some (eqN e false):=rfl
theorem Ana{k:RdK}{m:X}{xs:List X}:J P W0 ep live Q (⟨some d,.rdm k m xs,none,[]⟩::l) env σ=JL P W0 ep live Q True (rdV σ k (En env xs) (Be env m)) l d env σ:=by
 unfold J JL;refine propext (C9.trans ?_);simp only[E,put,En,true_and,Be];constructor
 ·rintro⟨v,σ',⟨⟨id,e,i,j,o⟩,rfl⟩,h⟩;have:rdV σ' k (xs.map (ev (get env))) (ev (get env) m)=some v:=by rw[i];simp[rdV,Zi,j,o]
  rw[this];exact⟨rfl,h⟩
 ·rintro⟨i,h⟩;obtain⟨v,g⟩:=ArS.1 i;rw[g] at h;unfold rdV at g;split at g
  ·rename_i id p;unfold Zi at g;obtain⟨e,j,o⟩:=Adr.1 g;exact⟨v,σ,⟨⟨id,e,p,j,o⟩,rfl⟩,h⟩
  ·cases g
theorem XM{j:Option Nat}{k:lQ}{m:X}{xs:List X}{v:V}{σ':Al}:E P W0 ep j (.wrm k m xs) (get env) σ v σ'↔wrV σ k (En env xs) (Be env m)=some (σ',v):=by
 simp only[E,En,Be];constructor
 ·rintro⟨id,e,e',o,i,h,rfl⟩;rw[o];simp[wrV,wrO,i,h]
 ·intro g;unfold wrV at g;split at g
  ·rename_i id s;unfold wrO at g;obtain⟨e,i,h⟩:=Adr.1 g;obtain⟨r,p,q⟩:=AdW.1 h;grind
  ·cases g
theorem AjC{k:lQ}{m:X}{xs:List X}:J P W0 ep live Q (⟨none,.wrm k m xs,none,[]⟩::l) env σ=JT P W0 ep live Q True ((wrV σ k (En env xs) (Be env m)).map (·.1)) l env:=by
 unfold J JT;refine propext (C9.trans ?_);simp only[XM,put,true_and];cases h:wrV σ k (En env xs) (Be env m) with
 | none=>simp
 | some p=>obtain⟨τ,v⟩:=p;simp only[AkA,Axb,AvI,Ars,Option.getD_some,true_and];exact⟨λ⟨u,ρ,⟨h1,h2⟩,h3⟩=>by subst h1;subst h2;exact h3,λh=>⟨_,_,⟨rfl,rfl⟩,h⟩⟩
theorem Amg{k:lQ}{m:X}{xs:List X}:J P W0 ep live Q (⟨some d,.wrm k m xs,none,[]⟩::l) env σ=JW P W0 ep live Q (wrV σ k (En env xs) (Be env m)) l d env:=by
 unfold J JW;refine propext (C9.trans ?_);simp only[XM,put];constructor
 ·rintro⟨v,σ',e,g⟩;exact⟨(σ',v),e,g⟩
 ·rintro⟨p,e,g⟩;exact⟨p.2,p.1,e,g⟩
theorem Ams{k:MkK}{xs:List X}:J P W0 ep live Q (⟨some d,.mkm k xs,none,[]⟩::l) env σ=JM P W0 ep live Q k (Yl k (En env xs)) l d env σ:=by
 unfold J JM;refine propext (C9.trans ?_);simp only[E,put,En];constructor
 ·rintro⟨v,σ',⟨j,e,g,i,rfl,rfl⟩,h⟩;cases g;exact⟨e,i,h⟩
 ·rintro⟨e,g,h⟩;exact⟨_,_,⟨d,e,rfl,g,rfl,rfl⟩,h⟩
theorem Ah8{s x:X}{e:TypeId}:J P W0 ep live Q (⟨some d,.apps s x e,none,[]⟩::l) env σ=JWP P W0 ep live Q (Nm σ (Be env s)+OC (Be env x)<=AK) (Wv σ (ep,d) e (Be env s) (Be env x)) l d env:=by
 unfold J JWP;refine propext (C9.trans ?_);simp only[E,put,Be];constructor
 ·rintro⟨v,σ',⟨z,b,t,u,rfl,j⟩,h⟩;cases t;rw[u];split at j
  ·rename_i i;obtain⟨o,rfl⟩:=j;rw[i];exact⟨(((ep,d),.arr e 1 (Ay b))::σ,.arr (ep,d)),rfl,by simpa[Nm,OC] using o,h⟩
  ·rename_i id i;obtain⟨es,o,w,rfl⟩:=j;rw[i];exact⟨(((ep,d),.arr e 1 (es++Ay b))::del σ id,.arr (ep,d)),by simp[Wv,Oi,o,QE],by simpa[Nm,Sm,OC,o] using w,h⟩
  ·exact j.elim
 ·rintro⟨q,g,hp,h⟩;unfold Wv at g;split at g
  ·rename_i b p;rw[p] at hp;unfold Oi at g;split at g
   ·rename_i i;cases g;refine⟨_,_,⟨d,b,rfl,p,rfl,?_⟩,h⟩;rw[i] at hp⊢;exact⟨by simpa[Nm,OC] using hp,rfl⟩
   ·rename_i id i;unfold QE at g;split at g
    ·rename_i e' sz es r;split at g
     ·rename_i y;obtain⟨rfl,rfl⟩:=y;cases g;refine⟨_,_,⟨d,b,rfl,p,rfl,?_⟩,h⟩;rw[i] at hp⊢;exact⟨es,r,by simpa[Nm,Sm,OC,r] using hp,rfl⟩
     ·cases g
    ·cases g
   ·cases g
  ·cases g
theorem uB{p:Prop}{q:Al×V}:JWP P W0 ep live Q p (some q) l d env=JP P W0 ep live Q p l ((d,q.2)::env) q.1:=by unfold JWP;grind
theorem Am9{x j:X}{sz:Nat}:J P W0 ep live Q (⟨some d,.slT x j sz,none,[]⟩::l) env σ=JW P W0 ep live Q (AcR σ (ep,d) sz (Be env j) (Be env x)) l d env:=by
 unfold J JW;refine propext (C9.trans ?_);simp only[E,put,Be,FP];constructor
 ·rintro⟨v,σ',⟨w,id,e,es,q,i,o,p,z,A,rfl,rfl⟩,h⟩;cases i;refine⟨(((ep,d),.arr e sz (es.take q))::del σ id,.arr (ep,d)),?_,h⟩;rw[o];simp only[AcR,p,lC,if_true];grind
 ·rintro⟨q,g,h⟩;unfold AcR at g;split at g
  ·rename_i id s;unfold lC at g;split at g
   ·rename_i e u es r;split at g
    ·rename_i t;subst t;split at g
     ·rename_i k n B;split at g
      ·rename_i y;split at g
       ·rename_i i;cases g;exact⟨_,_,⟨d,id,e,es,n.toNat,rfl,s,r,by grind,i,rfl,rfl⟩,h⟩
       ·cases g
      ·cases g
     ·cases g
    ·cases g
   ·cases g
  ·cases g
theorem pH{e id:Id}{sz:Nat}{h:V}:AcR σ e sz h (.arr id)=lC σ id e sz h (lk σ id):=rfl
theorem kM{g id:Id}{sz h:Nat}{k:IntKind}{n:Int}{e:TypeId}{es:List V}:lC σ id g sz (.i k n) (some (.arr e h es))=if h=sz then(if 0<=n then(if n.toNat<=es.length then some ((g,.arr e sz (es.take n.toNat))::del σ id,.arr g) else none) else none) else none:=rfl
theorem yW{g:Id}{e:TypeId}{s:V}{b:List UInt8}:Wv σ g e s (.s b)=Oi σ g e b s:=rfl
theorem Za{g:Id}{e:TypeId}{b:List UInt8}:Oi σ g e b .nil=some ((g,.arr e 1 (Ay b))::σ,.arr g):=rfl
theorem YS{g id:Id}{e:TypeId}{b:List UInt8}:Oi σ g e b (.arr id)=QE σ id g e b (lk σ id):=rfl
theorem ZI{g id:Id}{e e':TypeId}{sz:Nat}{es:List V}{b:List UInt8}:QE σ id g e b (some (.arr e' sz es))=if e'=e/\sz=1 then some ((g,.arr e 1 (es++Ay b))::del σ id,.arr g) else none:=rfl
theorem ZK:Nm σ .nil=0:=rfl
theorem bU{id:Id}:Nm σ (.arr id)=Sm (lk σ id):=rfl
theorem Y8{e:TypeId}{sz:Nat}{es:List V}:Sm (some (.arr e sz es))=es.length:=rfl
theorem yM{b:List UInt8}:OC (.s b)=b.length:=rfl
theorem O1{c:V}:cells c=[c]↔Q6 c=false:=by
 cases c<;>simp[cells,Q6];rename_i cs
 match cs with
 | []=>simp
 | [x]=>
  intro h;have e:x=.agg [x]:=by simpa using h
  have g:SizeOf.sizeOf x=SizeOf.sizeOf (V.agg [x]):=by rw[<-e]
  simp at g;omega
 | _::_::_=>simp
theorem ApY{m:X}{k:Nat}:J P W0 ep live Q (⟨some d,.frz m k,none,[]⟩::l) env σ=JW P W0 ep live Q (Abv σ k (Be env m)) l d env:=by
 unfold J JW;refine propext (C9.trans ?_);simp only[E,put,Be];constructor
 ·rintro⟨v,σ',⟨id,cs,g,i,j,o,rfl,rfl⟩,h⟩;refine⟨(del σ id,.sl cs),?_,h⟩;rw[g];simp only[Abv,i,d9];rw[if_pos ⟨j,Alm.2 λc e=>by rw[O1.1 (o c e)];rfl⟩]
 ·rintro⟨p,hp,h⟩;unfold Abv at hp;split at hp
  ·rename_i id s;unfold d9 at hp;split at hp
   ·rename_i cs r;split at hp
    ·rename_i e;cases hp;exact⟨_,_,⟨id,cs,s,r,e.1,λc q=>O1.2 (by grind),rfl,rfl⟩,h⟩
    ·cases hp
   ·cases hp
  ·cases hp
theorem o7{m:X}:J P W0 ep live Q (⟨some d,.mrange m,none,[]⟩::l) env σ=JW P W0 ep live Q (L8 σ (ep,d) (Be env m)) l d env:=by
 unfold J JW;refine propext (C9.trans ?_);simp only[E,put,Be];constructor
 ·rintro⟨v,σ',⟨q,mid,es,e,g,i,rfl,rfl⟩,h⟩;cases e;refine⟨(((ep,d),.mit mid es.length [] es.length)::σ,.arr (ep,d)),?_,h⟩;rw[g];simp only[L8,i,Ka]
 ·rintro⟨p,hp,h⟩;unfold L8 at hp;split at hp
  ·rename_i mid o;unfold Ka at hp;split at hp
   ·rename_i es j;cases hp;exact⟨_,_,⟨d,mid,es,rfl,o,j,rfl,rfl⟩,h⟩
   ·cases hp
  ·cases hp
theorem fW{m:X}:J P W0 ep live Q (⟨some d,.mentry m,none,[]⟩::l) env σ=JL P W0 ep live Q True (Kd σ (Be env m)) l d env σ:=by
 unfold J JL;refine propext (C9.trans ?_);simp only[E,put,Be,true_and];constructor
 ·rintro⟨v,σ',⟨id,mid,g,seen,i,es,o,p,w,q,r,s,rfl,rfl⟩,h⟩;have:Kd σ' (ev (get env) m)=some (.tup [o.1,o.2]):=by rw[p];simp[Kd,Jj,Ju,w,q,r,s]
  rw[this];exact⟨rfl,h⟩
 ·rintro⟨p,h⟩;obtain⟨v,e⟩:=ArS.1 p;rw[e] at h;unfold Kd at e;split at e
  ·rename_i id A;unfold Jj at e;split at e
   ·rename_i mid g seen j z;unfold Ju at e;split at e
    ·rename_i es t;split at e
     ·rename_i u;subst u;obtain⟨i,q,r⟩:=Adr.1 e;obtain⟨o,s,y⟩:=AdW.1 r;subst y;exact⟨_,_,⟨id,mid,g,seen,i,es,o,A,z,q,t,s,rfl,rfl⟩,h⟩
     ·cases e
    ·cases e
   ·cases e
  ·cases e
theorem gY{id:Id}{n:Nat}:Abv σ n (.ref id 0)=d9 σ id n (lk σ id):=rfl
theorem xF{id:Id}{n:Nat}{cs:List V}:d9 σ id n (some (.box (.agg cs)))=if cs.length=n/\cs.all (λc=>!Q6 c)=true then some (del σ id,.sl cs) else none:=rfl
theorem Rg{e mid:Id}:L8 σ e (.arr mid)=Ka σ e mid (lk σ mid):=rfl
theorem Rs{e mid:Id}{es:List (V×V)}:Ka σ e mid (some (.map es))=some ((e,.mit mid es.length [] es.length)::σ,.arr e):=rfl
theorem RS{id:Id}:Kd σ (.arr id)=Jj σ (lk σ id):=rfl
theorem QA{mid:Id}{g e:Nat}{seen:List Nat}:Jj σ (some (.mit mid g seen e))=Ju seen.getLast? e (lk σ mid):=rfl
theorem SF{i:Option Nat}{e:Nat}{es:List (V×V)}:Ju i e (some (.map es))=if e=es.length then i.bind λi=>(es[i]?).map λg=>.tup [g.1,g.2] else none:=rfl
theorem nX{e:Bool}:Gr (.isnil e) [.nil]=some (.b (!e)):=rfl
theorem sA{e:Bool}:Gr (.isnil e) [.sl []]=some .ub:=rfl
theorem qC{e:Bool}{x:V}{xs:List V}:Gr (.isnil e) [.sl (x::xs)]=some (.b e):=rfl
theorem Apt{t:Bool}:Q6 (.b t)=false:=rfl
theorem Aqc{k:IntKind}{n:Int}:Q6 (.i k n)=false:=rfl
theorem Apf{s:List UInt8}:Q6 (.s s)=false:=rfl
theorem AcK{τ:Al}{v:V}:JW P W0 ep live Q (some (τ,v)) l d env=J P W0 ep live Q l ((d,v)::env) τ:=by unfold JW;simp
theorem yA{k:MkK}{e:Ax}:JM P W0 ep live Q k (some e) l d env σ=J P W0 ep live Q l ((d,xZ k (ep,d))::env) (((ep,d),e)::σ):=by unfold JM;simp
theorem Aa7{k:RdK}{xs:List V}{id:Id}:rdV σ k xs (.arr id)=Zi k xs (lk σ id):=rfl
theorem Ac5{k:lQ}{xs:List V}{id:Id}:wrV σ k xs (.arr id)=wrO σ id k xs (lk σ id):=rfl
theorem m4{e:CD}{z:V}{ok:Bool}{es:List (V×V)}{k:V}:Zi (.mget e z ok) [k] (some (.map es))=(Br e k es 0).map λr=>match r with
  | some (_,v)=>if ok then .tup [v,.b true] else v
  | none=>if ok then .tup [z,.b false] else z:=rfl
theorem qT{es:List (V×V)}:Zi .mlen [] (some (.map es))=some (.i .i64 es.length):=rfl
theorem qB{g:CD}{id:Id}{es:List (V×V)}{k v:V}:wrO σ id (.mput g) [k,v] (some (.map es))=(Br g k es 0).map λr=>match r with
  | some (i,_)=>(upd σ id (.map (es.modify i λe=>(e.1,v))),.tup [])
  | none=>(upd σ id (.map (es++[(k,v)])),.tup []):=by
 simp only[wrO,o4,Aw7,Option.map_map];congr 1;grind
theorem u9{id:Id}{s:List UInt8}{e:Nat}:wrO σ id .next [] (some (.it s e))=if e<s.length then some (upd σ id (.it s (e+(Utf8.decode ⟨s.toArray⟩ e).2)),.tup [.b true,.i .i64 e,.i .i32 (Utf8.decode ⟨s.toArray⟩ e).1]) else some (upd σ id (.it s e),.tup [.b false]):=by simp only[wrO,o4,Aw7];split<;>rfl
theorem Aaf{id:Id}:xZ .mkmap id=.arr id:=rfl
theorem AjB{id:Id}:xZ .strit id=.arr id:=rfl
theorem jX{t:TypeId}{z:V}{id:Id}:xZ (.tnew t z) id=.ref id 0:=rfl
theorem AcZ{t:TypeId}{id:Id}:xZ (.tbx t) id=.ref id 0:=rfl
theorem p5{t:TypeId}{z:V}:Yl (.tnew t z) []=some (.tbox t z):=rfl
theorem Ab4{t:TypeId}{x:V}:Yl (.tbx t) [x]=if x.ok=true then some (.tbox t x) else none:=rfl
theorem Ac3:Yl .mkmap []=some (.map []):=rfl
theorem Agv{s:List UInt8}:Yl .strit [.s s]=some (.it s 0):=rfl
theorem kH{k:IntKind}{n:Int}:Gr .itos [.i k n]=some (.s (Utf8.encode n).data.toList):=rfl
theorem jF{es:List V}:Gr .btos [.sl es]=(Fc es).map .s:=rfl
theorem ZB:Gr .btos [.nil]=some (.s []):=rfl
theorem oV{n sz e:Nat}{id:Id}{k:IntKind}{i:Int}:Gr (.aidx n sz) [.ref id e,.i k i]=if 0<=i/\i<(n:Int) then some (.ref id (e+i.toNat*sz)) else none:=rfl
theorem ArN{d:Option Nat}{g:AG}{s:Nat}{e:Bool}{ap:List X}:J P W0 ep live Q (⟨d,g,some (s,e),ap⟩::l) env σ=VU P W0 ep live Q (get env s) e d g ap l env σ:=by
 unfold J VU;simp only[J,Aw,Cx,ID];cases get env s with
 | tup l=>cases l<;>rfl
 | _=>rfl
theorem iL{d:Option Nat}{e:AG}{ap:List X}:VU P W0 ep live Q (.b true) true d e ap l env σ=J P W0 ep live Q (⟨d,e,none,ap⟩::l) env σ:=by simp[VU,ID]
theorem pV{d:Option Nat}{e:AG}{ap:List X}:VU P W0 ep live Q (.b false) false d e ap l env σ=J P W0 ep live Q (⟨d,e,none,ap⟩::l) env σ:=by simp[VU,ID]
theorem s9{d:Option Nat}{e:AG}{ap:List X}:VU P W0 ep live Q (.b true) false d e ap l env σ=J P W0 ep live Q l (put env d (.tup [])) σ:=by simp[VU,ID]
theorem dF{d:Option Nat}{e:AG}{ap:List X}:VU P W0 ep live Q (.b false) true d e ap l env σ=J P W0 ep live Q l (put env d (.tup [])) σ:=by simp[VU,ID]
theorem Aod{d:Option Nat}{e:AG}{ap:List X}{w:Bool}:VU P W0 ep live Q (.tup []) w d e ap l env σ=J P W0 ep live Q l (put env d (.tup [])) σ:=by simp[VU,ID]
theorem Ag{d:Option Nat}{e:AG}{ap:List X}{t:Bool}(g:t=true->J P W0 ep live Q (⟨d,e,none,ap⟩::l) env σ)(h:t=false->J P W0 ep live Q l (put env d (.tup [])) σ):VU P W0 ep live Q (.b t) true d e ap l env σ:=by
 cases t
 ·rw[dF];exact h rfl
 ·rw[iL];exact g rfl
theorem Af{d:Option Nat}{e:AG}{ap:List X}{t:Bool}(g:t=false->J P W0 ep live Q (⟨d,e,none,ap⟩::l) env σ)(h:t=true->J P W0 ep live Q l (put env d (.tup [])) σ):VU P W0 ep live Q (.b t) false d e ap l env σ:=by
 cases t
 ·rw[pV];exact g rfl
 ·rw[s9];exact h rfl
theorem Vb{g:Nat->V}{ys:List X}:∀{ap:List X},(∀x∈ap,∀y∈ys,∀id,Ce (ev g x)=some id->Ce (ev g y)≠some id)↔nP (ap.map (ev g)) (ys.map (ev g))
 | []=>by simp[nP]
 | x::ap=>by have:=Vb (g:=g) (ys:=ys) (ap:=ap);simp only[Alh,nP,<-this,AqN,forall_eq_or_imp,Alx,forall_exists_index,and_imp,forall_apply_eq_imp_iff₂]
theorem Anm{d:Option Nat}{e:AG}{x:X}{ap:List X}(g:e.cl=false):J P W0 ep live Q (⟨d,e,none,x::ap⟩::l) env σ=JP P W0 ep live Q (nP (En env (x::ap)) (En env e.cs)) (⟨d,e,none,[]⟩::l) env σ:=by unfold J JP;refine propext ((AsG g).trans ?_);rw[show bB ⟨d,e,none,x::ap⟩ (get env)↔nP (En env (x::ap)) (En env e.cs) from Vb];rfl
theorem AfY{f:FuncId}{args:List X}:J P W0 ep live Q (⟨some d,.call f args,none,[]⟩::l) env σ=QO P W0 ep live Q f (En env args) l d env σ:=by unfold J QO;refine propext (C9.trans ?_);simp only[E,put,En];exact⟨λ⟨v,_,⟨e,rfl⟩,g⟩=>⟨v,e,g⟩,λ⟨v,e,g⟩=>⟨v,_,⟨e,rfl⟩,g⟩⟩
theorem Aa0{f:FuncId}{args:List X}:J P W0 ep live Q (⟨some d,.calls f args,none,[]⟩::l) env σ=Gx P W0 ep live Q f (En env args) l d env σ:=by unfold J Gx;refine propext (C9.trans ?_);simp only[E,put,En];exact⟨λ⟨v,_,⟨σi,σo,e,h,rfl⟩,g⟩=>⟨v,σi,σo,e,h,g⟩,λ⟨v,σi,σo,e,h,g⟩=>⟨v,_,⟨σi,σo,e,h,rfl⟩,g⟩⟩
theorem AcC{f:FuncId}{args:List X}:J P W0 ep live Q (⟨some d,.callr f args,none,[]⟩::l) env σ=Te P W0 ep live Q f (En env args) l d env σ:=by unfold J Te;refine propext (C9.trans ?_);simp only[E,put,En];exact⟨λ⟨v,_,⟨⟨σi,e,h⟩,rfl⟩,g⟩=>⟨v,σi,e,h,g⟩,λ⟨v,σi,e,h,g⟩=>⟨v,_,⟨⟨σi,e,h⟩,rfl⟩,g⟩⟩
theorem zY{f:FuncId}{args:List X}:J P W0 ep live Q (⟨some d,.calln f args,none,[]⟩::l) env σ=Ts P W0 ep live Q f (En env args) l d env σ:=by unfold J Ts;refine propext (C9.trans ?_);simp only[E,put,En];exact⟨λ⟨v,_,⟨dd,σi,σo,x,hd,e,h,hv,rfl⟩,g⟩=>by cases hd;subst hv;exact⟨x,σi,σo,e,h,g⟩,λ⟨x,σi,σo,e,h,g⟩=>⟨_,_,⟨d,σi,σo,x,rfl,e,h,rfl,rfl⟩,g⟩⟩
theorem jE{x:X}{args:List X}:J P W0 ep live Q (⟨some d,.callvs x args,none,[]⟩::l) env σ=L5 P W0 ep live Q (Be env x) (En env args) l d env σ:=by
 unfold J;refine propext (C9.trans ?_);simp only[E,put];constructor
 ·rintro⟨v,_,⟨⟨f,first,e,σi,σo,o,g,j,rfl⟩,i⟩⟩;unfold L5 Be;rw[o];exact⟨v,σi,σo,g,j,i⟩
 ·intro h;unfold L5 Be at h;split at h
  ·rename_i f first e o
   obtain⟨v,σi,σo,g,j,i⟩:=h;exact⟨v,_,⟨f,first,e,σi,σo,o,g,j,rfl⟩,i⟩
  ·cases h
theorem Uv{d:Option Nat}{x y:X}{n:Nat}{z:X}{ap:List X}:J P W0 ep live Q (⟨d,.store x y n,none,z::ap⟩::l) env σ=JP P W0 ep live Q (nP (En env (z::ap)) (En env (AG.store x y n).cs)) (⟨d,.store x y n,none,[]⟩::l) env σ:=Anm rfl
theorem YV{d:Option Nat}{x:X}{n:Nat}{b:Bool}{z:X}{ap:List X}:J P W0 ep live Q (⟨d,.load x n b,none,z::ap⟩::l) env σ=JP P W0 ep live Q (nP (En env (z::ap)) (En env (AG.load x n b).cs)) (⟨d,.load x n b,none,[]⟩::l) env σ:=Anm rfl
theorem TT{f:FuncId}{first e vs g:List V}:AaQ P W0 ep live Q (.fn f first e) vs g l d env σ=Wb P W0 ep live Q f (first++vs++e) g l d env σ:=rfl
theorem b9{f:FuncId}{first e vs:List V}:Agh P W0 ep live Q (.fn f first e) vs l d env σ=QO P W0 ep live Q f (first++vs++e) l d env σ:=rfl
theorem Ti{f:FuncId}{first e vs:List V}:L5 P W0 ep live Q (.fn f first e) vs l d env σ=Gx P W0 ep live Q f (first++vs++e) l d env σ:=rfl
theorem Ac{f:FuncId}{vs:List V}{v:V}(h:An P W0 f vs [] v [])(e:J P W0 ep live Q l ((d,v)::env) σ):QO P W0 ep live Q f vs l d env σ:=⟨v,h,e⟩
theorem zO{f:FuncId}{vs:List V}{v:V}{σi:Al}(h:An P W0 f vs σi v σi)(i:∀id e,lk σi id=some e->lk σ id=some e)(g:J P W0 ep live Q l ((d,v)::env) σ):Te P W0 ep live Q f vs l d env σ:=⟨v,σi,h,i,g⟩
theorem Bq{f:FuncId}{vs:List V}{v:V}{σi σo:Al}(h:An P W0 f vs σi v σo)(i:∀id e,lk σi id=some e->lk σ id=some e)(g:J P W0 ep live Q l ((d,v)::env) (over σi σo σ)):Gx P W0 ep live Q f vs l d env σ:=⟨v,σi,σo,h,i,g⟩
theorem LE{f:FuncId}{vs:List V}{x:Ax}{σi σo:Al}(h:Jh P W0 f vs σi x σo)(i:∀id e,lk σi id=some e->lk σ id=some e)(g:J P W0 ep live Q l ((d,.arr (ep,d))::env) (((ep,d),x)::over σi σo σ)):Ts P W0 ep live Q f vs l d env σ:=⟨x,σi,σo,h,i,g⟩
theorem oY{f:FuncId}{vs:List V}{v:V}(h:An P W0 f vs [] v [])(g:J P W0 ep live Q l ((d,v)::env) σ):Gx P W0 ep live Q f vs l d env σ:=by
 refine⟨v,[],[],h,λid e h=>by simp[lk] at h,?_⟩;have:over [] [] σ=σ:=by simp[over,lk]
 rw[this];exact g
end
@[irreducible] def GX(P:Program)(W0:World)(nt:Nat)(c:IC)(Q:Exit->St->Prop)(st:St):Prop:=FO P W0 nt (.loop c) Q st
@[irreducible] def O6(P:Program)(W0:World)(nt:Nat)(e g:Nat)(x:X)(live:List Nat)(Q:Exit->St->Prop)(st:St):Prop:=FO P W0 nt (.mnext e g x live) Q st
@[irreducible] def WkW(P:Program)(W0:World)(nt:Nat)(c:IC)(Q:Exit->St->Prop)(st:St):Prop:=FO P W0 nt c Q st
def Hu(P:Program)(W0:World)(n:Nat)(d:Nat)(f:FuncId)(vs:List V)(l2:List I)(live:List Nat)(Q:Exit->St->Prop)(env:AE)(σ:Al):Prop:=
 Kl P W0 n d f vs env σ λe env σ=>J P W0 e live Q l2 env σ
def MR(P:Program)(W0:World)(d:Nat)(f:FuncId)(args:List X)(l2:List I)(live:List Nat)(Q:Exit->St->Prop):Exit->St->Prop
 | .normal,st=>Hu P W0 st.n d f (En st.env args) l2 live Q st.env st.σ
 | _,_=>False
def OT(P:Program)(W0:World)(d g:Nat)(e:Bool)(f:FuncId)(args:List X)(l2:List I)(live:List Nat)(Q:Exit->St->Prop):Exit->St->Prop
 | .normal,st=>gdQ (get st.env g) e (Hu P W0 st.n d f (En st.env args) l2 live Q st.env st.σ) (J P W0 st.n live Q l2 ((d,.tup [])::st.env) st.σ)
 | _,_=>False
def Uo(P:Program)(W0:World)(n:Nat)(d:Nat)(vs:List V)(l2:List I)(live:List Nat)(Q:Exit->St->Prop)(env:AE)(σ:Al):Prop:=
 Afb P W0 n d vs env σ λe env σ=>J P W0 e live Q l2 env σ
def HP(P:Program)(W0:World)(n:Nat)(d:Nat)(h:V)(vs:List V)(l2:List I)(live:List Nat)(Q:Exit->St->Prop)(env:AE)(σ:Al):Prop:=
 match h with
 | .fn f first e=>Hu P W0 n d f (first++vs++e) l2 live Q env σ
 | .arr id=>Uo P W0 n d (.arr id::vs) l2 live Q env σ
 | _=>False
def OU(P:Program)(W0:World)(d:Nat)(x:X)(args:List X)(l2:List I)(live:List Nat)(Q:Exit->St->Prop):Exit->St->Prop
 | .normal,st=>HP P W0 st.n d (Be st.env x) (En st.env args) l2 live Q st.env st.σ
 | _,_=>False
def Akh(P:Program)(W0:World)(nt:Nat)(g:X)(ps:List Nat)(a b:IC)(e live:List Nat)(Q:Exit->St->Prop)(st:St):Prop:=FO P W0 nt (.rfn g ps a b e live) Q st
def aW(P:Program)(W0:World)(nt:Nat):IC->(Exit->St->Prop)->St->Prop
 | .ops l live _,Q,st=>J P W0 st.n live Q l st.env st.σ
 | .seqr l live,Q,st=>J P W0 st.n live Q l st.env st.σ
 | .seq a b,Q,st=>aW P W0 nt a (λe s=>match e with|.normal=>aW P W0 nt b Q s|e=>Q e s) st
 | .cond c a b,Q,st=>match Be st.env c with|.b true=>aW P W0 nt a Q st|.b false=>aW P W0 nt b Q st|.ub=>aW P W0 nt a Q st/\aW P W0 nt b Q st|_=>False
 | .mnext j o x live,Q,st=>O6 P W0 nt j o x live Q st
 | .block id a,Q,st=>aW P W0 nt a (D7 id Q) st
 | .loop c,Q,st=>GX P W0 nt c Q st
 | .wk c,Q,st=>WkW P W0 nt c Q st
 | .opx l1 h d f args l2 live,Q,st=>J P W0 st.n h (MR P W0 d f args l2 live Q) l1 st.env st.σ
 | .opxq l1 h d g i f args l2 live,Q,st=>J P W0 st.n h (OT P W0 d g i f args l2 live Q) l1 st.env st.σ
 | .opxd l1 h d f args live _,Q,st=>J P W0 st.n h (MR P W0 d f args [] live Q) l1 st.env st.σ
 | .opxv l1 h d x args l2 live,Q,st=>J P W0 st.n h (OU P W0 d x args l2 live Q) l1 st.env st.σ
 | .opxe ..,Q,st=>False
 | .anyr ..,Q,st=>False
 | .scope _,Q,st=>False
 | .rfn g ps a b p live,Q,st=>Akh P W0 nt g ps a b p live Q st
 | .exit id,Q,st=>Q (.exit id) st
 | .ret,Q,st=>Q .ret st
 | .skip,Q,st=>Q .normal st
def O0(P:Program)(W0:World)(nt:Nat)(b:IC)(Q:Exit->St->Prop)(e:Exit)(s:St):Prop:=match e with|.normal=>aW P W0 nt b Q s|e=>Q e s
def QY(P:Program)(W0:World)(nt:Nat)(v:V)(a b:IC)(Q:Exit->St->Prop)(env:AE)(σ:Al)(n:Nat):Prop:=match v with|.b true=>aW P W0 nt a Q ⟨env,σ,n⟩|.b false=>aW P W0 nt b Q ⟨env,σ,n⟩|.ub=>aW P W0 nt a Q ⟨env,σ,n⟩/\aW P W0 nt b Q ⟨env,σ,n⟩|_=>False
section
variable{P:Program}{W0:World}{nt n:Nat}{Q Q':Exit→St→Prop}{env:AE}{σ:Al}{a b c:IC}{st:St}
theorem Akq{l:List I}{live:List Nat}{paths:List (List Nat)}:aW P W0 nt (.ops l live paths) Q ⟨env,σ,n⟩=J P W0 n live Q l env σ:=rfl
theorem zD{l:List I}{live:List Nat}:aW P W0 nt (.seqr l live) Q ⟨env,σ,n⟩=J P W0 n live Q l env σ:=rfl
theorem Agj:aW P W0 nt (.seq a b) Q ⟨env,σ,n⟩=aW P W0 nt a (O0 P W0 nt b Q) ⟨env,σ,n⟩:=rfl
theorem AaH{x:X}:aW P W0 nt (.cond x a b) Q ⟨env,σ,n⟩=QY P W0 nt (Be env x) a b Q env σ n:=rfl
theorem rE{id:Nat}:aW P W0 nt (.block id a) Q ⟨env,σ,n⟩=aW P W0 nt a (D7 id Q) ⟨env,σ,n⟩:=rfl
theorem AaP:aW P W0 nt (.loop c) Q ⟨env,σ,n⟩=GX P W0 nt c Q ⟨env,σ,n⟩:=rfl
theorem Ane:aW P W0 nt (.wk c) Q ⟨env,σ,n⟩=WkW P W0 nt c Q ⟨env,σ,n⟩:=rfl
theorem AbR{id:Nat}:aW P W0 nt (.exit id) Q ⟨env,σ,n⟩=Q (.exit id) ⟨env,σ,n⟩:=rfl
theorem Aij:aW P W0 nt .ret Q ⟨env,σ,n⟩=Q .ret ⟨env,σ,n⟩:=rfl
theorem zP:aW P W0 nt .skip Q ⟨env,σ,n⟩=Q .normal ⟨env,σ,n⟩:=rfl
theorem Ace:QY P W0 nt (.b true) a b Q env σ n=aW P W0 nt a Q ⟨env,σ,n⟩:=rfl
theorem Aak:QY P W0 nt (.b false) a b Q env σ n=aW P W0 nt b Q ⟨env,σ,n⟩:=rfl
theorem uZ:QY P W0 nt .ub a b Q env σ n=(aW P W0 nt a Q ⟨env,σ,n⟩/\aW P W0 nt b Q ⟨env,σ,n⟩):=rfl
theorem tB{e g:Nat}{x:X}{live:List Nat}:aW P W0 nt (.mnext e g x live) Q ⟨env,σ,n⟩=O6 P W0 nt e g x live Q ⟨env,σ,n⟩:=rfl
theorem Ahl{g:X}{ps e live:List Nat}:aW P W0 nt (.rfn g ps a b e live) Q ⟨env,σ,n⟩=Akh P W0 nt g ps a b e live Q ⟨env,σ,n⟩:=rfl
theorem Ab{t:Bool}(e:t=true->aW P W0 nt a Q ⟨env,σ,n⟩)(g:t=false->aW P W0 nt b Q ⟨env,σ,n⟩):QY P W0 nt (.b t) a b Q env σ n:=by
 cases t
 ·exact g rfl
 ·exact e rfl
theorem PD{d:Nat}{f:FuncId}{args:List X}{l2:List I}{live:List Nat}:MR P W0 d f args l2 live Q .normal ⟨env,σ,n⟩=Hu P W0 n d f (En env args) l2 live Q env σ:=rfl
theorem Iw{d g:Nat}{e:Bool}{f:FuncId}{args:List X}{l2:List I}{live:List Nat}:OT P W0 d g e f args l2 live Q .normal ⟨env,σ,n⟩=gdQ (get env g) e (Hu P W0 n d f (En env args) l2 live Q env σ) (J P W0 n live Q l2 ((d,.tup [])::env) σ):=rfl
theorem NS{d:Nat}{x:X}{args:List X}{l2:List I}{live:List Nat}:OU P W0 d x args l2 live Q .normal ⟨env,σ,n⟩=HP P W0 n d (Be env x) (En env args) l2 live Q env σ:=rfl
theorem TD{d:Nat}{f:FuncId}{first e vs:List V}{l2:List I}{live:List Nat}:HP P W0 n d (.fn f first e) vs l2 live Q env σ=Hu P W0 n d f (first++vs++e) l2 live Q env σ:=rfl
theorem QC{d:Nat}{id:Id}{vs:List V}{l2:List I}{live:List Nat}:HP P W0 n d (.arr id) vs l2 live Q env σ=Uo P W0 n d (.arr id::vs) l2 live Q env σ:=rfl
theorem Ac4{d:Nat}{vs:List V}{l2:List I}{live:List Nat}{σi:Al}{R:Nat->Nat->V->Al->Prop}(h:U5 P W0 vs σi R)(j:∀id e,lk σi id=some e->lk σ id=some e)
  (i:∀g v σo,n<=g->R n g v σo->J P W0 g live Q l2 ((d,v)::env) (over σi σo σ)):Uo P W0 n d vs l2 live Q env σ:=⟨σi,R,h,j,i⟩
theorem AW{d:Nat}{f:FuncId}{vs:List V}{l2:List I}{live:List Nat}{σi:Al}{R:Nat->Nat->V->Al->Prop}(h:Ex P W0 f vs σi R)(j:∀id e,lk σi id=some e->lk σ id=some e)
  (i:∀g v σo,n<=g->R n g v σo->J P W0 g live Q l2 ((d,v)::env) (over σi σo σ)):Hu P W0 n d f vs l2 live Q env σ:=⟨σi,R,h,j,i⟩
theorem P6:O0 P W0 nt b Q .normal st=aW P W0 nt b Q st:=rfl
theorem UP{k:Nat}:O0 P W0 nt b Q (.exit k) st=Q (.exit k) st:=rfl
theorem YQ:O0 P W0 nt b Q .ret st=Q .ret st:=rfl
theorem Ch:∀{ic:IC} {Q:Exit->St->Prop} {st:St},aW P W0 nt ic Q st->FO P W0 nt ic Q st
 | .ops l live paths,Q,st,h=>by refine Wq ?_;refine BU (λenv σ w n' U=>?_) h;have:=w (n'-(st.n+1));grind
 | .seqr l live,Q,st,h=>by refine jB ?_;refine BU (λenv σ w n' U=>?_) h;have:=w (n'-(st.n+1));grind
 | .seq a b,Q,st,h=>by
  refine AbX (Ng (Ch h) λe s N=>?_);cases e with
  | normal=>exact Ch (ic:=b) N
  | _=>exact N
 | .cond c a b,Q,st,h=>by
  simp only[aW] at h;split at h
  ·rename_i F;exact RJ F (λ_=>Ch h) (λh=>by cases h)
  ·rename_i F;exact RJ F (λh=>by cases h) (λ_=>Ch h)
  ·rename_i F;exact ZJ F (Ch h.1) (Ch h.2)
  ·cases h
 | .mnext O S x live,Q,st,h=>by have h:O6 P W0 nt O S x live Q st:=h;unfold O6 at h;exact h
 | .block id a,Q,st,h=>aX (Ch (ic:=a) h)
 | .loop c,Q,st,h=>by have h:GX P W0 nt c Q st:=h;unfold GX at h;exact h
 | .scope c,Q,st,h=>False.elim h
 | .rfn g ps a b W live,Q,st,h=>h
 | .wk c,Q,st,h=>by have h:WkW P W0 nt c Q st:=h;unfold WkW at h;exact AhK h
 | .opx l1 i d f args l2 live,Q,st,h=>by refine Acg ?_;refine BU (λenv σ w u q=>?_) (show J P W0 st.n i (MR P W0 d f args l2 live Q) l1 st.env st.σ from h);have j:=w (u-(st.n+1));rw[Axr q] at j;obtain⟨σi,R,y,z,A⟩:=j;refine⟨σi,R,y,z,λp v σo o B=>?_⟩;refine BU (λenv σ D r C=>?_) (A p v σo o B);have:=D (r-(p+1));grind
 | .opxq l1 i d g H f args l2 live,Q,st,h=>by
  refine rQ ?_;refine BU (λenv σ w u q=>?_) (show J P W0 st.n i (OT P W0 d g H f args l2 live Q) l1 st.env st.σ from h);have j:=w (u-(st.n+1));rw[Axr q] at j;rw[Iw] at j;unfold gdQ at j⊢;have G:∀{env:AE} {σ:Al},J P W0 u live Q l2 env σ->Aw P W0 u l2 env σ λenv σ=>∀r,u<r->Q .normal ⟨restrict live env,σ,r⟩:=λh=>BU (λenv σ D r C=>by have:=D (r-(u+1));grind) h;split at j
  ·rename_i t Y;refine⟨λL=>?_,λL=>G (j.2 L)⟩;obtain⟨σi,R,y,z,A⟩:=j.1 L;refine⟨σi,R,y,z,λp v σo o B=>?_⟩;refine BU (λenv σ D r C=>?_) (A p v σo o B);have:=D (r-(p+1));grind
  ·exact G j
  ·exact j.elim
 | .opxd l1 i d f args live paths,Q,st,h=>by refine o8 ?_;refine BU (λenv σ w u q=>?_) (show J P W0 st.n i (MR P W0 d f args [] live Q) l1 st.env st.σ from h);have j:Hu P W0 (st.n+1+(u-(st.n+1))) d f (En (restrict i env) args) [] live Q (restrict i env) σ:=w (u-(st.n+1));rw[Axr q] at j;obtain⟨σi,R,y,z,A⟩:=j;refine⟨σi,R,y,z,λp v σo o B r C=>?_⟩;have T:∀k,Q .normal ⟨restrict live ((d,v)::restrict i env),over σi σo σ,p+1+k⟩:=A p v σo o B;have:=T (r-(p+1));grind
 | .opxv l1 i d x args l2 live,Q,st,h=>by
  refine qY ?_;refine BU (λenv σ w u q=>?_) (show J P W0 st.n i (OU P W0 d x args l2 live Q) l1 st.env st.σ from h);have j:HP P W0 (st.n+1+(u-(st.n+1))) d (Be (restrict i env) x) (En (restrict i env) args) l2 live Q (restrict i env) σ:=w (u-(st.n+1));rw[Axr q] at j;have G:∀{p:Nat} {env:AE} {σ:Al},J P W0 p live Q l2 env σ->Aw P W0 p l2 env σ λenv σ=>∀r,p<r->Q .normal ⟨restrict live env,σ,r⟩:=fun{p} _ _ h=>BU (λenv σ D r C=>by have:=D (r-(p+1));grind) h;unfold HP at j;split at j
  ·rename_i f first E M
   obtain⟨σi,R,y,z,A⟩:=j;exact .inl ⟨f,first,E,M,σi,R,y,z,λp v σo o B=>G (A p v σo o B)⟩
  ·rename_i id M;obtain⟨σi,R,y,z,A⟩:=j;exact .inr ⟨id,M,σi,R,y,z,λp v σo o B=>G (A p v σo o B)⟩
  ·exact j.elim
 | .opxe ..,Q,st,h=>False.elim h
 | .anyr ..,Q,st,h=>False.elim h
 | .exit id,Q,st,h=>lG h
 | .ret,Q,st,h=>Ac8 h
 | .skip,Q,st,h=>tL h
theorem XX{j h s:Nat}{live:List Nat}{id mid:Id}{es:List (V×V)}{seen:List Nat}(u:get env s=.arr id)(r:lk σ id=some (.mit mid es.length seen es.length))(p:lk σ mid=some (.map es))(o:j∉live)(q:j≠h)
  (e:∀i w,es[i]?=some w->i∉seen->Q .normal ⟨restrict live ((h,.b true)::env),upd σ id (.mit mid es.length (seen++[i]) es.length),n+1⟩)
  (g:(∀i,i<es.length->i∈seen)->Q .normal ⟨restrict live ((h,.b false)::env),σ,n+1⟩):O6 P W0 nt j h (.t s) live Q ⟨env,σ,n⟩:=by
 unfold O6;exact aP u r p e g o q
def Ak(W0:World)(nt:Nat)(st e:St):Prop:=∀B a w,At W0 nt B st a w->At W0 nt B e a w
theorem Ak.refl:Ak W0 nt st st:=λ_ _ _ h=>h
theorem Ak.trans{e g i:St}(h:Ak W0 nt e g)(k:Ak W0 nt g i):Ak W0 nt e i:=λB a w x=>k B a w (h B a w x)
theorem Uu{ic:IC}{g:St}(h:Ak W0 nt st g)(k:FO P W0 nt ic Q g):FO P W0 nt ic Q st:=λe j B a w o i=>k e j B a w o (h B a w i)
def QW(W0:World)(nt:Nat)(Q:Exit->St->Prop)(e:Exit)(st:St):Prop:=∃g,Ak W0 nt st g/\Q e g
theorem Mo{ic:IC}(h:FO P W0 nt ic (QW W0 nt Q) st):FO P W0 nt ic Q st:=by intro g q B a w t i;refine Bc (h g q B a w t i) λe a w r=>?_;obtain⟨o,y,s,⟨z,j,u⟩,p⟩:=r;exact⟨o,y,z,u,j o a w p⟩
def Px(W0:World)(nt:Nat)(Inv:Nat->St->Prop)(m:Nat)(Q:Exit->St->Prop):Exit->St->Prop
 | .normal,st=>∃h g,h<m/\Ak W0 nt st g/\Inv h g
 | e,st=>Q e st
theorem NR{Inv:Nat->St->Prop}{m:Nat}:Px W0 nt Inv m Q .normal st=∃g e,g<m/\Ak W0 nt st e/\Inv g e:=rfl
theorem SW{Inv:Nat->St->Prop}{m k:Nat}:Px W0 nt Inv m Q (.exit k) st=Q (.exit k) st:=rfl
theorem Tf{Inv:Nat->St->Prop}{m:Nat}:Px W0 nt Inv m Q .ret st=Q .ret st:=rfl
theorem Am{Inv:Nat->St->Prop}(m:Nat)(h:∃i,Ak W0 nt st i/\Inv m i)(g:∀m st,Inv m st->aW P W0 nt c (Px W0 nt Inv m Q) st):GX P W0 nt c Q st:=by
 unfold GX;obtain⟨i,o,j⟩:=h;refine Uu o (sM (Inv:=Inv) (λm st u=>?_) m j);refine Mo (Ng (Ch (g m st u)) λe s p=>?_);cases e with
 | normal=>obtain⟨w,y,q,r,t⟩:=p;exact⟨y,r,w,q,t⟩
 | _=>exact⟨s,Ak.refl,p⟩
theorem Ha{e:St}(h:Ak W0 nt st e)(k:aW P W0 nt c Q e):WkW P W0 nt c Q st:=by unfold WkW;exact Uu h (Ch k)
def Sb(W0:World)(nt:Nat)(e:List R)(vs:List V)(σ':Al):Exit->St->Prop:=QW W0 nt (Fin e vs σ')
def Afj(W0:World)(nt s:Nat)(x:Ax)(σ':Al):Exit->St->Prop:=QW W0 nt (AoW s x σ')
theorem Ah{f:FuncId}{ic:IC}{o:List R}(j:Au P f nt ic o=true){args:List V}(g:args.length<=nt){σ σ':Al}{vs:List V}(i:∀id,lk σ' id≠none->lk σ id≠none)
  (h:∀n,(∀id e,lk σ id=some e->id.1<n)->aW P W0 nt ic (Sb W0 nt o vs σ') ⟨params 0 args,σ,n⟩):An P W0 f args σ (Ml vs) σ':=
 Agt j g i λn p=>Mo (Ch (h n p))
def Aor(W0:World)(nt:Nat)(e:List R)(R:Nat->Nat->V->Al->Prop)(n0:Nat):Exit->St->Prop:=QW W0 nt (AlY e R n0)
theorem Cc{f:FuncId}{ic:IC}{j:List R}(i:Au P f nt ic j=true){args:List V}(g:args.length<=nt){σ:Al}{R:Nat->Nat->V->Al->Prop}
  (h:∀n,(∀id e,lk σ id=some e->id.1<n)->aW P W0 nt ic (Aor W0 nt j R n) ⟨params 0 args,σ,n⟩):Ex P W0 f args σ R:=
 yR i g λn o=>Mo (Ch (h n o))
theorem XE{f:FuncId}{ic:IC}{s:Nat}(j:Au P f nt ic [.t s]=true){args:List V}(g:args.length<=nt){σ σ':Al}{x:Ax}(i:∀id,lk σ' id≠none->lk σ id≠none)
  (h:∀n,(∀id e,lk σ id=some e->id.1<n)->aW P W0 nt ic (Afj W0 nt s x σ') ⟨params 0 args,σ,n⟩):Jh P W0 f args σ x σ':=
 AkG j g i λn o=>Mo (Ch (h n o))
theorem Ai{s:Nat}{v:V}(h:get env s=v):Sb W0 nt [.t s] [v] [] .ret ⟨env,σ,n⟩:=⟨_,Ak.refl,⟨h,trivial⟩,λid e h=>by simp[lk] at h⟩
theorem AD{s:Nat}{v:V}{σ':Al}(h:get env s=v)(g:∀id e,lk σ' id=some e->lk σ id=some e):Sb W0 nt [.t s] [v] σ' .ret ⟨env,σ,n⟩:=⟨_,Ak.refl,⟨h,trivial⟩,g⟩
theorem CS(σ:Al):over σ σ σ=σ:=by
 have:∀(p:Id×Ax),p∈σ->(lk σ p.1).isNone=false:=by
  intro p hp
  induction σ with
  | nil=>cases hp
  | cons q σ e=>grind[lk]
 unfold over;rw[List.filter_eq_nil_iff.2 (λp hp=>by simp[this p hp]),Ary]
theorem Ak.weak(φ:Id->Option (List V)){env':AE}{σ':Al}{n':Nat}
  (j:∀id es,φ id=some es->(∃e sz,lk σ id=some (.arr e sz es))/\lk σ' id=none)
  (g:∀s,Lz φ (get env s) (get env' s))(i:∀id e',lk σ' id=some e'->∃e,lk σ id=some e/\La φ e e')(o:n<=n'):Ak W0 nt ⟨env,σ,n⟩ ⟨env',σ',n'⟩:=
 λB a w h=>h.weak φ j g i o
theorem Ak.own{s e sz k:Nat}(C:get env s=.nil):Ak W0 nt ⟨env,σ,n⟩ ⟨(s,.arr (n,k))::env,((n,k),.arr e sz [])::σ,n+1⟩:=by
 intro B a w r;obtain⟨μ,H,y,hp,A,p,o,t⟩:=r;have g:μ (n,k)=none:=hp.bd _ (Abm _);have j:=Bj (v:=.slice none 0 0) g;have i:=(hp.more (AmL n)).new_ (n':=n+1) (w':=w) (R:=λ_=>False) ⟨rfl,rfl,rfl,Abm _,λ_ _ _=>rfl⟩ (λ_ h=>h.elim) (σ1:=σ) (λid e h=>⟨h,λ_ _ h=>h⟩) (id:=(n,k)) (e:=.arr e sz []) (val:=.slice none 0 0) g (Ab3 _) (Abm _) (λF z=>by simp[BH] at z)
  ⟨.slice none 0 0,[],Aq _ _ _,rfl,AwK w _ e sz,Alq _,(λx D=>by cases D),AI.nil_⟩
 refine⟨_,H,⟨y.size,λE=>?_⟩,i.1,A.trans i.2,λid u q=>?_,All o (AmL _),t⟩
 ·simp only[get];split
  ·rename_i q;subst q;have:=y.at_ s;simp only[C] at this;rw[this.nil_inv];exact .arr _ _ (Aq _ _ _) rfl
  ·exact(y.at_ E).mono j (λ_ _ h=>h)
 ·simp only at o;rw[B0 _ _ (by grind)];exact p id u q
theorem Ak.drop{σ':Al}{n':Nat}(h:∀id e,lk σ' id=some e->lk σ id=some e)(i:n<=n'):Ak W0 nt ⟨env,σ,n⟩ ⟨env,σ',n'⟩:=
 Ak.weak (λ_=>none) (λ_ _ h=>by cases h) (λ_=>.refl _) (λid e' g=>⟨e',h id e' g,.refl _⟩) i
end
end Go.Ir
end
section
namespace Go.Ir
variable[FW]
theorem Ab6{ys:List V}:nP [] ys=True:=rfl
theorem oA{x:V}{xs ys:List V}:nP (x::xs) ys=((∀y∈ys,∀id,Ce x=some id->Ce y≠some id)/\nP xs ys):=rfl
def o1(d:Nat)(e:AG):I:=⟨some d,e,none,[]⟩
def o0(e:AG):I:=⟨none,e,none,[]⟩
def m1(d x:Nat):I:=⟨some d,.mv (.t x),none,[]⟩
def ci(z:Int):X:=.c (.i .i64 z)
def mZ(d:Nat)(z:Int):I:=⟨some d,.mv (.c (.i .i64 z)),none,[]⟩
def mC(d:Nat)(v:V):I:=⟨some d,.mv (.c v),none,[]⟩
def l1(d s:Nat):I:=⟨some d,.load (.t s) 1 false,none,[]⟩
def lA(d s n:Nat):I:=⟨some d,.load (.t s) n true,none,[]⟩
def fA(d s k:Nat):I:=⟨some d,.faddr (.t s) k,none,[]⟩
def xT(d s k:Nat):I:=⟨some d,.ext (.t s) k,none,[]⟩
def bT(d:Nat)(o:BinOp)(a b:Nat):I:=⟨some d,.bin o (.t a) (.t b),none,[]⟩
def bZ(d:Nat)(o:BinOp)(a:Nat)(z:Int):I:=⟨some d,.bin o (.t a) (.c (.i .i64 z)),none,[]⟩
def bC(d:Nat)(o:BinOp)(a:Nat)(v:V):I:=⟨some d,.bin o (.t a) (.c v),none,[]⟩
def q1(d f a:Nat):I:=⟨some d,.call f [.t a],none,[]⟩
def q2(d f a b:Nat):I:=⟨some d,.call f [.t a,.t b],none,[]⟩
def q3(d f a b c:Nat):I:=⟨some d,.call f [.t a,.t b,.t c],none,[]⟩
def pO(d a b:Nat):I:=⟨some d,.pick (.t a) (.c (.b true)) (.t b),none,[]⟩
def pA(d a b:Nat):I:=⟨some d,.pick (.t a) (.t b) (.c (.b false)),none,[]⟩
def nL(d s:Nat):I:=⟨some d,.lenL (.t s),none,[]⟩
def nS(d s:Nat):I:=⟨some d,.lenS (.t s),none,[]⟩
def nT(d s:Nat):I:=⟨some d,.not (.t s),none,[]⟩
def nC(d s:Nat):I:=⟨some d,.nilck (.t s),none,[]⟩
def bX(d s:Nat):I:=⟨some d,.box (.t s),none,[]⟩
def iA(d a b e z:Nat):I:=⟨some d,.iaddr (.t a) (.t b) e z,none,[]⟩
def sT(a b n:Nat):I:=⟨none,.store (.t a) (.t b) n,none,[]⟩
def gT(d g:Nat)(o:AG):I:=⟨some d,o,some (g,true),[]⟩
def gF(d g:Nat)(o:AG):I:=⟨some d,o,some (g,false),[]⟩
def BL(d g s:Nat):I:=⟨some d,.mv (.t s),some (g,true),[]⟩
def BI(d g s:Nat):I:=⟨some d,.mv (.t s),some (g,false),[]⟩
def EQ(d g s:Nat):I:=⟨some d,.load (.t s) 1 false,some (g,true),[]⟩
def E8(d g s:Nat):I:=⟨some d,.load (.t s) 1 false,some (g,false),[]⟩
def Ft(d g s k:Nat):I:=⟨some d,.faddr (.t s) k,some (g,true),[]⟩
def ER(d g s k:Nat):I:=⟨some d,.faddr (.t s) k,some (g,false),[]⟩
def Fz(d g:Nat)(o:BinOp)(a:Nat)(z:Int):I:=⟨some d,.bin o (.t a) (.c (.i .i64 z)),some (g,true),[]⟩
def EI(d g:Nat)(o:BinOp)(a:Nat)(z:Int):I:=⟨some d,.bin o (.t a) (.c (.i .i64 z)),some (g,false),[]⟩
def oP(l:List I)(v:List Nat):IC:=.ops l v []
def oR(l:List I)(v:List Nat):IC:=.seq (.ops l v []) .ret
def oS(l:List I)(v:List Nat)(b:IC):IC:=.seq (.ops l v []) b
def rS(l:List I)(v:List Nat)(b:IC):IC:=.seq (.seqr l v) b
def sQ(a b:IC):IC:=.seq a b
def cD(n:Nat)(a b:IC):IC:=.cond (.t n) a b
theorem bq:(!true)=false/\(!false)=true/\(∀b,(true||b)=true)/\(∀b,(false||b)=b)/\(∀b,(b||true)=true)/\(∀b,(b||false)=b)/\(∀b,(true&&b)=b)/\(∀b,(false&&b)=false)/\(∀b,(b&&true)=b)/\(∀b,(b&&false)=false)/\((false=true)=False):=by simp
theorem AM{c d:IC}(h:c=d)(P:Program)(W0:World)(nt:Nat)(Q:Exit->St->Prop)(env:AE)(σ:Al)(n:Nat):aW P W0 nt c Q ⟨env,σ,n⟩=aW P W0 nt d Q ⟨env,σ,n⟩:=by rw[h]
theorem Ar{c d:IC}{p:Prop}(h:c=d)(q:p):(∀P W0 nt Q env σ n,aW P W0 nt c Q ⟨env,σ,n⟩=aW P W0 nt d Q ⟨env,σ,n⟩)/\p:=⟨AM h,q⟩
section
variable{P:Program}{W0:World}{nt n d f:Nat}{Q:Exit→St→Prop}{env:AE}{σ:Al}{l1 l2:List I}{v1 v:List Nat}{x:X}{args:List X}{ps:List (List Nat)}
theorem Aj9:aW P W0 nt (.opx l1 v1 d f args l2 v) Q ⟨env,σ,n⟩=J P W0 n v1 (MR P W0 d f args l2 v Q) l1 env σ:=rfl
theorem Abq{g:Nat}{e:Bool}:aW P W0 nt (.opxq l1 v1 d g e f args l2 v) Q ⟨env,σ,n⟩=J P W0 n v1 (OT P W0 d g e f args l2 v Q) l1 env σ:=rfl
theorem zM:aW P W0 nt (.opxv l1 v1 d x args l2 v) Q ⟨env,σ,n⟩=J P W0 n v1 (OU P W0 d x args l2 v Q) l1 env σ:=rfl
theorem Aac:aW P W0 nt (.opxd l1 v1 d f args v ps) Q ⟨env,σ,n⟩=J P W0 n v1 (MR P W0 d f args [] v Q) l1 env σ:=rfl
end
attribute [push_cast] put params Alh Alw if_true if_false Awg AwA rO uW iY i7 Hr lk upd del EL Dx sub QD Ars Option.getD_some Aw7 AvI and_true true_and AxS Int.natCast_nonneg Int.zero_le_ofNat Awq Avm Ah5 Alo cond_true cond_false AcY Av6 Av9 AcM Amb Axb and_self and_false false_and Auu At2 As2 Auk AqW Anz Ary Abf AtE Aaj AsM yY AtM bW Akc gD ApH Zs Ahy ZM Aj5 bA AiV Tp Aag cN AnX vU Amu nY Am6 tI Aoq uJ AoK Aar ApF AlT AoN Ao5 Amr AlF AnP dA Uk Aa6 YO QG cZ Aax Z6 AhS Ah9 bQ T5 Ty aA YW Tu TM bG iU Uq TY SP UI AhN gQ Ag3 Abt Akx zQ jA eI eN uL TA RT SI Tz Aiq AkE AkO AiH xE R0 AkP AnF Ans Aa9 sB yT qM Zw UM Zn aN Z2 Ug BF zJ PX NO N7 PQ SA Qw TX YF Asi AhH Anq Aog AoJ Aqb Abr AaB Aon AgZ yJ An8 Abw AbG AhE Ajl Ap8 AqG Aky AjY AmE Apj AjG Atx AaR Aqg AaL AcS AaJ AcK yA ArN iL pV s9 dF Aod Uv YV AfY Aa0 AcC zY jE TT b9 Ti ArA AnQ AqJ AcP AaK Ana AjC Amg Ams Aa7 Ac5 m4 qT qB u9 Ac3 Agv Aaf AjB jX AcZ p5 Ab4 kH jF ZB oV nX sA qC Apt Aqc Apf ApY Ah8 Am9 pH kM uB yW Za YS ZI ZK bU Y8 yM o7 fW gY xF Rg Rs RS QA SF uZ tB Axc List.all_nil Bool.and_self Auy Akq Agj AaH rE AaP Ane AbR Aij zP Ace Aak PD NS TD QC Ahl P6 UP YQ NR SW Tf Alf AG.cs Ab6 oA o1 o0 m1 ci mZ mC l1 lA fA xT bT bZ bC q1 q2 q3 pO pA nL nS nT nC bX iA sT gT gF BL BI EQ E8 Ft ER Fz EI oP oR oS rS sQ cD Aj9 Abq Iw zM Aac zD decide_true decide_false
end Go.Ir
end
section
namespace Go.Ir
open Go.Proofs Go.RowKit
section
variable{P:Program}{W0:World}
theorem NM{J:FuncId}{T:TypeId}{u y:V}{id:Id}{g:Nat}(z:callable P J=true)(hc:(cells u)[g]?=some .np)(F:Dx u g 1 (.ref id g)=some y)
  (q:∀(b:Nat) (w:World),w.cell? ⟨b,g,none⟩=some (.pointer none)->w.shape? b=some (T,(cells u).length)->w.frozen? ⟨b,g,none⟩=false->g<(cells u).length->
   Calls P J #[.pointer (some ⟨b,g,none⟩)] w λe w'=>e=.returned (.tuple #[])/\w'=w.setCell ⟨b,g,none⟩ (.pointer (some ⟨b,g,none⟩))) :
  An P W0 J [.ref id g] [(id,.tbox T u)] (.tup []) [(id,.tbox T y)] where
 callable:=z
 dom:=λi hi=>by simp only[lk] at hi⊢;grind
 run:=by
  intro n w μ H vals hp r;have S:lk [(id,Ax.tbox T u)] id=some (.tbox T u):=by simp[lk]
  obtain⟨ad,R,o⟩:=G8 F;have E:g<(cells u).length:=by omega
  have W:∀{μ:Id->Option Value} {H:Addr->Option Value},Ap μ H (.tup []) (.tuple #[]):=.tup [] [] rfl (λk c v M=>by simp at M);obtain⟨x,rfl,hx⟩:=r.one_;obtain⟨h,G,rfl⟩:=hx.ref_inv;obtain⟨Z,p,D,hB,A,j⟩:=hp.ents _ _ S;rw[G] at D;cases D;obtain⟨x0,O,N⟩:=j.toVRels.get hc;rw[N.np_inv'] at O;have C:(cells u).length=p.size:=by rw[j.len];simp
  have B:g<p.size:=by omega
  have L:p[g]=.pointer none:=by grind
  refine AtR (q h w (by simp[World.cell?,A,B,L]) (by simp[World.shape?,A,C]) (by simp[World.frozen?,A]) E) ?_;rintro e w' ⟨rfl,rfl⟩;have t:w.setCell ⟨h,g,none⟩ (.pointer (some ⟨h,g,none⟩))=w.setRow h (p.setIfInBounds g (.pointer (some ⟨h,g,none⟩))):=setCell_eq_setRow w h g p T (0,0) _ A;rw[t];have s:AI μ H (cells y) (p.setIfInBounds g (.pointer (some ⟨h,g,none⟩))).toList:=by
   have h1:AI μ H (cells (V.ref id g)) [.pointer (some ⟨h,g,none⟩)]:=⟨VRels.nil_.cons (.ref id g h G),λv Y=>by simp at Y;subst Y;rfl⟩
   have:=Dw j h1 g (g+1);rw[o,Axp,AwO,if_pos (by simpa using B)];simpa using this
  have U:=hp.set_ (e:=.tbox T y) S ((AL.setRow w h _).to (λk M=>by subst M;simp[G,BH])) ⟨h,_,G,hB,setRow_heap w h p _ T (0,0) A,s⟩;have ae:upd [(id,Ax.tbox T u)] id (.tbox T y)=[(id,.tbox T y)]:=by simp[upd]
  grind
theorem Qk{y:FuncId}{T:TypeId}{u:V}{id:Id}{g:Nat}(o:callable P y=true)(J:(cells u)[g]?=some (.ref id g))
  (t:∀(b:Nat) (w:World),w.cell? ⟨b,g,none⟩=some (.pointer (some ⟨b,g,none⟩))->Calls P y #[.pointer (some ⟨b,g,none⟩)] w λe w'=>e=.returned (.tuple #[])/\w'=w) :
  An P W0 y [.ref id g] [(id,.tbox T u)] (.tup []) [(id,.tbox T u)] where
 callable:=o
 dom:=λi M=>M
 run:=by
  intro n w μ H vals hp j;have O:lk [(id,Ax.tbox T u)] id=some (.tbox T u):=by simp[lk]
  have s:∀{μ:Id->Option Value} {H:Addr->Option Value},Ap μ H (.tup []) (.tuple #[]):=.tup [] [] rfl (λk c v N=>by simp at N);obtain⟨x,rfl,R⟩:=j.one_;obtain⟨C,E,rfl⟩:=R.ref_inv;obtain⟨F,D,p,hB,L,r⟩:=hp.ents _ _ O;rw[E] at p;cases p;obtain⟨U,S,B⟩:=r.toVRels.get J;obtain⟨G,q,rfl⟩:=B.ref_inv;rw[E] at q;cases q;have A:g<D.size:=by grind
  have z:D[g]=.pointer (some ⟨C,g,none⟩):=by grind
  refine AtR (t C w (by simp[World.cell?,L,A,z])) ?_;rintro e w' ⟨rfl,rfl⟩;exact⟨_,μ,H,n,rfl,s,hp,Abm _,Fr.refl _ _ _ _,λ_ _ h=>h⟩
theorem Ri{O:FuncId}{e:TypeId}{T:TypeId}{u:V}{id bid:Id}{g:Nat}{l:List UInt8}(C:callable P O=true)(hc:(cells u)[Nat.succ g]?=some (.arr bid))(p:bid≠id)(E:l.length<=AA)
  (M:∀(b:Nat) (v:Value) (B:Nat) (w:World),w.cell? ⟨b,Nat.succ g,none⟩=some v->w.ownsRow B e 1 v l.length (Lib.byteCells l)->
   Calls P O #[.pointer (some ⟨b,g,none⟩)] w λe w'=>e=.returned (.string ⟨l.toArray⟩)/\w.grownBy w' v.ownBlock) :
  An P W0 O [.ref id g] [(id,.tbox T u),(bid,.arr e 1 (Ay l))] (.s l) [(id,.tbox T u)] where
 callable:=C
 dom:=λi hi=>by simp only[lk] at hi⊢;grind
 run:=by
  intro n w μ H vals hp q;have hl:lk [(id,Ax.tbox T u),(bid,.arr e 1 (Ay l))] id=some (.tbox T u):=by simp[lk]
  have t:lk [(id,Ax.tbox T u),(bid,.arr e 1 (Ay l))] bid=some (.arr e 1 (Ay l)):=by simp[lk,AhZ p]
  obtain⟨y,rfl,hy⟩:=q.one_;obtain⟨Z,hm,rfl⟩:=hy.ref_inv;obtain⟨ab,cv,F,hB,hg,L⟩:=hp.ents _ _ hl;rw[hm] at F;cases F;obtain⟨val,A,hr⟩:=L.toVRels.get hc;have r:w.cell? ⟨Z,Nat.succ g,none⟩=some val:=by
   have o:=(Alp.1 A).1;have o:Nat.succ g<cv.size:=by simpa using o
   rw[Awe,At8 o] at A;simp only[World.cell?,hg,At8 o];exact A
  obtain⟨G,ae⟩:=hr.arr_inv;obtain⟨N,_,j,U,an,z⟩:=Dm hp t G;rw[IE z,show(Ay l).length=l.length by simp[Ay]] at j;refine AtR (M Z val W0.heap.size w r j) ?_;rintro ad w' ⟨rfl,S⟩;have J:∀k,some k=val.ownBlock->BH (μ bid)=some k:=by
   intro k D;rw[G];obtain⟨Y,aa,W⟩:=BY j;rw[W] at D⊢;cases Y with
   | none=>simp[Value.ownBlock] at D
   | some Y=>simpa[Value.ownBlock,BH] using D.symm
  have hd:del [(id,Ax.tbox T u),(bid,.arr e 1 (Ay l))] bid=[(id,.tbox T u)]:=by simp[del,AhZ p]
  have:=hp.lose (σ1:=del [(id,Ax.tbox T u),(bid,.arr e 1 (Ay l))] bid) (AL.of_grown S) (λk D=>⟨bid,_,t,J k D⟩) (λap e' h=>by
   rw[CJ] at h;split at h
   ·cases h
   ·rename_i p;exact⟨h,λb hb R=>p (hp.sep _ _ _ _ b t h (J b R) hb)⟩)
  rw[hd] at this;exact⟨_,μ,H,n,rfl,.s l E,this.1,Abm _,this.2,λ_ _ h=>h⟩
end
variable(W0:World)
theorem Xt{T:TypeId}{id:Id}{r:List V}(e:liesAt Tryz.prog Tryz.prog.depth T ((r.length+1) / Tryz.prog.cellsOf T) 0 98 1=true) :
  An Tryz.prog W0 180 [.ref id 0] [(id,.tbox T (.agg (.np::r)))] (.tup []) [(id,.tbox T (.agg (.ref id 0::r)))]:=
 NM (by kernel_rfl) rfl (by simp[Dx,cells,QD,Q6,V.one]) λb w j i h g=>My T (r.length+1) 0 e b w j i h g
theorem Vd{T:TypeId}{id:Id}{r:List V}:An Tryz.prog W0 180 [.ref id 0] [(id,.tbox T (.agg (.ref id 0::r)))] (.tup []) [(id,.tbox T (.agg (.ref id 0::r)))]:=
 Qk (by kernel_rfl) rfl λb w e=>O3 b 0 w e
theorem OB{T:TypeId}{id bid:Id}{l:List UInt8}{a:V}{r:List V}(e:bid≠id)(h:l.length<=AA) :
  An Tryz.prog W0 45 [.ref id 0] [(id,.tbox T (.agg (a :: .arr bid::r))),(bid,.arr 5 1 (Ay l))] (.s l) [(id,.tbox T (.agg (a :: .arr bid::r)))]:=
 Ri (by kernel_rfl) rfl e h λb v B w g i=>Lo b 0 l v B w g i
end Go.Ir
end
section
namespace Go.Ir
abbrev Aa:=List UInt8
structure Aj where
 kind:Int
 text:Aa
 name:Aa
 style:Aa
 cases:List (Aa×List Aj)
 parts:List Aj
abbrev AJ:=Aa×List Aj
mutual
def Aj.enc:Aj->V
 | ⟨k,t,n,s,cs,ps⟩=>.agg [.i .i64 k,.s t,.s n,.s s,.sl (Jr cs),.sl (HB ps)]
def HB:List Aj->List V
 | []=>[]
 | p::ps=>p.enc::HB ps
def Jr:List (Aa×List Aj)->List V
 | []=>[]
 | (k,ps)::cs=>.agg [.s k,.sl (HB ps)]::Jr cs
end
mutual
def Aj.wt:Aj->Nat
 | ⟨_,t,n,s,cs,ps⟩=>1+t.length+n.length+s.length+DG cs+AU ps
def AU:List Aj->Nat
 | []=>0
 | p::ps=>p.wt+AU ps
def DG:List (Aa×List Aj)->Nat
 | []=>0
 | (k,ps)::cs=>1+k.length+AU ps+DG cs
end
def AJ.enc(c:AJ):V:=.agg [.s c.1,.sl (HB c.2)]
theorem HS:∀ps,HB ps=ps.map Aj.enc
 | []=>by simp[HB]
 | p::ps=>by simp[HB,HS ps]
theorem Oe:∀cs,Jr cs=cs.map AJ.enc
 | []=>by simp[Jr]
 | (k,ps)::cs=>by simp[Jr,Oe cs,AJ.enc]
@[push_cast] theorem Aj.enc_eq(p:Aj):p.enc=.agg [.i .i64 p.kind,.s p.text,.s p.name,.s p.style,.sl (p.cases.map AJ.enc),.sl (p.parts.map Aj.enc)]:=by cases p;simp[Aj.enc,HS,Oe]
@[push_cast] theorem AJ.enc_eq(c:AJ):AJ.enc c=.agg [.s c.1,.sl (c.2.map Aj.enc)]:=by simp[AJ.enc,HS]
theorem Aj.wt_eq(p:Aj):p.wt=1+p.text.length+p.name.length+p.style.length+DG p.cases+AU p.parts:=by cases p;simp[Aj.wt]
theorem Bk(p:Aj)(ps:List Aj):AU (p::ps)=p.wt+AU ps:=by simp[AU]
theorem B6(c:AJ)(cs:List AJ):DG (c::cs)=1+c.1.length+AU c.2+DG cs:=by obtain⟨k,ps⟩:=c;simp[DG]
theorem uI:AU []=0:=by simp[AU]
theorem Rp:DG []=0:=by simp[DG]
theorem Fq{ps:List Aj}{p:Aj}(h:p∈ps):p.wt<=AU ps:=by
 induction ps with
 | nil=>cases h
 | cons d ps e=>rw[Bk];grind
theorem Cm{cs:List AJ}{c:AJ}(h:c∈cs):1+c.1.length+AU c.2<=DG cs:=by
 induction cs with
 | nil=>cases h
 | cons d cs e=>rw[B6];grind
theorem Ez(ps:List Aj):ps.length<=AU ps:=by
 induction ps with
 | nil=>simp
 | cons p ps e=>rw[Bk,Ah5,p.wt_eq];omega
theorem Ep(cs:List AJ):cs.length<=DG cs:=by
 induction cs with
 | nil=>simp
 | cons p ps e=>rw[B6,Ah5];omega
section zip
variable{α β:Type}{f:α→β}{done rest:List α}{x:α}
@[push_cast] theorem Atf:decide ((done.length:Int)<((done++x::rest).length:Int))=true:=by simp;omega
@[push_cast] theorem Art:(List.map f (done++x::rest))[done.length]?=some (f x):=by simp
@[push_cast] theorem Aqd:(done++x::rest)[done.length]?=some x:=by simp
@[push_cast] theorem Arj(n:Int):decide (n<n)=false:=by simp
theorem Ad(x:α){done:List α}(h:done.length<2^62):IntKind.i64.wrap ((done.length:Int)+1)=((done++[x]).length:Int):=by rw[wrap64 (by omega) (by omega)];simp
theorem AH{xs:List α}(h:xs=done++x::rest):done.length<xs.length:=by rw[h];simp
end zip
attribute [push_cast] Acr
@[push_cast] theorem Ali{c:UInt8}{r:List UInt8}:(c::r==[])=false:=rfl
@[push_cast] theorem Als:(([]:List UInt8)==[])=true:=rfl
@[push_cast] theorem ep1(a k:Nat):(a+1+k=a)=False:=by simp;omega
@[push_cast] theorem AwD(a k:Nat):(a=a+1+k)=False:=by simp;omega
@[push_cast] theorem ep2(a k j:Nat):(a+1+k+1+j=a)=False:=by simp;omega
@[push_cast] theorem Awb(a k j:Nat):(a=a+1+k+1+j)=False:=by simp;omega
@[push_cast] theorem ep3(a k j i:Nat):(a+1+k+1+j+1+i=a)=False:=by simp;omega
@[push_cast] theorem AvX(a k j i:Nat):(a=a+1+k+1+j+1+i)=False:=by simp;omega
@[push_cast] theorem ep4(a k j i h:Nat):(a+1+k+1+j+1+i+1+h=a)=False:=by simp;omega
@[push_cast] theorem Aw6(a k j i h:Nat):(a=a+1+k+1+j+1+i+1+h)=False:=by simp;omega
@[push_cast] theorem ep5(a k j i h g:Nat):(a+1+k+1+j+1+i+1+h+1+g=a)=False:=by simp;omega
@[push_cast] theorem AwV(a k j i h g:Nat):(a=a+1+k+1+j+1+i+1+h+1+g)=False:=by simp;omega
@[push_cast] theorem ApM(l:List V):Ce (.sl l)=none:=rfl
@[push_cast] theorem Alu:Ce .nil=none:=rfl
@[push_cast] theorem Apz(v:V)(k:Nat):Ce (v.ep k)=none:=rfl
@[push_cast] theorem Aro(l:Aa):Ce (.s l)=none:=rfl
@[push_cast] theorem AqY(l:Bool):Ce (.b l)=none:=rfl
@[push_cast] theorem Arc(k:IntKind)(l:Int):Ce (.i k l)=none:=rfl
@[push_cast] theorem Alv(l:List V):Ce (.agg l)=none:=rfl
@[push_cast] theorem Alk(id:Id)(o:Nat):Ce (.ref id o)=some id:=rfl
@[push_cast] theorem Alt(id:Id):Ce (.arr id)=some id:=rfl
attribute [push_cast] List.forall_mem_cons AvJ false_imp_iff implies_true AkA forall_eq' ne_eq not_false_eq_true
def Aj.v(p:Aj):V:=.agg [.i .i64 p.kind,.s p.text,.s p.name,.s p.style,.sl (p.cases.map AJ.enc),.sl (p.parts.map Aj.enc)]
def AJ.v(c:AJ):V:=.agg [.s c.1,.sl (c.2.map Aj.enc)]
theorem HX(x:UInt8){done:List UInt8}(h:done.length<AA):IntKind.i64.wrap ((done.length:Int)+1)=((done++[x]).length:Int):=Ad x (by unfold AA at h;omega)
@[push_cast] theorem ArG(w r:Aa):(if 0<=w.length/\w.length<=(w++r).length then some (V.s (List.take w.length (w++r))) else none)=some (V.s w):=by grind
@[push_cast] theorem AtK(w r:Aa):(if w.length<=(w++r).length/\(w++r).length<=(w++r).length then some (V.s (List.drop w.length (List.take (w++r).length (w++r)))) else none)=some (V.s r):=by grind
@[push_cast] theorem Ari(w r:Aa)(c:UInt8):(if(w++[c]).length<=(w++c::r).length/\(w++c::r).length<=(w++c::r).length then some (V.s (List.drop (w++[c]).length (List.take (w++c::r).length (w++c::r)))) else none)=some (V.s r):=by rw[if_pos ⟨by simp,Abm _⟩,Alj,show w++c::r=(w++[c])++r by simp];simp only[AxK]
@[push_cast] theorem Arw(w:Aa):(if 0<=w.length/\w.length<=w.length then some (V.s (List.take w.length w)) else none)=some (V.s w):=by grind
@[push_cast] theorem Asz{α:Type}(f:α->V)(w r:List α):(if 0<=w.length/\w.length<=(w++r).length then some (V.sl (List.take w.length (List.map f (w++r)))) else none)=some (V.sl (List.map f w)):=by grind
end Go.Ir
end
namespace Go.Ir
open Go.Proofs
variable{P:Program}{W0:World}{nt n:Nat}{Q:Exit→St→Prop}{env:AE}{σ:Al}
def gP:IC:=sQ (.block 3 (oP [m1 31 3,m1 32 0,m1 33 4,iA 34 32 33 116 6,fA 35 34 4,l1 36 35,m1 37 5,iA 38 36 37 118 2,fA 39 38 1,l1 40 39,q1 41 69 40,o1 42 (.bin .add (ci 1) (.t 41)),o1 43 (.mx false (.t 31) [.t 42]),m1 3 43] [0,3,4,5])) (oP [m1 29 5,bZ 30 .add 29 1,m1 5 30] [0,3,4,5])
def nG:IC:=sQ (oS [m1 21 5,m1 22 0,m1 23 4,iA 24 22 23 116 6,fA 25 24 4,l1 26 25,nL 27 26,bT 28 .lss 21 27] [0,3,4,5,28] (cD 28 .skip (.exit 2))) gP
def tM:IC:=sQ (.block 1 (oS [m1 12 3,m1 13 0,m1 14 4,iA 15 13 14 116 6,fA 16 15 5,l1 17 16,q1 18 69 17,o1 19 (.bin .add (ci 1) (.t 18)),o1 20 (.mx false (.t 12) [ci 1,.t 19]),m1 3 20] [0,3,4] (oS [mZ 5 0] [0,3,4,5] (.block 2 (.loop nG))))) (oP [m1 10 4,bZ 11 .add 10 1,m1 4 11] [0,3,4])
def Adq:IC:=sQ (oS [mZ 4 0] [0,3,4] (.block 0 (.loop (sQ (oS [m1 6 4,m1 7 0,nL 8 7,bT 9 .lss 6 8] [0,3,4,9] (cD 9 .skip (.exit 0))) tM)))) (oR [m1 44 3,m1 2 44] [2])
def Ad0:IC:=oS [mZ 2 0] [0] (oS [mZ 3 0] [0,3] Adq)
@[push_cast]def AsP:List R:=[.t 2]
@[push_cast]def AvZ:=Ar gP.eq_1<|Ar nG.eq_1<|Ar tM.eq_1<|Ar Adq.eq_1<|AM Ad0.eq_1
theorem AqK:Au Tryz.prog 69 45 Ad0 AsP=true:=by kernel_rfl
def xQ:IC:=sQ (.block 3 (oP [m1 39 3,m1 40 0,m1 41 4,iA 42 40 41 116 6,fA 43 42 4,l1 44 43,m1 45 5,iA 46 44 45 118 2,fA 47 46 1,l1 48 47,q1 49 70 48,o1 50 (.bin .add (ci 1) (.t 49)),bT 51 .add 39 50,m1 3 51] [0,3,4,5])) (oP [m1 37 5,bZ 38 .add 37 1,m1 5 38] [0,3,4,5])
def rI:IC:=sQ (oS [m1 29 5,m1 30 0,m1 31 4,iA 32 30 31 116 6,fA 33 32 4,l1 34 33,nL 35 34,bT 36 .lss 29 35] [0,3,4,5,36] (cD 36 .skip (.exit 2))) xQ
def mK:IC:=sQ (.block 1 (sQ (.ops [m1 12 3,m1 13 0,m1 14 4,iA 15 13 14 116 6,fA 16 15 5,l1 17 16,q1 18 70 17,o1 19 (.bin .add (ci 1) (.t 18)),m1 20 0,m1 21 4,iA 22 20 21 116 6,fA 23 22 1,l1 24 23,nS 25 24,bZ 26 .quo 25 20,bT 27 .add 19 26,bT 28 .add 12 27,m1 3 28] [0,3,4] [[1,3],[2,3],[3,4],[4,5],[5,6],[6,7],[8,10],[9,10],[10,11],[11,12],[12,13],[13,14],[7,15],[14,15],[0,16],[15,16],[0,17],[16,17]]) (oS [mZ 5 0] [0,3,4,5] (.block 2 (.loop rI))))) (oP [m1 10 4,bZ 11 .add 10 1,m1 4 11] [0,3,4])
def Aem:IC:=sQ (oS [mZ 4 0] [0,3,4] (.block 0 (.loop (sQ (oS [m1 6 4,m1 7 0,nL 8 7,bT 9 .lss 6 8] [0,3,4,9] (cD 9 .skip (.exit 0))) mK)))) (oR [m1 52 3,m1 2 52] [2])
def Ae6:IC:=oS [mZ 2 0] [0] (oS [mZ 3 0] [0,3] Aem)
@[push_cast]def Atj:List R:=[.t 2]
@[push_cast]def AvH:=Ar xQ.eq_1<|Ar rI.eq_1<|Ar mK.eq_1<|Ar Aem.eq_1<|AM Ae6.eq_1
theorem Aq5:Au Tryz.prog 70 53 Ae6 Atj=true:=by kernel_rfl
def rR:IC:=sQ (.block 3 (oS [m1 46 0,m1 47 3,iA 48 46 47 116 6,fA 49 48 4,l1 50 49,m1 51 4,iA 52 50 51 118 2,fA 53 52 0,l1 54 53,nS 55 54,bZ 56 .gtr 55 60,m1 57 56,BI 58 57 0,BI 59 57 3,gF 60 57 (.iaddr (.t 58) (.t 59) 116 6),ER 61 57 60 4,E8 62 57 61,BI 63 57 4,gF 64 57 (.iaddr (.t 62) (.t 63) 118 2),ER 65 57 64 1,E8 66 57 65,gF 67 57 (.call 71 [.t 66]),gF 68 57 (.not (.t 67)),pO 69 57 68] [0,3,4,69] (cD 69 (oR [mC 2 (.b false)] [2]) .skip))) (oP [m1 44 4,bZ 45 .add 44 1,m1 4 45] [0,3,4])
def fD:IC:=sQ (.block 1 (sQ (oS [m1 11 0,m1 12 3,iA 13 11 12 116 6,fA 14 13 2,l1 15 14,nS 16 15,bZ 17 .gtr 16 60,m1 18 17,BI 19 18 0,BI 20 18 3,gF 21 18 (.iaddr (.t 19) (.t 20) 116 6),ER 22 18 21 3,E8 23 18 22,gF 24 18 (.lenS (.t 23)),EI 25 18 .gtr 24 60,pO 26 18 25,m1 27 26,BI 28 27 0,BI 29 27 3,gF 30 27 (.iaddr (.t 28) (.t 29) 116 6),ER 31 27 30 5,E8 32 27 31,gF 33 27 (.call 71 [.t 32]),gF 34 27 (.not (.t 33)),pO 35 27 34] [0,3,35] (cD 35 (oR [mC 2 (.b false)] [2]) .skip)) (oS [mZ 4 0] [0,3,4] (.block 2 (.loop (sQ (oS [m1 36 4,m1 37 0,m1 38 3,iA 39 37 38 116 6,fA 40 39 4,l1 41 40,nL 42 41,bT 43 .lss 36 42] [0,3,4,43] (cD 43 .skip (.exit 2))) rR)))))) (oP [m1 9 3,bZ 10 .add 9 1,m1 3 10] [0,3])
def Afv:IC:=sQ (oS [mZ 3 0] [0,3] (.block 0 (.loop (sQ (oS [m1 5 3,m1 6 0,nL 7 6,bT 8 .lss 5 7] [0,3,8] (cD 8 .skip (.exit 0))) fD)))) (oR [mC 2 (.b true)] [2])
def AdN:IC:=oS [mC 2 (.b false)] [0] Afv
@[push_cast]def Ase:List R:=[.t 2]
@[push_cast]def AvN:=Ar rR.eq_1<|Ar fD.eq_1<|Ar Afv.eq_1<|AM AdN.eq_1
theorem Apa:Au Tryz.prog 71 70 AdN Ase=true:=by kernel_rfl
def Aff:IC:=oR [m1 3 0,q1 4 69 3,bZ 5 .leq 4 12,m1 6 5,BL 7 6 0,gT 8 6 (.call 70 [.t 7]),Fz 9 6 .leq 8 300,pA 10 6 9,m1 11 10,BL 12 11 0,gT 13 11 (.call 71 [.t 12]),pA 14 11 13,m1 2 14] [2]
def AeZ:IC:=oS [mC 2 (.b false)] [0] Aff
@[push_cast]def AtU:List R:=[.t 2]
@[push_cast]def Awh:=Ar Aff.eq_1<|AM AeZ.eq_1
theorem AmY:Au Tryz.prog 43 15 AeZ AtU=true:=by kernel_rfl
def jZ:IC:=sQ (.block 1 (oS [m1 12 0,m1 13 5,iA 14 12 13 9 1,l1 15 14,m1 16 1,bT 17 .eql 15 16] [0,1,5,17] (cD 17 (oR [mC 4 (.b true)] [4]) .skip))) (oP [m1 10 5,bZ 11 .add 10 1,m1 5 11] [0,1,5])
def AdE:IC:=sQ (oS [mZ 5 0] [0,1,5] (.block 0 (.loop (sQ (oS [m1 6 5,m1 7 0,nL 8 7,bT 9 .lss 6 8] [0,1,5,9] (cD 9 .skip (.exit 0))) jZ)))) (oR [mC 4 (.b false)] [4])
def AeQ:IC:=oS [mC 4 (.b false)] [0,1] AdE
@[push_cast]def AtB:List R:=[.t 4]
@[push_cast]def AvY:=Ar jZ.eq_1<|Ar AdE.eq_1<|AM AeQ.eq_1
theorem Aq8:Au Tryz.prog 21 18 AeQ AtB=true:=by kernel_rfl
end Go.Ir
section
namespace Go.Ir
open Go.Proofs
mutual
def Aj.shortB:Aj->Bool
 | ⟨_,_,n,s,cs,ps⟩=>!(decide ((n.length:Int)>60)||decide ((s.length:Int)>60)||!CA ps)&&F6 cs
def CA:List Aj->Bool
 | []=>true
 | p::ps=>p.shortB&&CA ps
def F6:List (Aa×List Aj)->Bool
 | []=>true
 | (k,ps)::cs=>!(decide ((k.length:Int)>60)||!CA ps)&&F6 cs
end
theorem Aj.shortB_eq(p:Aj):p.shortB=(!(decide ((p.name.length:Int)>60)||decide ((p.style.length:Int)>60)||!CA p.parts)&&F6 p.cases):=by cases p;simp only[Aj.shortB]
theorem Qx(p:Aj)(ps:List Aj):CA (p::ps)=(p.shortB&&CA ps):=by simp only[CA]
theorem P5(c:AJ)(ps:List AJ):F6 (c::ps)=(!(decide ((c.1.length:Int)>60)||!CA c.2)&&F6 ps):=by obtain⟨k,q⟩:=c;simp only[F6]
theorem ZC(W0:World):∀(N:Nat) (ps:List Aj),AU ps<N->AU ps<=2^24->An Tryz.prog W0 71 [.sl (ps.map Aj.enc)] [] (.b (CA ps)) []:=by
 intro N
 induction N with
 | zero=>intro ps h;omega
 | succ N s=>
 intro ps A B;generalize hS:CA ps=S;refine Ah (vs:=[.b S]) Apa (by simp) (by simp) λn w=>?_;clear w;simp only[push_cast,seval,reduceEqDiff];intro _ _;refine Am ps.length (Inv:=λm st=>∃done rest n,ps=done++rest/\m=rest.length/\CA rest=S/\st=⟨[(0,.sl (ps.map Aj.enc)),(3,.i .i64 done.length)],[],n⟩) ⟨_,Ak.refl,[],ps,_,rfl,rfl,hS,rfl⟩ ?_;clear hS;rintro m _ ⟨done,rest,n,rfl,rfl,g,rfl⟩;have r:=Ez (done++rest);cases rest with
 | nil=>simp only[push_cast,seval,reduceEqDiff];intro _ _;exact Ai (by rw[<-g];rfl)
 | cons p rest=>
  have y:=Fq (ps:=done++p::rest) (p:=p) (by simp);rw[p.wt_eq] at y;rw[Qx,p.shortB_eq] at g;simp only[push_cast,seval,reduceEqDiff];have _h:=trivial;repeat' (first|(first|((first|apply Ab|apply Ag|apply Af)<;>intro _h)|refine Ac (s p.parts (by omega) (by omega)) ?_)<;>(simp only[push_cast,seval,reduceEqDiff,_h];try (have _g:=_h;simp at _g))|intro _)
  all_goals (try exact Ai (by simp[get,<-g, *];done))
  have q:(F6 p.cases&&CA rest)=S:=by rw[<-g];simp[*]
  refine Am p.cases.length (Inv:=λm st=>∃o j n,p.cases=o++j/\m=j.length/\(F6 j&&CA rest)=S/\st=⟨[(0,.sl ((done++p::rest).map Aj.enc)),(3,.i .i64 done.length),(4,.i .i64 o.length)],[],n⟩) ⟨_,Ak.refl,[],p.cases,_,rfl,rfl,q,rfl⟩ ?_;clear g q;rintro m _ ⟨o,j,n,e,rfl,g,rfl⟩;have u:=Ep p.cases;cases j with
  | nil=>simp only[push_cast,seval,reduceEqDiff,e,Ad p (done:=done) (by simp at r;omega)];intro _ _;exact⟨_,_,Ab3 _,Ak.refl,done++[p],rest,_,by simp,rfl,by rw[<-g];rfl,rfl⟩
  | cons c j=>
   have z:=Cm (cs:=p.cases) (c:=c) (by simp[e]);have t:=AH e;rw[P5] at g;simp only[push_cast,seval,reduceEqDiff,e,Ad c (done:=o) (by omega)];have _h:=trivial;repeat' (first|(first|((first|apply Ab|apply Ag|apply Af)<;>intro _h)|refine Ac (s c.2 (by omega) (by omega)) ?_)<;>(simp only[push_cast,seval,reduceEqDiff,_h,e,Ad c (done:=o) (by omega)];try (have _g:=_h;simp at _g))|intro _)
   all_goals (try exact Ai (by simp[get,<-g, *];done))
   exact⟨_,_,Ab3 _,Ak.refl,o++[c],j,_,by simp[e],rfl,by rw[<-g];simp[*],rfl⟩
end Go.Ir
end
namespace Go.Ir
open Go.Proofs
variable{P:Program}{W0:World}{nt n:Nat}{Q:Exit→St→Prop}{env:AE}{σ:Al}
def Adl:IC:=oR [m1 3 0,bC 4 .geq 3 (.i .u8 97),m1 5 4,BL 6 5 0,gT 7 5 (.bin .leq (.t 6) (.c (.i .u8 122))),pA 8 5 7,m1 9 8,BI 10 9 0,gF 11 9 (.bin .geq (.t 10) (.c (.i .u8 65))),BI 12 9 11,BL 13 12 0,gT 14 12 (.bin .leq (.t 13) (.c (.i .u8 90))),gF 15 9 (.pick (.t 12) (.t 14) (.c (.b false))),pO 16 9 15,m1 17 16,BI 18 17 0,gF 19 17 (.bin .geq (.t 18) (.c (.i .u8 48))),BI 20 17 19,BL 21 20 0,gT 22 20 (.bin .leq (.t 21) (.c (.i .u8 57))),gF 23 17 (.pick (.t 20) (.t 22) (.c (.b false))),pO 24 17 23,m1 2 24] [2]
def AfO:IC:=oS [mC 2 (.b false)] [0] Adl
@[push_cast]def AsA:List R:=[.t 2]
@[push_cast]def AvO:=Ar Adl.eq_1<|AM AfO.eq_1
theorem Aoc:Au Tryz.prog 97 25 AfO AsA=true:=by kernel_rfl
def rY:IC:=oS [m1 26 0,m1 27 3,o1 28 (.idx (.t 26) (.t 27)),q1 29 97 28,nT 30 29,m1 31 30,BL 32 31 0,BL 33 31 3,gT 34 31 (.idx (.t 32) (.t 33)),gT 35 31 (.bin .neq (.t 34) (.c (.i .u8 95))),pA 36 31 35,m1 37 36,BL 38 37 0,BL 39 37 3,gT 40 37 (.idx (.t 38) (.t 39)),gT 41 37 (.bin .neq (.t 40) (.c (.i .u8 45))),pA 42 37 41] [0,22,23,42] (cD 42 (oR [mC 2 (.b false)] [2]) .skip)
def m9:IC:=oS [bT 24 .lss 23 22] [0,22,23,24] (sQ (cD 24 .skip (.exit 0)) (sQ (.block 1 (oS [m1 25 23,m1 3 25] [0,3,22,23] rY)) (oP [bZ 43 .add 23 1,m1 23 43] [0,22,23])))
def Afw:IC:=sQ (oS [m1 4 0,bC 5 .eql 4 (.s []),m1 6 5,BI 7 6 0,gF 8 6 (.lenS (.t 7)),EI 9 6 .gtr 8 40,pO 10 6 9,m1 11 10,BI 12 11 0,gF 13 11 (.idx (.t 12) (ci 0)),gF 14 11 (.bin .lss (.t 13) (.c (.i .u8 97))),pO 15 11 14,m1 16 15,BI 17 16 0,gF 18 16 (.idx (.t 17) (ci 0)),gF 19 16 (.bin .gtr (.t 18) (.c (.i .u8 122))),pO 20 16 19] [0,20] (cD 20 (oR [mC 2 (.b false)] [2]) .skip)) (sQ (oS [m1 21 0,nS 22 21,mZ 23 0] [0,22,23] (.block 0 (.loop m9))) (oR [mC 2 (.b true)] [2]))
def Aeu:IC:=oS [mC 2 (.b false)] [0] Afw
@[push_cast]def AsL:List R:=[.t 2]
@[push_cast]def AwH:=Ar rY.eq_1<|Ar m9.eq_1<|Ar Afw.eq_1<|AM Aeu.eq_1
theorem AlJ:Au Tryz.prog 62 44 Aeu AsL=true:=by kernel_rfl
def X3:IC:=cD 4 .skip (oS [bC 8 .eql 3 (.s [102,101,119]),m1 4 8] [3,4] (cD 4 .skip (oS [bC 9 .eql 3 (.s [109,97,110,121]),m1 4 9] [3,4] (cD 4 .skip (oP [bC 10 .eql 3 (.s [111,116,104,101,114]),m1 4 10] [4])))))
def iD:IC:=.block 0 (sQ (oS [bC 5 .eql 3 (.s [122,101,114,111]),m1 4 5] [3,4] (cD 4 .skip (oS [bC 6 .eql 3 (.s [111,110,101]),m1 4 6] [3,4] (cD 4 .skip (oS [bC 7 .eql 3 (.s [116,119,111]),m1 4 7] [3,4] X3))))) (cD 4 (oR [mC 2 (.b true)] [2]) .skip))
def vW:IC:=oS [mC 2 (.b false)] [0] (sQ (oS [m1 3 0] [3] iD) (oR [mC 2 (.b false)] [2]))
@[push_cast]def AmF:List R:=[.t 2]
@[push_cast]def Avz:=Ar X3.eq_1<|Ar iD.eq_1<|AM vW.eq_1
theorem Ak0:Au Tryz.prog 242 11 vW AmF=true:=by kernel_rfl
def Vr:IC:=oS [m1 13 4,bC 14 .lss 13 (.i .u8 97),m1 15 14,BI 16 15 4,gF 17 15 (.bin .gtr (.t 16) (.c (.i .u8 122))),pO 18 15 17,m1 19 18,BL 20 19 4,gT 21 19 (.bin .lss (.t 20) (.c (.i .u8 65))),BL 22 19 21,BI 23 22 4,gF 24 22 (.bin .gtr (.t 23) (.c (.i .u8 90))),gT 25 19 (.pick (.t 22) (.c (.b true)) (.t 24)),pA 26 19 25] [0,6,7,26] (cD 26 (oR [mC 2 (.b false)] [2]) .skip)
def W7:IC:=sQ (.block 1 (oS [m1 9 7,m1 3 9] [0,3,6,7] (oS [m1 10 0,m1 11 3,o1 12 (.idx (.t 10) (.t 11)),m1 4 12] [0,4,6,7] Vr))) (oP [bZ 27 .add 7 1,m1 7 27] [0,6,7])
def lB:IC:=sQ (oS [m1 5 0,nS 6 5,mZ 7 0] [0,6,7] (.block 0 (.loop (oS [bT 8 .lss 7 6] [0,6,7,8] (sQ (cD 8 .skip (.exit 0)) W7))))) (oR [m1 28 0,bC 29 .neq 28 (.s []),m1 30 29,BL 31 30 0,gT 32 30 (.lenS (.t 31)),Fz 33 30 .leq 32 40,pA 34 30 33,m1 2 34] [2])
def qO:IC:=oS [mC 2 (.b false)] [0] lB
@[push_cast]def ApO:List R:=[.t 2]
@[push_cast]def AuV:=Ar Vr.eq_1<|Ar W7.eq_1<|Ar lB.eq_1<|AM qO.eq_1
theorem Ahn:Au Tryz.prog 184 35 qO ApO=true:=by kernel_rfl
def AeF:IC:=oS [mC 2 (.b false)] [0] (oR [m1 3 0,bZ 4 .geq 3 7,m1 5 4,BL 6 5 0,Fz 7 5 .leq 6 9,pA 8 5 7,m1 2 8] [2])
@[push_cast]def Asa:List R:=[.t 2]
@[push_cast]def AwQ:=AM AeF.eq_1
theorem AmT:Au Tryz.prog 79 9 AeF Asa=true:=by kernel_rfl
end Go.Ir

namespace Go.Ir
theorem Ae{W0:World}{nt n:Nat}{g:List R}{vs:List V}{env:AE}{σ:Al}(h:D8 ⟨env,σ,n⟩ g vs):Sb W0 nt g vs [] .ret ⟨env,σ,n⟩:=
 ⟨_,Ak.refl,h,λid e h=>by simp[lk] at h⟩
def AaG(o:Option Ax)(e k:Nat)(g:Bool)(v:V):Prop:=∃u,o=some (.box u)/\sub u e k g=some v
def AjV(x:V)(σ:Al)(k:Nat)(g:Bool)(v:V):Prop:=∃id e u,x=.ref id e/\lk σ id=some (.box u)/\sub u e k g=some v
@[push_cast] theorem AnG{u v:V}{e k:Nat}{g:Bool}:AaG (some (.box u)) e k g v=(sub u e k g=some v):=by simp[AaG]
@[push_cast] theorem Amk{id:Id}{e k:Nat}{σ:Al}{g:Bool}{v:V}:AjV (.ref id e) σ k g v=AaG (lk σ id) e k g v:=by unfold AjV AaG;grind
@[push_cast] theorem Aol{env:AE}{σ:Al}{n s k:Nat}{e:Bool}{g:List R}{v:V}{vs:List V}:D8 ⟨env,σ,n⟩ (.c s k e::g) (v::vs)=(AjV (get env s) σ k e v/\D8 ⟨env,σ,n⟩ g vs):=rfl
@[push_cast] theorem AnE{env:AE}{σ:Al}{n s:Nat}{e:List R}{v:V}{vs:List V}:D8 ⟨env,σ,n⟩ (.t s::e) (v::vs)=(get env s=v/\D8 ⟨env,σ,n⟩ e vs):=rfl
@[push_cast] theorem Aj7{st:St}:D8 st [] []=True:=rfl
theorem Ak.drop1{W0:World}{nt n n':Nat}{env:AE}{σ:Al}{id:Id}{x:Ax}(h:lk σ id=none)(i:n<=n'):Ak W0 nt ⟨env,(id,x)::σ,n⟩ ⟨env,σ,n'⟩:=by
 refine Ak.drop (λj e g=>?_) i;simp only[lk];rw[if_neg]
 ·exact g
 grind
theorem C3{σ:Al}{g:Id}{x:Ax}(h:lk σ g=none):∀id e,lk σ id=some e->lk ((g,x)::σ) id=some e:=by
 intro id e i;simp only[lk];rw[if_neg]
 ·exact i
 grind
end Go.Ir
section
namespace Go.Ir
theorem Ak.dropM{W0:World}{nt n n':Nat}{env:AE}{a m:Id×Ax}{σ:Al}(h:lk σ m.1=none)(j:n<=n'):Ak W0 nt ⟨env,a::m::σ,n⟩ ⟨env,a::σ,n'⟩:=by obtain⟨p,o⟩:=a;refine Ak.drop (λi e g=>?_) j;simp only[lk] at g⊢;grind
theorem As{P:Program}{W0:World}{ep:Nat}{live:List Nat}{Q:Exit->St->Prop}{p:Prop}{l:List I}{env:AE}{σ:Al}(h:p)(k:J P W0 ep live Q l env σ):JP P W0 ep live Q p l env σ:=⟨h,k⟩
section
variable{P:Program}{W0:World}{ep d:Nat}{live:List Nat}{Q:Exit→St→Prop}{l:List I}{env:AE}{σ:Al}
theorem HN{id:Id}{e e':Ax}(h:∀p∈σ,p.1≠id):over [(id,e)] [(id,e')] ((id,e)::σ)=(id,e')::σ:=by
 have:List.filter (λp:Id×Ax=>(lk [(id,e)] p.1).isNone) σ=σ:=by rw[Axs];intro p hp;have:=h p hp;simp[lk,AhZ this]
 unfold over;rw[List.filter_cons_of_neg (by simp[lk]),this];rfl
theorem MY{f:FuncId}{vs:List V}{v:V}{id:Id}{e e':Ax}(h:An P W0 f vs [(id,e)] v [(id,e')])(g:∀p∈σ,p.1≠id)
  (j:J P W0 ep live Q l ((d,v)::env) ((id,e')::σ)):Gx P W0 ep live Q f vs l d env ((id,e)::σ):=by
 refine Bq h (λi y o=>?_) (by rw[HN g];exact j);simp only[lk] at o⊢;grind
theorem aS{f:FuncId}{vs:List V}{v:V}{id:Id}{e e':Ax}{a:Id×Ax}(h:An P W0 f vs [(id,e)] v [(id,e')])(g:∀p∈a::σ,p.1≠id)
  (s:J P W0 ep live Q l ((d,v)::env) ((id,e')::a::σ)):Gx P W0 ep live Q f vs l d env (a::(id,e)::σ):=by
 have r:a.1≠id:=g a (by simp);refine Bq h (λi y t=>?_) ?_
 ·obtain⟨j,x⟩:=a;simp only[lk] at t⊢;grind
 ·have:over [(id,e)] [(id,e')] (a::(id,e)::σ)=(id,e')::a::σ:=by
   have o:=HN (e:=e) (e':=e') (λp hp=>g p (AaC a hp));have q:(lk [(id,e)] a.1).isNone=true:=by simp[lk,AhZ r]
   simp only[over,List.filter_cons,q,if_true,Ax7,List.cons.injEq,true_and] at o⊢;simpa[lk] using o
  rw[this];exact s
end
end Go.Ir
end
namespace Go.Ir
open Go.Proofs
variable(W0:World)
def Jx(n:Int):Bool:=decide (n>=97)&&decide (n<=122)||decide (n>=65)&&decide (n<=90)||decide (n>=48)&&decide (n<=57)
theorem YZ(n:Int):An Tryz.prog W0 97 [.i .u8 n] [] (.b (Jx n)) []:=by
 refine Ah (vs:=[.b (Jx n)]) Aoc (by simp) (by simp) λn0 e=>?_;clear e;simp only[push_cast,seval,reduceEqDiff]
 repeat' (first|(((first|apply Ab|apply Ag|apply Af)<;>intro _h)<;>(simp only[push_cast,seval,reduceEqDiff,_h];try (have _g:=_h;simp at _g)))|intro _)
 all_goals (first|(refine Ai ?_;simp[get,Jx, *]<;>(intros;omega);done)|(refine Ae ?_;simp[push_cast,get,Jx, *];done)|skip)
def Bf(n:Int):Bool:=decide (n>=7)&&decide (n<=9)
theorem D9(n:Int):An Tryz.prog W0 79 [.i .i64 n] [] (.b (Bf n)) []:=by
 refine Ah (vs:=[.b (Bf n)]) AmT (by simp) (by simp) λn0 e=>?_;clear e;simp only[push_cast,seval,reduceEqDiff]
 repeat' (first|(((first|apply Ab|apply Ag|apply Af)<;>intro _h)<;>(simp only[push_cast,seval,reduceEqDiff,_h];try (have _g:=_h;simp at _g)))|intro _)
 all_goals (first|(refine Ai ?_;simp[get,Bf, *]<;>(intros;omega);done)|(refine Ae ?_;simp[push_cast,get,Bf, *];done)|skip)
def QM(n:Int):Bool:=n==123||n==125||n==60||n==62||n==35||n==92
def KC(s:Aa):Bool:=s==[122,101,114,111]||s==[111,110,101]||s==[116,119,111]||s==[102,101,119]||s==[109,97,110,121]||s==[111,116,104,101,114]
theorem nH(s:Aa):An Tryz.prog W0 242 [.s s] [] (.b (KC s)) []:=by
 refine Ah (vs:=[.b (KC s)]) Ak0 (by simp) (by simp) λn0 e=>?_;clear e;simp only[push_cast,seval,reduceEqDiff]
 repeat' (first|(((first|apply Ab|apply Ag|apply Af)<;>intro _h)<;>(simp only[push_cast,seval,reduceEqDiff,_h];try (have _g:=_h;simp at _g)))|intro _)
 all_goals (first|(refine Ai ?_;simp[get,KC, *]<;>(intros;omega);done)|(refine Ae ?_;simp[push_cast,get,KC, *];done)|skip)
def Ny(n:Int):Bool:=decide (n>=97)&&decide (n<=122)
def AfU(n:Int):Bool:=n==7||n==8
def LX(n:Int):Bool:=Jx n||n==95||n==45
def K4(f:Int->Bool):Aa->Bool
 | []=>true
 | c::r=>f c.toNat&&K4 f r
def BN:Aa->Bool
 | []=>false
 | c::r=>decide (((c::r).length:Int)<=40)&&Ny c.toNat&&K4 LX (c::r)
theorem CR(s:Aa)(r:s.length<AA):An Tryz.prog W0 62 [.s s] [] (.b (BN s)) []:=by
 generalize hS:BN s=S;refine Ah (vs:=[.b S]) AlJ (by simp) (by simp) λn0 o=>?_;clear o;simp only[push_cast,seval,reduceEqDiff];cases s with
 | nil=>
  simp only[push_cast,seval,reduceEqDiff]
  repeat' (first|(((first|apply Ab|apply Ag|apply Af)<;>intro _h)<;>(simp only[push_cast,seval,reduceEqDiff,_h];try (have _g:=_h;simp at _g)))|intro _)
  all_goals exact Ai (by simp[get,<-hS,BN])
 | cons e h=>
  unfold BN at hS;simp only at hS;simp only[push_cast,seval,reduceEqDiff]
  repeat' (first|(((first|apply Ab|apply Ag|apply Af)<;>intro _h)<;>(simp only[push_cast,seval,reduceEqDiff,_h];try (have _g:=_h;simp at _g)))|intro _)
  all_goals (first|(refine Ai ?_;simp[get,<-hS,Ny, *]<;>(intros;omega);done)|(refine Ae ?_;simp[push_cast,get,<-hS,Ny, *];done)|skip)
  have p:(decide (((e::h).length:Int)<=40)&&Ny e.toNat)=true:=by simp[Ny];omega
  rw[p,AtA] at hS;refine Am (e::h).length (Inv:=λm st=>∃done rest n,e::h=done++rest/\m=rest.length/\K4 LX rest=S/\st=⟨[(0,.s (e::h)),(22,.i .i64 (e::h).length),(23,.i .i64 done.length)],[],n⟩) ⟨_,Ak.refl,[],_,_,rfl,rfl,hS,by simp;rfl⟩ ?_;clear hS;rintro m _ ⟨done,rest,n,j,rfl,g,rfl⟩;cases rest with
  | nil=>
   simp only[push_cast,seval,reduceEqDiff,j]
   repeat' (first|(((first|apply Ab|apply Ag|apply Af)<;>intro _h)<;>(simp only[push_cast,seval,reduceEqDiff,_h];try (have _g:=_h;simp at _g)))|intro _)
   all_goals (first|(refine Ai ?_;simp[get,<-g,K4, *]<;>(intros;omega);done)|(refine Ae ?_;simp[push_cast,get,<-g,K4, *];done)|skip)
  | cons c rest=>
   have q:=AH j;simp only[push_cast,seval,reduceEqDiff,j,HX c (done:=done) (by omega)];have _h:=trivial;repeat' (first|(first|((first|apply Ab|apply Ag|apply Af)<;>intro _h)|refine Ac (YZ W0 _) ?_)<;>(simp only[push_cast,seval,reduceEqDiff,_h,j,HX c (done:=done) (by omega)];try (have _g:=_h;simp at _g))|intro _)
   all_goals (first|(refine Ai ?_;simp[get,<-g,K4,LX, *]<;>(intros;omega);done)|(refine Ae ?_;simp[push_cast,get,<-g,K4,LX, *];done)|skip)
   all_goals (first|(refine⟨_,_,Ab3 _,Ak.refl,done++[c],rest,_,?_,rfl,?_,rfl⟩<;>first|rfl|assumption|(simp[*];done)|(simp[<-g,K4,LX, *]<;>(intros;omega);done))|skip)
def R8(n:Int):Bool:=decide (n>=97)&&decide (n<=122)||decide (n>=65)&&decide (n<=90)
def ET(s:Aa):Bool:=K4 R8 s&&(decide ((s.length:Int)>=1)&&decide ((s.length:Int)<=40))
theorem RZ(s:Aa)(q:s.length<AA):An Tryz.prog W0 184 [.s s] [] (.b (ET s)) []:=by
 generalize hS:ET s=S;unfold ET at hS;generalize h:(decide ((s.length:Int)>=1)&&decide ((s.length:Int)<=40))=T at hS;refine Ah (vs:=[.b S]) Ahn (by simp) (by simp) λn0 j=>?_;clear j;simp only[push_cast,seval,reduceEqDiff];intro _ _;refine Am s.length (Inv:=λm st=>∃done rest n,s=done++rest/\m=rest.length/\(K4 R8 rest&&T)=S/\st=⟨[(0,.s s),(6,.i .i64 s.length),(7,.i .i64 done.length)],[],n⟩) ⟨_,Ak.refl,[],_,_,rfl,rfl,hS,rfl⟩ ?_;clear hS;rintro m _ ⟨done,rest,n,g,rfl,e,rfl⟩;cases rest with
 | nil=>
  have e:T=S:=by rw[<-e];rfl
  rw[Ary] at g;subst g;cases s with
  | nil=>
   simp only[push_cast,seval,reduceEqDiff]
   repeat' (first|(((first|apply Ab|apply Ag|apply Af)<;>intro _h)<;>(simp only[push_cast,seval,reduceEqDiff,_h];try (have _g:=_h;simp at _g)))|intro _)
   all_goals (first|(refine Ai ?_;simp[get,<-e,<-h, *]<;>(intros;omega);done)|(refine Ae ?_;simp[push_cast,get,<-e,<-h, *];done)|skip)
  | cons o r=>
   simp only[push_cast,seval,reduceEqDiff]
   repeat' (first|(((first|apply Ab|apply Ag|apply Af)<;>intro _h)<;>(simp only[push_cast,seval,reduceEqDiff,_h];try (have _g:=_h;simp at _g)))|intro _)
   all_goals (first|(refine Ai ?_;simp[get,<-e,<-h, *]<;>(intros;omega);done)|(refine Ae ?_;simp[push_cast,get,<-e,<-h, *];done)|skip)
 | cons c rest=>
  have p:=AH g;simp only[push_cast,seval,reduceEqDiff,g,HX c (done:=done) (by omega)]
  repeat' (first|(((first|apply Ab|apply Ag|apply Af)<;>intro _h)<;>(simp only[push_cast,seval,reduceEqDiff,_h,g,HX c (done:=done) (by omega)];try (have _g:=_h;simp at _g)))|intro _)
  all_goals (first|(refine Ai ?_;simp[get,<-e,K4,R8, *]<;>(intros;omega);done)|(refine Ae ?_;simp[push_cast,get,<-e,K4,R8, *];done)|skip)
  all_goals (first|(refine⟨_,_,Ab3 _,Ak.refl,done++[c],rest,_,?_,rfl,?_,rfl⟩<;>first|rfl|assumption|(simp[*];done)|(simp[<-e,K4,R8, *]<;>(intros;omega);done))|skip)
end Go.Ir

namespace Go.Ir
variable{P:Program}{W0:World}{nt n:Nat}{Q:Exit→St→Prop}{env:AE}{σ:Al}
def Ad2(e sz:Nat)(g:Bool):IC:=.ops [o1 4 (.mv (ci 0))] [0,1] []
def AfG(e sz:Nat)(g:Bool):IC:=.ops [m1 6 0,o1 7 (.lenL (.t 6)),o1 8 (.mv (ci 0))] [0,1,7,8] []
def Adm(e sz:Nat)(g:Bool):IC:=.ops [o1 9 (.bin .lss (.t 8) (.t 7))] [0,1,7,8,9] []
def d8(e sz:Nat)(g:Bool):IC:=.cond (.t 9) .skip (.exit 0)
def qR(e sz:Nat)(g:Bool):IC:=.ops [m1 10 8,m1 5 10] [0,1,5,7,8] []
def oX(e sz:Nat)(g:Bool):IC:=.ops [m1 11 1,m1 12 0,m1 13 5,o1 14 (.iaddr (.t 12) (.t 13) e sz),o1 15 (.load (.t 14) sz g),o1 16 (.callvs (.t 11) [(.t 15)])] [0,1,5,7,8,16] []
def lV(e sz:Nat)(g:Bool):IC:=.ops [m1 17 5,m1 4 17] [4] []
def eP(e sz:Nat)(g:Bool):IC:=.seq (lV e sz g) .ret
def vA(e sz:Nat)(g:Bool):IC:=.cond (.t 16) (eP e sz g) .skip
def dC(e sz:Nat)(g:Bool):IC:=.seq (oX e sz g) (vA e sz g)
def cJ(e sz:Nat)(g:Bool):IC:=.seq (qR e sz g) (dC e sz g)
def eW(e sz:Nat)(g:Bool):IC:=.block 1 (cJ e sz g)
def xG(e sz:Nat)(g:Bool):IC:=.ops [o1 18 (.bin .add (.t 8) (ci 1)),m1 8 18] [0,1,7,8] []
def gJ(e sz:Nat)(g:Bool):IC:=.seq (eW e sz g) (xG e sz g)
def AdQ(e sz:Nat)(g:Bool):IC:=.seq (d8 e sz g) (gJ e sz g)
def AfB(e sz:Nat)(g:Bool):IC:=.seq (Adm e sz g) (AdQ e sz g)
def Adt(e sz:Nat)(g:Bool):IC:=.loop (AfB e sz g)
def Ae5(e sz:Nat)(g:Bool):IC:=.block 0 (Adt e sz g)
def AfC(e sz:Nat)(g:Bool):IC:=.seq (AfG e sz g) (Ae5 e sz g)
def lR(e sz:Nat)(g:Bool):IC:=.ops [o1 4 (.mv (ci (-1)))] [4] []
def uX(e sz:Nat)(g:Bool):IC:=.seq (lR e sz g) .ret
def Aex(e sz:Nat)(g:Bool):IC:=.seq (AfC e sz g) (uX e sz g)
def MW(e sz:Nat)(g:Bool):IC:=.seq (Ad2 e sz g) (Aex e sz g)
def Z1:List R:=[.t 4]
@[push_cast]def ArB(e sz:Nat)(g:Bool):=AM (Ad2.eq_1 e sz g)
@[push_cast]def ArZ(e sz:Nat)(g:Bool):=AM (AfG.eq_1 e sz g)
@[push_cast]def Atq(e sz:Nat)(g:Bool):=AM (Adm.eq_1 e sz g)
@[push_cast]def Arp(e sz:Nat)(g:Bool):=AM (d8.eq_1 e sz g)
@[push_cast]def AqZ(e sz:Nat)(g:Bool):=AM (qR.eq_1 e sz g)
@[push_cast]def Are(e sz:Nat)(g:Bool):=AM (oX.eq_1 e sz g)
@[push_cast]def Ar5(e sz:Nat)(g:Bool):=AM (lV.eq_1 e sz g)
@[push_cast]def AqX(e sz:Nat)(g:Bool):=AM (eP.eq_1 e sz g)
@[push_cast]def Arh(e sz:Nat)(g:Bool):=AM (vA.eq_1 e sz g)
@[push_cast]def Ark(e sz:Nat)(g:Bool):=AM (dC.eq_1 e sz g)
@[push_cast]def Ar6(e sz:Nat)(g:Bool):=AM (cJ.eq_1 e sz g)
@[push_cast]def Arn(e sz:Nat)(g:Bool):=AM (eW.eq_1 e sz g)
@[push_cast]def Ar4(e sz:Nat)(g:Bool):=AM (xG.eq_1 e sz g)
@[push_cast]def Ar7(e sz:Nat)(g:Bool):=AM (gJ.eq_1 e sz g)
@[push_cast]def AsE(e sz:Nat)(g:Bool):=AM (AdQ.eq_1 e sz g)
@[push_cast]def Asx(e sz:Nat)(g:Bool):=AM (AfB.eq_1 e sz g)
@[push_cast]def Asp(e sz:Nat)(g:Bool):=AM (Adt.eq_1 e sz g)
@[push_cast]def Atg(e sz:Nat)(g:Bool):=AM (Ae5.eq_1 e sz g)
@[push_cast]def AsH(e sz:Nat)(g:Bool):=AM (AfC.eq_1 e sz g)
@[push_cast]def Arg(e sz:Nat)(g:Bool):=AM (lR.eq_1 e sz g)
@[push_cast]def Ar3(e sz:Nat)(g:Bool):=AM (uX.eq_1 e sz g)
@[push_cast]def ArY(e sz:Nat)(g:Bool):=AM (Aex.eq_1 e sz g)
@[push_cast]def Asr(e sz:Nat)(g:Bool):=AM (MW.eq_1 e sz g)
def AdZ(g:Nat):IC:=.ops [o1 4 (.mv (.c (.b false)))] [0,1] []
def Afg(g:Nat):IC:=.ops [m1 5 0,m1 6 1,o1 7 (.calls g [(.t 5),(.t 6)]),o1 8 (.bin .geq (.t 7) (ci 0)),m1 4 8] [4] []
def AeT(g:Nat):IC:=.seq (Afg g) .ret
def OK(g:Nat):IC:=.seq (AdZ g) (AeT g)
def mB:List R:=[.t 4]
@[push_cast]def Ato(g:Nat):=AM (AdZ.eq_1 g)
@[push_cast]def AtI(g:Nat):=AM (Afg.eq_1 g)
@[push_cast]def AsV(g:Nat):=AM (AeT.eq_1 g)
@[push_cast]def AsS(g:Nat):=AM (OK.eq_1 g)
def Af2(e:Nat):IC:=.ops [o1 4 (.mv (ci 0))] [0,1] []
def AdI(e:Nat):IC:=.ops [m1 6 0,o1 7 (.lenL (.t 6)),o1 8 (.mv (ci 0))] [0,1,7,8] []
def Ad9(e:Nat):IC:=.ops [o1 9 (.bin .lss (.t 8) (.t 7))] [0,1,7,8,9] []
def fU(e:Nat):IC:=.cond (.t 9) .skip (.exit 0)
def pF(e:Nat):IC:=.ops [m1 10 8,m1 5 10] [0,1,5,7,8] []
def xH(e:Nat):IC:=.ops [m1 11 1,m1 12 0,m1 13 5,o1 14 (.iaddr (.t 12) (.t 13) e 1),o1 15 (.load (.t 14) 1 false),o1 16 (.bin .eql (.t 11) (.t 15))] [0,1,5,7,8,16] []
def qW(e:Nat):IC:=.ops [m1 17 5,m1 4 17] [4] []
def rB(e:Nat):IC:=.seq (qW e) .ret
def qQ(e:Nat):IC:=.cond (.t 16) (rB e) .skip
def vK(e:Nat):IC:=.seq (xH e) (qQ e)
def kK(e:Nat):IC:=.seq (pF e) (vK e)
def wL(e:Nat):IC:=.block 1 (kK e)
def fK(e:Nat):IC:=.ops [o1 18 (.bin .add (.t 8) (ci 1)),m1 8 18] [0,1,7,8] []
def kX(e:Nat):IC:=.seq (wL e) (fK e)
def AeG(e:Nat):IC:=.seq (fU e) (kX e)
def AeR(e:Nat):IC:=.seq (Ad9 e) (AeG e)
def AeD(e:Nat):IC:=.loop (AeR e)
def Aei(e:Nat):IC:=.block 0 (AeD e)
def Aen(e:Nat):IC:=.seq (AdI e) (Aei e)
def eJ(e:Nat):IC:=.ops [o1 4 (.mv (ci (-1)))] [4] []
def fC(e:Nat):IC:=.seq (eJ e) .ret
def AdB(e:Nat):IC:=.seq (Aen e) (fC e)
def QF(e:Nat):IC:=.seq (Af2 e) (AdB e)
def Add:List R:=[.t 4]
@[push_cast]def Ati(e:Nat):=AM (Af2.eq_1 e)
@[push_cast]def At5(e:Nat):=AM (AdI.eq_1 e)
@[push_cast]def As0(e:Nat):=AM (Ad9.eq_1 e)
@[push_cast]def Ar0(e:Nat):=AM (fU.eq_1 e)
@[push_cast]def Arz(e:Nat):=AM (pF.eq_1 e)
@[push_cast]def Arq(e:Nat):=AM (xH.eq_1 e)
@[push_cast]def Ar1(e:Nat):=AM (qW.eq_1 e)
@[push_cast]def Arr(e:Nat):=AM (rB.eq_1 e)
@[push_cast]def Arv(e:Nat):=AM (qQ.eq_1 e)
@[push_cast]def Ar2(e:Nat):=AM (vK.eq_1 e)
@[push_cast]def Arl(e:Nat):=AM (kK.eq_1 e)
@[push_cast]def Arb(e:Nat):=AM (wL.eq_1 e)
@[push_cast]def Arx(e:Nat):=AM (fK.eq_1 e)
@[push_cast]def Ara(e:Nat):=AM (kX.eq_1 e)
@[push_cast]def AtV(e:Nat):=AM (AeG.eq_1 e)
@[push_cast]def AtL(e:Nat):=AM (AeR.eq_1 e)
@[push_cast]def AtP(e:Nat):=AM (AeD.eq_1 e)
@[push_cast]def AtN(e:Nat):=AM (Aei.eq_1 e)
@[push_cast]def Asg(e:Nat):=AM (Aen.eq_1 e)
@[push_cast]def Ard(e:Nat):=AM (eJ.eq_1 e)
@[push_cast]def Arm(e:Nat):=AM (fC.eq_1 e)
@[push_cast]def As1(e:Nat):=AM (AdB.eq_1 e)
@[push_cast]def AsX(e:Nat):=AM (QF.eq_1 e)
def AfH(g:Nat):IC:=.ops [o1 4 (.mv (.c (.b false)))] [0,1] []
def AeY(g:Nat):IC:=.ops [m1 5 0,m1 6 1,o1 7 (.call g [(.t 5),(.t 6)]),o1 8 (.bin .geq (.t 7) (ci 0)),m1 4 8] [4] []
def Af9(g:Nat):IC:=.seq (AeY g) .ret
def UZ(g:Nat):IC:=.seq (AfH g) (Af9 g)
def Akl:List R:=[.t 4]
@[push_cast]def At4(g:Nat):=AM (AfH.eq_1 g)
@[push_cast]def ArT(g:Nat):=AM (AeY.eq_1 g)
@[push_cast]def AtQ(g:Nat):=AM (Af9.eq_1 g)
@[push_cast]def At1(g:Nat):=AM (UZ.eq_1 g)
end Go.Ir

namespace Go.Ir
open Go.Proofs
variable{P:Program}(W0:World){α:Type}
def Cb(p:α->Bool):List α->Int
 | []=>-1
 | x::xs=>bif p x then 0 else if Cb p xs<0 then -1 else Cb p xs+1
theorem G3(p:α->Bool):∀xs,decide (Cb p xs>=0)=xs.any p
 | []=>by simp[Cb]
 | x::xs=>by
  have e:=G3 p xs;rw[Ax3,<-e];rcases AuE (p x) with hp|hp
  ·simp[Cb,hp]
  ·simp only[Cb,hp,cond_false,Awz];grind
theorem G1(p:α->Bool):∀xs,-1<=Cb p xs
 | []=>by simp[Cb]
 | x::xs=>by have e:=G1 p xs;simp only[Cb];cases p x<;>simp;split<;>omega
def Sv(e:Bool)(sz:Nat)(v:V):Prop:=(cells v).length=sz/\sub v 0 sz e=some v
theorem Kg{sz:Nat}{cs:List V}(h:cs.length=sz):Sv true sz (.agg cs):=by subst h;simp[Sv,cells,sub,QD]
theorem Sv.get{e:Bool}{sz:Nat}{v:V}(h:Sv e sz v):(if e=true then some (V.agg (cells v)) else(cells v)[0]?)=some v:=by have:=h.2;unfold sub at this;simpa[h.1,QD] using this
theorem pY{v:V}(h:cells v=[v]):Sv false 1 v:=by simp[Sv,h,sub]
theorem Dc{f e sz:Nat}{w:Bool}(s:Au P f 19 (MW e sz w) Z1=true)(enc:α->V)(xs:List α)(p:α->Bool)(g:FuncId)(first j:List V)(σ:Al)
  (y:∀x∈xs,Sv w sz (enc x))(A:∀x∈xs,An P W0 g (first++[enc x]++j) σ (.b (p x)) σ)(z:xs.length<2^62) :
  An P W0 f [.sl (xs.map enc),.fn g first j] σ (.i .i64 (Cb p xs)) σ:=by
 generalize hS:Cb p xs=S;refine Ah (vs:=[.i .i64 S]) s (by simp) (λ_ h=>h) λn0 C=>?_;simp only[push_cast,seval,reduceEqDiff];intro _ _;refine Am xs.length (Inv:=λm st=>∃done rest n,xs=done++rest/\m=rest.length/\(if Cb p rest<0 then -1 else Cb p rest+done.length)=S/\st=⟨[(0,.sl (xs.map enc)),(1,.fn g first j),(7,.i .i64 xs.length),(8,.i .i64 done.length)],σ,n⟩) ⟨_,Ak.refl,[],_,_,rfl,rfl,?_,rfl⟩ ?_
 ·have:=G1 p xs;rw[<-hS];simp;omega
 clear hS;rintro m _ ⟨done,rest,n,o,rfl,t,rfl⟩;cases rest with
 | nil=>simp only[push_cast,seval,reduceEqDiff,o];intro _ _;refine AD ?_ (λ_ _ h=>h);rw[<-t];simp[Cb,get]
 | cons x rest=>
  have D:=AH o;have u:x∈xs:=by rw[o];simp
  have q:=(y x u).1;have r:=(y x u).get;simp only[push_cast,seval,reduceEqDiff,o,q,r,Ad x (done:=done) (by omega)];intro _ _;refine Bq (σi:=σ) (σo:=σ) (A x u) (λ_ _ h=>h) ?_;rw[CS];simp only[push_cast,seval,reduceEqDiff,o,q,r,Ad x (done:=done) (by omega)];intro _
  ((first|apply Ab|apply Ag|apply Af)<;>intro hp)<;>simp only[push_cast,seval,reduceEqDiff,hp,o,q,r,Ad x (done:=done) (by omega)]
  ·intro _;refine AD ?_ (λ_ _ h=>h);rw[<-t];simp[Cb,hp,get]
  ·intro _;refine⟨_,_,Ab3 _,Ak.refl,done++[x],rest,_,by simp[o],rfl,?_,rfl⟩;rw[<-t];have B:=G1 p rest;simp only[Cb,hp,cond_false];grind
theorem CV{f g:Nat}(e:Au P f 9 (OK g) mB=true)(v w:V)(i:Int)(σ:Al)(h:An P W0 g [v,w] σ (.i .i64 i) σ):An P W0 f [v,w] σ (.b (decide (i>=0))) σ:=by refine Ah (vs:=[.b (decide (i>=0))]) e (by simp) (λ_ h=>h) λn0 j=>?_;simp only[push_cast,seval,reduceEqDiff];intro _;refine Bq (σi:=σ) (σo:=σ) h (λ_ _ h=>h) ?_;rw[CS];simp only[push_cast,seval,reduceEqDiff];intro _;exact AD (by simp[get]) (λ_ _ h=>h)
theorem xP{n d:Nat}{e x:Ax}{id:Id}{σ:Al}(g:id.1<n)(h:lk σ id=some e):lk (((n,d),x)::σ) id=some e:=by simp only[lk];grind
theorem Mi{f e:Nat}(h:Au P f 19 (QF e) Add=true)(xs:List Aa)(v:Aa)(o:xs.length<2^62):An P W0 f [.sl (xs.map V.s),.s v] [] (.i .i64 (Cb (λx=>v==x) xs)) []:=by
 generalize hS:Cb (λx=>v==x) xs=S;refine Ah (vs:=[.i .i64 S]) h (by simp) (by simp) λn0 q=>?_;simp only[push_cast,seval,reduceEqDiff];intro _ _;refine Am xs.length (Inv:=λm st=>∃done rest n,xs=done++rest/\m=rest.length/\(if Cb (λx=>v==x) rest<0 then -1 else Cb (λx=>v==x) rest+done.length)=S/\st=⟨[(0,.sl (xs.map V.s)),(1,.s v),(7,.i .i64 xs.length),(8,.i .i64 done.length)],[],n⟩) ⟨_,Ak.refl,[],_,_,rfl,rfl,?_,rfl⟩ ?_
 ·have:=G1 (λx=>v==x) xs;rw[<-hS];simp;omega
 clear hS;rintro m _ ⟨done,rest,n,g,rfl,j,rfl⟩;cases rest with
 | nil=>simp only[push_cast,seval,reduceEqDiff,g];intro _ _;refine Ai ?_;rw[<-j];simp[Cb,get]
 | cons x rest=>
  have r:=AH g;simp only[push_cast,seval,reduceEqDiff,g,Ad x (done:=done) (by omega)];intro _ _ _
  ((first|apply Ab|apply Ag|apply Af)<;>intro hp)<;>simp only[push_cast,seval,reduceEqDiff,hp,g,Ad x (done:=done) (by omega)]
  ·intro _;refine Ai ?_;rw[<-j];simp[Cb,hp,get]
  ·intro _;refine⟨_,_,Ab3 _,Ak.refl,done++[x],rest,_,by simp[g],rfl,?_,rfl⟩;rw[<-j];have p:=G1 (λx=>v==x) rest;simp only[Cb,hp,cond_false];grind
theorem Uf{f e:Nat}(h:Au P f 19 (QF e) Add=true)(xs:List Int)(v:Int)(o:xs.length<2^62):An P W0 f [.sl (xs.map (V.i .i64)),.i .i64 v] [] (.i .i64 (Cb (λx=>v==x) xs)) []:=by
 generalize hS:Cb (λx=>v==x) xs=S;refine Ah (vs:=[.i .i64 S]) h (by simp) (by simp) λn0 q=>?_;simp only[push_cast,seval,reduceEqDiff];intro _ _;refine Am xs.length (Inv:=λm st=>∃done rest n,xs=done++rest/\m=rest.length/\(if Cb (λx=>v==x) rest<0 then -1 else Cb (λx=>v==x) rest+done.length)=S/\st=⟨[(0,.sl (xs.map (V.i .i64))),(1,.i .i64 v),(7,.i .i64 xs.length),(8,.i .i64 done.length)],[],n⟩) ⟨_,Ak.refl,[],_,_,rfl,rfl,?_,rfl⟩ ?_
 ·have:=G1 (λx=>v==x) xs;rw[<-hS];simp;omega
 clear hS;rintro m _ ⟨done,rest,n,g,rfl,j,rfl⟩;cases rest with
 | nil=>simp only[push_cast,seval,reduceEqDiff,g];intro _ _;refine Ai ?_;rw[<-j];simp[Cb,get]
 | cons x rest=>
  have r:=AH g;simp only[push_cast,seval,reduceEqDiff,g,Ad x (done:=done) (by omega)];intro _ _ _
  ((first|apply Ab|apply Ag|apply Af)<;>intro hp)<;>simp only[push_cast,seval,reduceEqDiff,hp,g,Ad x (done:=done) (by omega)]
  ·intro _;refine Ai ?_;rw[<-j];simp[Cb,hp,get]
  ·intro _;refine⟨_,_,Ab3 _,Ak.refl,done++[x],rest,_,by simp[g],rfl,?_,rfl⟩;rw[<-j];have p:=G1 (λx=>v==x) rest;simp only[Cb,hp,cond_false];grind
theorem Iz{f g:Nat}(e:Au P f 9 (UZ g) Akl=true)(v w:V)(i:Int)(h:An P W0 g [v,w] [] (.i .i64 i) []):An P W0 f [v,w] [] (.b (decide (i>=0))) []:=by
 refine Ah (vs:=[.b (decide (i>=0))]) e (by simp) (by simp) λn0 j=>?_;simp only[push_cast,seval,reduceEqDiff];have _h:=trivial;repeat' (first|(first|((first|apply Ab|apply Ag|apply Af)<;>intro _h)|refine Ac h ?_)<;>(simp only[push_cast,seval,reduceEqDiff,_h];try (have _g:=_h;simp at _g))|intro _)
 all_goals (first|(refine Ai ?_;simp[get]<;>(intros;omega);done)|(refine Ae ?_;simp[push_cast,get];done)|skip)
end Go.Ir
section
namespace Go.Ir
open Go.Proofs
variable{P:Program}(W0:World){α:Type}
section
variable{P:Program}{W0:World}{nt n:Nat}{Q:Exit→St→Prop}{env:AE}{σ:Al}
@[push_cast] def Afk(g:Nat):List I:=[⟨some 4,.mv (.c (.b false)),none,[]⟩]
def rK(g:Nat):IC:=.ops (Afk g) [0,1] []
@[push_cast] theorem AsC{g:Nat}:aW P W0 nt (rK g) Q ⟨env,σ,n⟩=J P W0 n [0,1] Q (Afk g) env σ:=rfl
@[push_cast] def AfM(g:Nat):List I:=[⟨some 5,.mv (.t 0),none,[]⟩,
 ⟨some 6,.mv (.t 1),none,[]⟩,
 ⟨some 7,.calls g [(.t 5),(.t 6)],none,[]⟩,
 ⟨some 8,.bin .geq (.t 7) (.c (.i .i64 0)),none,[]⟩,
 ⟨some 4,.mv (.t 8),none,[]⟩]
def v8(g:Nat):IC:=.ops (AfM g) [4] []
@[push_cast] theorem AtC{g:Nat}:aW P W0 nt (v8 g) Q ⟨env,σ,n⟩=J P W0 n [4] Q (AfM g) env σ:=rfl
def qD(g:Nat):IC:=.seq (v8 g) .ret
@[push_cast] theorem ArJ{g:Nat}:aW P W0 nt (qD g) Q ⟨env,σ,n⟩=aW P W0 nt (v8 g) (O0 P W0 nt .ret Q) ⟨env,σ,n⟩:=rfl
def Am7(g:Nat):IC:=.seq (rK g) (qD g)
@[push_cast] theorem ArI{g:Nat}:aW P W0 nt (Am7 g) Q ⟨env,σ,n⟩=aW P W0 nt (rK g) (O0 P W0 nt (qD g) Q) ⟨env,σ,n⟩:=rfl
end
end Go.Ir
end
namespace Go.Ir
open Go.Proofs
variable{P:Program}{W0:World}{nt n:Nat}{Q:Exit→St→Prop}{env:AE}{σ:Al}
def eT:IC:=sQ (.block 3 (oP [m1 21 3,m1 22 0,m1 23 4,iA 24 22 23 172 1,l1 25 24,m1 26 5,iA 27 25 26 175 4,fA 28 27 3,l1 29 28,nL 30 29,o1 31 (.bin .add (ci 1) (.t 30)),bT 32 .add 21 31,m1 3 32] [0,3,4,5])) (oP [m1 19 5,bZ 20 .add 19 1,m1 5 20] [0,3,4,5])
def mV:IC:=sQ (.block 1 (sQ (oS [mZ 5 0] [0,3,4,5] (.block 2 (.loop (sQ (oS [m1 12 5,m1 13 0,m1 14 4,iA 15 13 14 172 1,l1 16 15,nL 17 16,bT 18 .lss 12 17] [0,3,4,5,18] (cD 18 .skip (.exit 2))) eT)))) (oS [m1 33 3,bZ 34 .gtr 33 80] [0,3,4,34] (cD 34 (oR [mC 2 (.b false)] [2]) .skip)))) (oP [m1 10 4,bZ 11 .add 10 1,m1 4 11] [0,3,4])
def AdX:IC:=oS [mZ 3 0] [0,3] (sQ (oS [mZ 4 0] [0,3,4] (.block 0 (.loop (sQ (oS [m1 6 4,m1 7 0,nL 8 7,bT 9 .lss 6 8] [0,3,4,9] (cD 9 .skip (.exit 0))) mV)))) (oR [m1 35 0,nL 36 35,bZ 37 .leq 36 30,m1 2 37] [2]))
def Adv:IC:=oS [mC 2 (.b false)] [0] AdX
@[push_cast]def AsF:List R:=[.t 2]
@[push_cast]def AwI:=Ar eT.eq_1<|Ar mV.eq_1<|Ar AdX.eq_1<|AM Adv.eq_1
theorem AlV:Au Tryz.prog 53 38 Adv AsF=true:=by kernel_rfl
end Go.Ir
section
namespace Go.Ir
open Go.Proofs
variable(W0:World)
mutual
def Aj.solid:Aj->Bool
 | ⟨k,_,_,_,cs,ps⟩=>!Bf k&&L9 ps&&Ve cs
def L9:List Aj->Bool
 | []=>true
 | p::ps=>p.solid&&L9 ps
def Ve:List (Aa×List Aj)->Bool
 | []=>true
 | (_,ps)::cs=>L9 ps&&Ve cs
end
end Go.Ir
end
namespace Go.Ir
open Go.Proofs
variable(W0:World)
end Go.Ir
section
namespace Go.Ir
open Go.Proofs
variable(W0:World)
mutual
def Aj.depth:Aj->Nat
 | ⟨_,_,_,_,cs,ps⟩=>max (max 1 (1+Bv ps)) (DA cs)
def Bv:List Aj->Nat
 | []=>0
 | p::ps=>max p.depth (Bv ps)
def DA:List (Aa×List Aj)->Nat
 | []=>0
 | (_,ps)::cs=>max (1+Bv ps) (DA cs)
end
theorem Aj.depth_eq(p:Aj):p.depth=max (max 1 (1+Bv p.parts)) (DA p.cases):=by cases p;simp[Aj.depth]
theorem EO(p:Aj)(ps:List Aj):Bv (p::ps)=max p.depth (Bv ps):=by simp[Bv]
theorem JB(c:AJ)(ps:List AJ):DA (c::ps)=max (1+Bv c.2) (DA ps):=by obtain⟨k,q⟩:=c;simp[DA]
theorem dO:(∀p:Aj,p.depth<=p.wt):=by
 have key:∀N:Nat,(∀ps:List Aj,AU ps<N->Bv ps<=AU ps):=by
  intro N
  induction N with
  | zero=>intro ps h;omega
  | succ N i=>
   have g:∀cs:List AJ,DG cs<N->DA cs<=DG cs:=by
    intro cs
    induction cs with
    | nil=>intro _;simp[DA]
    | cons c cs e=>intro h;rw[B6] at h;rw[JB,B6];grind
   intro ps
   induction ps with
   | nil=>intro _;simp[Bv]
   | cons p ps e=>intro h;rw[Bk] at h;rw[EO,Bk];have:=e (by omega);rw[p.wt_eq] at *;rw[p.depth_eq];grind
 intro p;have:=key _ [p] (Ab3 _);rw[EO,Bk,uI] at this;omega
theorem Ma(ps:List Aj):Bv ps<=AU ps:=by
 induction ps with
 | nil=>simp[Bv]
 | cons p ps e=>rw[EO,Bk];have:=dO p;omega
theorem zH:∀(N:Nat) (ps:List Aj),AU ps<N->AU ps<=2^24->An Tryz.prog W0 69 [.sl (ps.map Aj.enc)] [] (.i .i64 (Bv ps)) []:=by
 intro N
 induction N with
 | zero=>intro ps h;omega
 | succ N y=>
 intro ps H J;generalize hS:(Bv ps:Int)=S;refine Ah (vs:=[.i .i64 S]) AqK (by simp) (by simp) λn0 t=>?_;clear t;simp only[push_cast,seval,reduceEqDiff];intros;have w:=Ez ps;refine Am ps.length (Inv:=λm st=>∃done rest n d,ps=done++rest/\m=rest.length/\max d (Bv rest:Int)=S/\0<=d/\st=⟨[(0,.sl (ps.map Aj.enc)),(3,.i .i64 d),(4,.i .i64 done.length)],[],n⟩) ⟨_,Ak.refl,[],ps,_,0,rfl,rfl,by rw[<-hS];omega,by omega,rfl⟩ ?_;clear hS;rintro m _ ⟨done,rest,n,d,g,rfl,r,o,rfl⟩;cases rest with
 | nil=>
  rw[Bv] at r;simp only[push_cast,seval,reduceEqDiff,g]
  repeat' (first|(((first|apply Ab|apply Ag|apply Af)<;>intro _h)<;>(simp only[push_cast,seval,reduceEqDiff,_h];try (have _g:=_h;simp at _g)))|intro _)
  have:d=S:=by omega
  subst this
  all_goals (first|(refine Ai ?_;simp[get]<;>(intros;omega);done)|(refine Ae ?_;simp[push_cast,get];done)|skip)
 | cons p rest=>
  have A:=AH g;have F:=Fq (ps:=ps) (p:=p) (by rw[g];simp);rw[p.wt_eq] at F;have D:=Ep p.cases;have E:=Ma p.parts;rw[EO,p.depth_eq] at r;simp only[push_cast,seval,reduceEqDiff,g,Ad p (done:=done) (by omega)];have _h:=trivial;repeat' (first|(first|((first|apply Ab|apply Ag|apply Af)<;>intro _h)|refine Ac (y p.parts (by omega) (by omega)) ?_)<;>(simp only[push_cast,seval,reduceEqDiff,_h,g,Ad p (done:=done) (by omega)];try (have _g:=_h;simp at _g))|intro _)
  have z:IntKind.i64.wrap (1+(Bv p.parts:Int))=1+(Bv p.parts:Int):=wrap64 (by omega) (by omega);simp only[push_cast,seval,reduceEqDiff,g,Ad p (done:=done) (by omega),z];have s:max (max (max (max d 1) (1+(Bv p.parts:Int))) (DA p.cases)) (Bv rest)=S:=by omega
  refine Am p.cases.length (Inv:=λm st=>∃q j n d,p.cases=q++j/\m=j.length/\max (max d (DA j:Int)) (Bv rest:Int)=S/\0<=d/\st=⟨[(0,.sl (ps.map Aj.enc)),(3,.i .i64 d),(4,.i .i64 done.length),(5,.i .i64 q.length)],[],n⟩) ⟨_,Ak.refl,[],p.cases,_,_,rfl,rfl,s,by omega,by rw[g];rfl⟩ ?_;clear r s o d;rintro m _ ⟨q,j,n,d,e,rfl,r,o,rfl⟩;cases j with
  | nil=>rw[DA] at r;simp only[push_cast,seval,reduceEqDiff,g,Ad p (done:=done) (by omega),e];intros;exact⟨_,_,Ab3 _,Ak.refl,done++[p],rest,_,d,by simp,rfl,by omega,o,rfl⟩
  | cons c j=>
   have G:=Cm (cs:=p.cases) (c:=c) (by simp[e]);have B:=AH e;have C:=Ma c.2;rw[JB] at r;have u:IntKind.i64.wrap (1+(Bv c.2:Int))=1+(Bv c.2:Int):=wrap64 (by omega) (by omega);simp only[push_cast,seval,reduceEqDiff,g,e,Ad c (done:=q) (by omega),u];have _h:=trivial;repeat' (first|(first|((first|apply Ab|apply Ag|apply Af)<;>intro _h)|refine Ac (y c.2 (by omega) (by omega)) ?_)<;>(simp only[push_cast,seval,reduceEqDiff,_h,g,e,Ad c (done:=q) (by omega),u];try (have _g:=_h;simp at _g))|intro _)
   exact⟨_,_,Ab3 _,Ak.refl,q++[c],j,_,_,by simp[e],rfl,by omega,by omega,rfl⟩
mutual
def Aj.size:Aj->Nat
 | ⟨_,t,_,_,cs,ps⟩=>1+B5 ps+t.length / 20+EW cs
def B5:List Aj->Nat
 | []=>0
 | p::ps=>p.size+B5 ps
def EW:List (Aa×List Aj)->Nat
 | []=>0
 | (_,ps)::cs=>1+B5 ps+EW cs
end
theorem Aj.size_eq(p:Aj):p.size=1+B5 p.parts+p.text.length / 20+EW p.cases:=by cases p;simp[Aj.size]
theorem Lg(p:Aj)(ps:List Aj):B5 (p::ps)=p.size+B5 ps:=by simp[B5]
theorem Le(c:AJ)(ps:List AJ):EW (c::ps)=1+B5 c.2+EW ps:=by obtain⟨k,q⟩:=c;simp[EW]
theorem AaU:∀N:Nat,(∀ps:List Aj,AU ps<N->B5 ps<=AU ps):=by
 intro N
 induction N with
 | zero=>intro ps h;omega
 | succ N i=>
  have g:∀cs:List AJ,DG cs<N->EW cs<=DG cs:=by
   intro cs
   induction cs with
   | nil=>intro _;simp[EW]
   | cons c cs e=>intro h;rw[B6] at h;rw[Le,B6];grind
  intro ps
  induction ps with
  | nil=>intro _;simp[B5]
  | cons p ps e=>intro h;rw[Bk] at h;rw[Lg,Bk];have:=e (by omega);rw[p.wt_eq] at *;rw[p.size_eq];grind
theorem KR(ps:List Aj):B5 ps<=AU ps:=AaU _ ps (Ab3 _)
theorem Ajm:∀(N:Nat) (ps:List Aj),AU ps<N->AU ps<=2^24->An Tryz.prog W0 70 [.sl (ps.map Aj.enc)] [] (.i .i64 (B5 ps)) []:=by
 intro N
 induction N with
 | zero=>intro ps h;omega
 | succ N A=>
 intro ps R T;generalize hS:(B5 ps:Int)=S;refine Ah (vs:=[.i .i64 S]) Aq5 (by simp) (by simp) λn0 t=>?_;clear t;simp only[push_cast,seval,reduceEqDiff];intros;have z:=Ez ps;have O:=KR ps;have D:S<=2^24:=by omega
 refine Am ps.length (Inv:=λm st=>∃done rest n d,ps=done++rest/\m=rest.length/\d+(B5 rest:Int)=S/\0<=d/\st=⟨[(0,.sl (ps.map Aj.enc)),(3,.i .i64 d),(4,.i .i64 done.length)],[],n⟩) ⟨_,Ak.refl,[],ps,_,0,rfl,rfl,by rw[<-hS];omega,by omega,rfl⟩ ?_;clear hS;rintro m _ ⟨done,rest,n,d,g,rfl,r,o,rfl⟩;cases rest with
 | nil=>
  rw[B5] at r;simp only[push_cast,seval,reduceEqDiff,g]
  repeat' (first|(((first|apply Ab|apply Ag|apply Af)<;>intro _h)<;>(simp only[push_cast,seval,reduceEqDiff,_h];try (have _g:=_h;simp at _g)))|intro _)
  have:d=S:=by omega
  subst this
  all_goals (first|(refine Ai ?_;simp[get]<;>(intros;omega);done)|(refine Ae ?_;simp[push_cast,get];done)|skip)
 | cons p rest=>
  have E:=AH g;have L:=Fq (ps:=ps) (p:=p) (by rw[g];simp);rw[p.wt_eq] at L;have H:=Ep p.cases;have J:=KR p.parts;rw[Lg,p.size_eq] at r;simp only[push_cast,seval,reduceEqDiff,g,Ad p (done:=done) (by omega)];have _h:=trivial;repeat' (first|(first|((first|apply Ab|apply Ag|apply Af)<;>intro _h)|refine Ac (A p.parts (by omega) (by omega)) ?_)<;>(simp only[push_cast,seval,reduceEqDiff,_h,g,Ad p (done:=done) (by omega)];try (have _g:=_h;simp at _g))|intro _)
  have e0:IntKind.i64.wrap ((p.text.length:Int).tdiv 20)=(p.text.length:Int) / 20:=by rw[Int.tdiv_eq_ediv_of_nonneg (by omega),wrap64 (by omega) (by omega)]
  have B:IntKind.i64.wrap (1+(B5 p.parts:Int))=1+(B5 p.parts:Int):=wrap64 (by omega) (by omega);have C:IntKind.i64.wrap (1+(B5 p.parts:Int)+(p.text.length:Int) / 20)=1+(B5 p.parts:Int)+(p.text.length:Int) / 20:=wrap64 (by omega) (by omega);have w:IntKind.i64.wrap (d+(1+(B5 p.parts:Int)+(p.text.length:Int) / 20))=d+(1+(B5 p.parts:Int)+(p.text.length:Int) / 20):=wrap64 (by omega) (by omega);simp only[push_cast,seval,reduceEqDiff,g,Ad p (done:=done) (by omega),e0,B,C,w];have s:d+(1+(B5 p.parts:Int)+(p.text.length:Int) / 20)+EW p.cases+B5 rest=S:=by omega
  refine Am p.cases.length (Inv:=λm st=>∃q j n d,p.cases=q++j/\m=j.length/\d+(EW j:Int)+(B5 rest:Int)=S/\0<=d/\st=⟨[(0,.sl (ps.map Aj.enc)),(3,.i .i64 d),(4,.i .i64 done.length),(5,.i .i64 q.length)],[],n⟩) ⟨_,Ak.refl,[],p.cases,_,_,rfl,rfl,s,by omega,by rw[g];rfl⟩ ?_;clear r s o w d;rintro m _ ⟨q,j,n,d,e,rfl,r,o,rfl⟩;cases j with
  | nil=>rw[EW] at r;simp only[push_cast,seval,reduceEqDiff,g,Ad p (done:=done) (by omega),e];intros;exact⟨_,_,Ab3 _,Ak.refl,done++[p],rest,_,d,by simp,rfl,by omega,o,rfl⟩
  | cons c j=>
   have M:=Cm (cs:=p.cases) (c:=c) (by simp[e]);have F:=AH e;have G:=KR c.2;rw[Le] at r;have u:IntKind.i64.wrap (1+(B5 c.2:Int))=1+(B5 c.2:Int):=wrap64 (by omega) (by omega);have y:IntKind.i64.wrap (d+(1+(B5 c.2:Int)))=d+(1+(B5 c.2:Int)):=wrap64 (by omega) (by omega);simp only[push_cast,seval,reduceEqDiff,g,e,Ad c (done:=q) (by omega),u,y];have _h:=trivial;repeat' (first|(first|((first|apply Ab|apply Ag|apply Af)<;>intro _h)|refine Ac (A c.2 (by omega) (by omega)) ?_)<;>(simp only[push_cast,seval,reduceEqDiff,_h,g,e,Ad c (done:=q) (by omega),u,y];try (have _g:=_h;simp at _g))|intro _)
   exact⟨_,_,Ab3 _,Ak.refl,q++[c],j,_,_,by simp[e],rfl,by omega,by omega,rfl⟩
def Jq(ps:List Aj):Bool:=decide ((Bv ps:Int)<=12)&&decide ((B5 ps:Int)<=300)&&CA ps
theorem AqT(ps:List Aj)(e:AU ps<=2^24):An Tryz.prog W0 43 [.sl (ps.map Aj.enc)] [] (.b (Jq ps)) []:=by
 refine Ah (vs:=[.b (Jq ps)]) AmY (by simp) (by simp) λn0 g=>?_;clear g;simp only[push_cast,seval,reduceEqDiff];have _h:=trivial;repeat' (first|(first|((first|apply Ab|apply Ag|apply Af)<;>intro _h)|refine Ac (zH W0 _ ps (Ab3 _) e) ?_|refine Ac (Ajm W0 _ ps (Ab3 _) e) ?_|refine Ac (ZC W0 _ ps (Ab3 _) e) ?_)<;>(simp only[push_cast,seval,reduceEqDiff,_h];try (have _g:=_h;simp at _g))|intro _)
 all_goals (first|(refine Ai ?_;simp[get,Jq, *]<;>(intros;omega);done)|(refine Ae ?_;simp[push_cast,get,Jq, *];done)|skip)
theorem Anf(l:List Aa)(s:Aa)(o:l.length<=2^40):An Tryz.prog W0 21 [.sl (l.map V.s),.s s] [] (.b (l.contains s)) []:=by
 generalize hS:l.contains s=S;refine Ah (vs:=[.b S]) Aq8 (by simp) (by simp) λn0 h=>?_;clear h;simp only[push_cast,seval,reduceEqDiff];intros;refine Am l.length (Inv:=λm st=>∃done rest n,l=done++rest/\m=rest.length/\rest.contains s=S/\st=⟨[(0,.sl (l.map V.s)),(1,.s s),(5,.i .i64 done.length)],[],n⟩) ⟨_,Ak.refl,[],l,_,rfl,rfl,hS,rfl⟩ ?_;clear hS;rintro m _ ⟨done,rest,n,g,rfl,e,rfl⟩;cases rest with
 | nil=>
  simp only[push_cast,seval,reduceEqDiff,g]
  repeat' (first|(((first|apply Ab|apply Ag|apply Af)<;>intro _h)<;>(simp only[push_cast,seval,reduceEqDiff,_h];try (have _g:=_h;simp at _g)))|intro _)
  all_goals (first|(refine Ai ?_;simp[get,<-e]<;>(intros;omega);done)|(refine Ae ?_;simp[push_cast,get,<-e];done)|skip)
 | cons x rest=>
  have j:=AH g;rw[List.contains_cons,Bool.beq_comm] at e;simp only[push_cast,seval,reduceEqDiff,g,Ad x (done:=done) (by omega)]
  repeat' (first|(((first|apply Ab|apply Ag|apply Af)<;>intro _h)<;>(simp only[push_cast,seval,reduceEqDiff,_h,g,Ad x (done:=done) (by omega)];try (have _g:=_h;simp at _g)))|intro _)
  all_goals (first|(refine Ai ?_;simp[get,<-e, *];done)|skip)
  exact⟨_,_,Ab3 _,Ak.refl,done++[x],rest,_,by simp,rfl,by rw[<-e];simp[*],rfl⟩
end Go.Ir
end
namespace Go.Ir
open Go.Proofs
variable(W0:World)
end Go.Ir

namespace Go.Ir
structure GC where
 lo:Int
 hi:Int
structure De where
 op:Int
 mod:Int
 neg:Bool
 spans:List GC
structure A7 where
 cls:Aa
 cond:List (List De)
def GC.enc(s:GC):V:=.agg [.i .i64 s.lo,.i .i64 s.hi]
def De.enc(r:De):V:=.agg [.i .i64 r.op,.i .i64 r.mod,.b r.neg,.sl (r.spans.map GC.enc)]
def Fj(l:List De):V:=.sl (l.map De.enc)
def A7.enc(r:A7):V:=.agg [.s r.cls,.sl (r.cond.map Fj)]
@[push_cast] theorem GC.enc_eq(s:GC):s.enc=.agg [.i .i64 s.lo,.i .i64 s.hi]:=rfl
@[push_cast] theorem De.enc_eq(r:De):r.enc=.agg [.i .i64 r.op,.i .i64 r.mod,.b r.neg,.sl (r.spans.map GC.enc)]:=rfl
@[push_cast] theorem Su(l:List De):Fj l=.sl (l.map De.enc):=rfl
@[push_cast] theorem A7.enc_eq(r:A7):r.enc=.agg [.s r.cls,.sl (r.cond.map Fj)]:=rfl
def De.wt(r:De):Nat:=1+r.spans.length
def CK:List De->Nat
 | []=>1
 | r::e=>r.wt+CK e
def Dq:List (List De)->Nat
 | []=>0
 | r::e=>CK r+Dq e
def A7.wt(r:A7):Nat:=1+r.cls.length+Dq r.cond
def A9:List A7->Nat
 | []=>0
 | r::e=>r.wt+A9 e
theorem IG{l:List De}{r:De}(h:r∈l):r.wt<=CK l:=by
 induction l with
 | nil=>cases h
 | cons d l e=>rw[CK];grind
theorem II{l:List (List De)}{r:List De}(h:r∈l):CK r<=Dq l:=by
 induction l with
 | nil=>cases h
 | cons d l e=>rw[Dq];grind
theorem F4{l:List A7}{r:A7}(h:r∈l):r.wt<=A9 l:=by
 induction l with
 | nil=>cases h
 | cons d l e=>rw[A9];grind
theorem EZ(l:List De):l.length<CK l:=by
 induction l with
 | nil=>simp[CK]
 | cons d l e=>rw[CK,Ah5,De.wt];omega
theorem IP(l:List (List De)):l.length<=Dq l:=by
 induction l with
 | nil=>simp
 | cons d l e=>rw[Dq,Ah5];have:=EZ d;omega
theorem Fy(l:List A7):l.length<=A9 l:=by
 induction l with
 | nil=>simp
 | cons d l e=>rw[A9,Ah5,A7.wt];omega
structure Loc where
 tag:Aa
 parent:Aa
 dir:Aa
 card:List A7
 ord:List A7
 rest:List V
def Loc.enc(l:Loc):V:=.agg (.s l.tag :: .s l.parent :: .s l.dir :: .sl (l.card.map A7.enc) :: .sl (l.ord.map A7.enc)::l.rest)
@[push_cast] theorem Loc.enc_eq(l:Loc):l.enc=.agg (.s l.tag :: .s l.parent :: .s l.dir :: .sl (l.card.map A7.enc) :: .sl (l.ord.map A7.enc)::l.rest):=rfl
end Go.Ir
section
namespace Go.Ir
structure CF where
 style:Aa
 two:Aa
 start:Aa
 mid:Aa
 fin:Aa
structure Dt where
 unit:Aa
 cls:Aa
 pat:Aa
structure CE where
 skel:Aa
 pat:Aa
structure BO where
 tag:Aa
 parent:Aa
 dir:Aa
 card:List A7
 ord:List A7
 dec:Aa
 grp:Aa
 minus:Aa
 perc:Aa
 prim:Int
 sec:Int
 lists:List CF
 units:List Dt
 dates:List CE
 months:List Aa
 days:List Aa
def CF.enc(x:CF):V:=.agg [.s x.style,.s x.two,.s x.start,.s x.mid,.s x.fin]
def Dt.enc(x:Dt):V:=.agg [.s x.unit,.s x.cls,.s x.pat]
def CE.enc(x:CE):V:=.agg [.s x.skel,.s x.pat]
@[push_cast] theorem CF.enc_eq(x:CF):x.enc=.agg [.s x.style,.s x.two,.s x.start,.s x.mid,.s x.fin]:=rfl
@[push_cast] theorem Dt.enc_eq(x:Dt):x.enc=.agg [.s x.unit,.s x.cls,.s x.pat]:=rfl
@[push_cast] theorem CE.enc_eq(x:CE):x.enc=.agg [.s x.skel,.s x.pat]:=rfl
def BO.enc(l:BO):V:=.agg [.s l.tag,.s l.parent,.s l.dir,.sl (l.card.map A7.enc),.sl (l.ord.map A7.enc),.s l.dec,.s l.grp,.s l.minus,.s l.perc,.i .i64 l.prim,.i .i64 l.sec,.sl (l.lists.map CF.enc),.sl (l.units.map Dt.enc),.sl (l.dates.map CE.enc),.sl (l.months.map V.s),.sl (l.days.map V.s)]
@[push_cast] theorem BO.enc_eq(l:BO):l.enc=.agg [.s l.tag,.s l.parent,.s l.dir,.sl (l.card.map A7.enc),.sl (l.ord.map A7.enc),.s l.dec,.s l.grp,.s l.minus,.s l.perc,.i .i64 l.prim,.i .i64 l.sec,.sl (l.lists.map CF.enc),.sl (l.units.map Dt.enc),.sl (l.dates.map CE.enc),.sl (l.months.map V.s),.sl (l.days.map V.s)]:=rfl
def CF.wt(x:CF):Nat:=1+x.style.length+x.two.length+x.start.length+x.mid.length+x.fin.length
def Dt.wt(x:Dt):Nat:=1+x.unit.length+x.cls.length+x.pat.length
def CE.wt(x:CE):Nat:=1+x.skel.length+x.pat.length
def BA{α:Type}(f:α->Nat):List α->Nat
 | []=>0
 | x::l=>f x+BA f l
theorem Fm{α:Type}{f:α->Nat}(e:∀x,1<=f x)(l:List α):l.length<=BA f l:=by
 induction l with
 | nil=>simp
 | cons d l g=>rw[BA,Ah5];have:=e d;omega
def swt(s:Aa):Nat:=1+s.length
def BO.wt(l:BO):Nat:=1+l.tag.length+l.parent.length+l.dir.length+A9 l.card+A9 l.ord+l.dec.length+l.grp.length+l.minus.length+l.perc.length+BA CF.wt l.lists+BA Dt.wt l.units+BA CE.wt l.dates+BA swt l.months+BA swt l.days
mutual
def Aj.bare:Aj->Bool
 | ⟨k,_,_,_,_,ps⟩=>(k==1||k==11)&&n9 ps
def n9:List Aj->Bool
 | []=>true
 | p::ps=>p.bare&&n9 ps
end
mutual
def Aj.out:Aj->Aa
 | ⟨k,t,e,_,_,ps⟩=>if k==1 then t else([60]++e++[62])++Ady ps++([60,47]++e++[62])
def Ady:List Aj->Aa
 | []=>[]
 | p::ps=>p.out++Ady ps
end
end Go.Ir
end
