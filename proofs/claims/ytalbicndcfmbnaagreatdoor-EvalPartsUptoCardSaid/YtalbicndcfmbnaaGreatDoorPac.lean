/-
  THE EVALUATOR, part F: code, loops, functions.
  THE EVALUATOR, part R: ranges over functions: entering the ..
  THE EVALUATOR, part G: loops, functions, the whole.
  THE EVALUATOR, part H: the same, in a form in which the ..
  THE EVALUATOR, part I: contracts that were proved by hand, ..
  A builder of the library at this program: the check of ..
  THE EVALUATOR, part K: tables of codes.
  Symbolic steps of the IR: one law for each operation, for ..
  Symbolic steps of the IR, second part.
  Symbolic steps of the IR: what their functions yield at ..
  Symbolic steps of the IR: the same laws, with the slots' ..
  THE JUDGEMENT AS EQUATIONS: what a region and code ask, ..
  The laws of a walk, as one set for simp
  Contracts: a strings.Builder inside a variable: the check ..
  Messages as plain Lean data: parts and cases, their form as ..
  The IR of functions of the program, printed by our own tool
  Contracts: short.
  What the contracts share.
  What the contracts share: calls that look at one entry of ..
  Contracts: the functions on bytes and names.
  Contracts: names, skeletons, digits.
  The IR of generic functions of package slices, with ..
  Contracts of generic functions of package slices, for any ..
  Contracts of generic functions of package slices over a ..
  Contracts: Plain, Equal, of the program and of the ..
  Contracts: Plain of the reference
  Contracts: Depth, Size, Few, In of the reference.
  Contracts: Equal of the reference.
  Rules as plain Lean data: spans, relations, conditions, ..
  A locale, whole, as plain Lean data
-/
import Derived.Test.YtalbicndcfmbnaaGreatDoorPab
import Derived.Lib.UnsafeStr
import Derived.Shelf.Strings.Builder1
import Derived.KernelRfl
set_option linter.all false
set_option linter.defProp false
set_option linter.unusedSectionVars false
set_option linter.unusedSimpArgs false
set_option linter.unusedVariables false
open Nat (reduceEqDiff)
section
namespace Go.Ir
open Go.RowKit
noncomputable section
variable[F1]
def MP(m:Nat)(v:V):Bool:=V.rec (motive_1:=fun _=>Bool) (motive_2:=fun _=>Bool) (fun _=>true) (fun _ _=>true) (fun _=>true) true (fun _ h=>h) (fun _ h=>h) (fun _ h=>h) (fun id _=>Nat.blt id.1 m) (fun id=>Nat.blt id.1 m) (fun id _ _ _=>Nat.blt id.1 m) (fun _ _ h=>h) (fun _ _ _ h1 h2=>h1&&h2) true true true true true true true true (fun _ _ h1 h2=>h1&&h2) v
def J5(m:Nat):List V->Bool
 | []=>true
 | v::vs=>MP m v&&J5 m vs
theorem Lw{a m:Nat}(h:Nat.blt a m=true):a<m:=Aud ▸ h
def Amm(m:Nat)(vs:List V):Bool:=V.rec_1 (motive_1:=fun _=>Bool) (motive_2:=fun _=>Bool) (fun _=>true) (fun _ _=>true) (fun _=>true) true (fun _ h=>h) (fun _ h=>h) (fun _ h=>h) (fun id _=>Nat.blt id.1 m) (fun id=>Nat.blt id.1 m) (fun id _ _ _=>Nat.blt id.1 m) (fun _ _ h=>h) (fun _ _ _ h1 h2=>h1&&h2) true true true true true true true true (fun _ _ h1 h2=>h1&&h2) vs
theorem Hz(m:Nat):∀vs:List V,Amm m vs=J5 m vs
 | []=>rfl
 | v::vs=>by
  show(MP m v&&Amm m vs)=_
  rw[Hz m vs];rfl
theorem Aft{m:Nat}{es:List V}:MP m (.sl es)=J5 m es:=Hz m es
theorem tM{m:Nat}{es:List V}:MP m (.agg es)=J5 m es:=Hz m es
theorem xX{m:Nat}{es:List V}:MP m (.tup es)=J5 m es:=Hz m es
theorem AfF{m:Nat}{f:FuncId}{a c:List V}:MP m (.fn f a c)=(J5 m a&&J5 m c):=by rw[<-Hz,<-Hz];rfl
theorem D9{m:Nat}:(∀v:V,MP m v=true->AW (Lt m) v)/\∀vs:List V,J5 m vs=true->∀v∈vs,AW (Lt m) v:=by
 have key:∀n:Nat,(∀v:V,SizeOf.sizeOf v<n->MP m v=true->AW (Lt m) v)/\∀vs:List V,SizeOf.sizeOf vs<n->J5 m vs=true->∀v∈vs,AW (Lt m) v:=by
  intro n
  induction n with
  | zero=>grind
  | succ n ih=>
   refine⟨fun v hs h=>?_,fun vs hs h=>?_⟩
   ·cases v with
    | sl es=>simp at hs;exact .sl _ (ih.2 es (by omega) (by rw[<-Aft];exact h))
    | agg es=>simp at hs;exact .agg _ (ih.2 es (by omega) (by rw[<-tM];exact h))
    | tup es=>simp at hs;exact .tup _ (ih.2 es (by omega) (by rw[<-xX];exact h))
    | fn f a c=>simp at hs;rw[AfF,Aav] at h;exact .fn _ _ _ (ih.2 a (by omega) h.1) (ih.2 c (by omega) h.2)
    | b x=>exact .b x
    | i k n=>exact .i k n
    | s l=>exact .s l
    | nil=>exact .nil
    | np=>exact .np
    | nf=>exact .nf
    | ni=>exact .ni
    | nm=>exact .nm
    | ub=>exact .ub
    | iv=>exact .iv
    | any=>exact .any
    | ref=>exact .ref _ _ (Lw h)
    | arr=>exact .arr _ (Lw h)
    | aref=>exact .aref _ _ _ _ (Lw h)
    | ep e o=>simp at hs;exact .ep _ _ (ih.1 e (by omega) h)
   ·cases vs with
    | nil=>intro v hv;cases hv
    | cons x xs=>
     simp at hs
     simp only[J5,Aav] at h
     grind
 exact⟨fun v=>(key (SizeOf.sizeOf v+1)).1 v (Acq _),fun vs=>(key (SizeOf.sizeOf vs+1)).2 vs (Acq _)⟩
def elt(m:Nat):AC->Bool
 | .box v=>MP m v
 | .tbox _ v=>MP m v
 | .arr _ _ es=>J5 m es
 | .map es=>es.all fun p=>MP m p.1&&MP m p.2
 | .it _ _=>true
 | .mit mid _ _ _=>Nat.blt mid.1 m
 | .loop _ env _ a b _ _=>((a.cl&&b.cl)&&(a.nr&&b.nr))&&env.all fun p=>MP m p.2
theorem VZ{S:Id->Prop}:∀{env:AD},(∀p∈env,AW S p.2)->∀s,AW S (get env s)
 | [],_,s=>.any
 | (k,v)::env,h,s=>by
  simp only[get]
  split
  ·simp_all
  ·exact VZ (fun p hp=>h p (by simp[hp])) s
theorem lK{m:Nat}{e:AC}(h:elt m e=true):Iz (Lt m) e:=by
 cases e with
 | box v=>exact .box _ (D9.1 v h)
 | tbox t v=>exact .tbox _ _ (D9.1 v h)
 | arr a b es=>exact .arr _ _ _ (D9.2 es h)
 | map es=>
  refine .map _ fun x hx=>?_
  have:=Aiv.1 h x hx
  simp only[Aav] at this
  exact⟨D9.1 _ this.1,D9.1 _ this.2⟩
 | it l p=>exact .it _ _
 | mit mid s se st=>exact .mit _ _ _ _ (Lw h)
 | loop nt env ps a b st pd=>
  have h:=(Bool.and_eq_true_iff.1 h)
  exact .loop _ _ _ _ _ _ _ (VZ fun p hp=>D9.1 _ (Aiv.1 h.2 p hp)) h.1
def slt(m:Nat)(σ:Ak):Bool:=σ.all fun p=>Nat.blt p.1.1 m&&elt m p.2
theorem JK:∀{σ:Ak} {id:Id} {e:AC},lk σ id=some e->(id,e)∈σ
 | [],_,_,h=>by cases h
 | (k,x)::σ,id,e,h=>by
  simp only[lk] at h
  split at h
  ·grind
  ·exact Abt _ (JK h)
theorem cU{m:Nat}{σ:Ak}(h:slt m σ=true):Cc (Lt m) σ:=by
 intro id e hl
 have:=Aiv.1 h _ (JK hl)
 simp only[Aav] at this
 exact⟨Lw this.1,lK this.2⟩
def Zi(v:V)(a:List Id):List Id:=V.rec (motive_1:=fun _=>List Id->List Id) (motive_2:=fun _=>List Id->List Id) (fun _ a=>a) (fun _ _ a=>a) (fun _ a=>a) (fun a=>a) (fun _ h=>h) (fun _ h=>h) (fun _ h=>h) (fun id _ a=>id::a) (fun id a=>id::a) (fun id _ _ _ a=>id::a) (fun _ _ h=>h) (fun _ _ _ h1 h2 a=>h1 (h2 a)) (fun a=>a) (fun a=>a) (fun a=>a) (fun a=>a) (fun a=>a) (fun a=>a) (fun a=>a) (fun a=>a) (fun _ _ h1 h2 a=>h1 (h2 a)) v a
def Xo(vs:List V)(a:List Id):List Id:=List.rec (motive:=fun _=>List Id) a (fun v _ ih=>Zi v ih) vs
def Ao6:AC->List Id->List Id
 | .box v,a=>Zi v a
 | .tbox _ v,a=>Zi v a
 | .arr _ _ es,a=>Xo es a
 | .map es,a=>es.foldr (fun p a=>Zi p.1 (Zi p.2 a)) a
 | .it _ _,a=>a
 | .mit mid _ _ _,a=>mid::a
 | .loop _ env _ _ _ _ _,a=>env.foldr (fun p a=>Zi p.2 a) a
def AiE(id:Id)(l:List Id):Bool:=List.rec (motive:=fun _=>Bool) false (fun k _ ih=>Bool.rec (motive:=fun _=>Bool) ih true (PH k id)) l
def RW(σ:Ak)(k:Nat):List Id->List Id->List Id:=Nat.rec (motive:=fun _=>List Id->List Id->List Id) (fun _ seen=>seen) (fun _ ih todo seen=>match todo with
 | []=>seen
 | id::todo=>Bool.rec (motive:=fun _=>List Id) (match Gz σ id with
  | some e=>ih (Ao6 e todo) (id::seen)
  | none=>ih todo seen) (ih todo seen) (AiE id seen)) k
def MC(q:Id->Bool)(σ:Ak):Ak:=List.rec (motive:=fun _=>Ak) [] (fun p _ ih=>Bool.rec (motive:=fun _=>Ak) ih (p::ih) (q p.1)) σ
theorem OG(q:Id->Bool):∀σ:Ak,MC q σ=σ.filter fun p=>q p.1
 | []=>rfl
 | p::σ=>by
  have h1:MC q (p::σ)=Bool.rec (motive:=fun _=>Ak) (MC q σ) (p::MC q σ) (q p.1):=rfl
  rw[h1,OG q σ]
  cases hb:q p.1 with
  | false=>grind
  | true=>grind
theorem KU(q:Id->Bool)(σ:Ak)(k:Id):lk (MC q σ) k=if q k then lk σ k else none:=by rw[OG,MV]
def KG(o:Option AC):Bool:=Option.rec (motive:=fun _=>Bool) false (fun _=>true) o
theorem Ll(o:Option AC):KG o=o.isSome:=by cases o<;>rfl
def LA(σ τ:Ak):Ak:=MC (fun id=>KG (Gz σ id)) τ
theorem IZ{σ τ:Ak}(id:Id):lk (LA σ τ) id=if(lk σ id).isSome then lk τ id else none:=by
 unfold LA
 rw[KU,Ll,Bo]
section
variable{P:Program}{W0:World}
def LN(s:List Id)(σ:Ak):Ak:=MC (fun id=>AiE id s) σ
def HW(args:List V)(σ:Ak):Ak:=LN (RW σ 1000 (Xo args []) []) σ
theorem Mq(args:List V)(σ:Ak):∀id e,lk (HW args σ) id=some e->lk σ id=some e:=by
 intro id e h
 unfold HW LN at h
 rw[KU] at h
 grind
def Li(f:V->Option V):List V->Option (List V)
 | []=>some []
 | v::vs=>match f v with
  | some w=>match Li f vs with
   | some ws=>some (w::ws)
   | none=>none
  | none=>none
theorem DB{f:V->Option V}:∀{l l':List V},Li f l=some l'->l.length=l'.length/\∀(k:Nat) (c c':V),l[k]?=some c->l'[k]?=some c'->f c=some c'
 | [],l',h=>by cases h;grind
 | v::vs,l',h=>by
  rw[Li] at h
  split at h
  ·rename_i w hw
   split at h
   ·rename_i ws hws
    cases h
    obtain⟨h1,h2⟩:=DB hws
    grind
   ·cases h
  ·cases h
def Kp(f:V->Option V)(c:V):Option V:=match f c with
 | some c'=>chk (c.ok&&c'.ok&&Nat.beq (cells c').length (cells c).length) (some c')
 | none=>none
def frz(σ:Ak)(q:Id->Bool):Nat->V->Option V
 | 0=>fun _=>none
 | k+1=>fun v=>match v with
  | .arr id=>bif q id then(match Gz σ id with
   | some (.arr _ _ es)=>(Li (Kp (frz σ q k)) es).map .sl
   | _=>none) else some (.arr id)
  | .sl es=>(Li (Kp (frz σ q k)) es).map .sl
  | .agg cs=>(Li (frz σ q k) cs).map .agg
  | .tup cs=>(Li (frz σ q k) cs).map .tup
  | v=>some v
def MH(σ:Ak)(q:Id->Bool):Id->Option (List V):=fun id=>if q id=true then(match lk σ id with
 | some (.arr _ _ es)=>some es
 | _=>none) else none
theorem BS{f:V->Option V}{c c':V}(h:Kp f c=some c'):f c=some c'/\(cells c').length=(cells c).length/\c.ok=true/\c'.ok=true:=by
 unfold Kp at h
 split at h
 ·rename_i c2 hf
  obtain⟨h5,h6⟩:=A4.1 h
  simp_all
 ·cases h
theorem FR{σ:Ak}{q:Id->Bool}:∀{k:Nat} {v v':V},frz σ q k v=some v'->K6 (MH σ q) v v'
 | 0,v,v',h=>by cases h
 | k+1,v,v',h=>by
  have els:∀{es es':List V},Li (Kp (frz σ q k)) es=some es'->es.length=es'.length/\(∀(j:Nat) (c c':V),es[j]?=some c->es'[j]?=some c'->K6 (MH σ q) c c')/\∀(j:Nat) (c c':V),es[j]?=some c->es'[j]?=some c'->(cells c').length=(cells c).length/\c.ok=true/\c'.ok=true:=by
   intro es es' hm
   obtain⟨h1,h2⟩:=DB hm
   exact⟨h1,fun j c c' a b=>FR (BS (h2 j c c' a b)).1,fun j c c' a b=>(BS (h2 j c c' a b)).2⟩
  cases v with
  | arr id=>
   simp only[frz] at h
   cases hb:q id with
   | false=>rw[hb] at h;cases h;exact .refl _
   | true=>
    rw[hb] at h
    simp only[cond_true] at h
    split at h
    ·rename_i e sz es hl
     rw[Bo] at hl
     obtain⟨es',h1,rfl⟩:=Adc.1 h
     obtain⟨h2,h3,h4⟩:=els h1
     exact .arr id es es' (by unfold MH;rw[if_pos hb,hl]) h2 h3 h4
    ·cases h
  | sl es=>
   obtain⟨es',h1,rfl⟩:=Adc.1 h
   obtain⟨h2,h3,h4⟩:=els h1
   exact .sl es es' h2 h3 h4
  | agg cs=>
   obtain⟨cs',h1,rfl⟩:=Adc.1 h
   obtain⟨h2,h3⟩:=DB h1
   exact .agg cs cs' h2 fun j c c' a b=>FR (h3 j c c' a b)
  | tup cs=>
   obtain⟨cs',h1,rfl⟩:=Adc.1 h
   obtain⟨h2,h3⟩:=DB h1
   exact .tup cs cs' h2 fun j c c' a b=>FR (h3 j c c' a b)
  | _=>cases h;exact .refl _
theorem G6{f:V->Option V}{l l':List V}(h:Li f l=some l'){c':V}(hc:c'∈l'):∃c∈l,f c=some c':=by
 obtain⟨h1,h2⟩:=DB h
 obtain⟨k,hk⟩:=ApX.1 hc
 have hlt:k<l.length:=by grind
 exact⟨l[k],AtT hlt,h2 k _ _ (Ain hlt) hk⟩
theorem GF{S:Id->Prop}{σ:Ak}{q:Id->Bool}(hs:Cc S σ):∀{k:Nat} {v v':V},frz σ q k v=some v'->AW S v->AW S v'
 | 0,v,v',h,_=>by cases h
 | k+1,v,v',h,hv=>by
  cases v with
  | arr id=>
   simp only[frz] at h
   cases hb:q id with
   | false=>grind
   | true=>
    rw[hb] at h
    simp only[cond_true] at h
    split at h
    ·rename_i e sz es hl
     rw[Bo] at hl
     obtain⟨es',h1,rfl⟩:=Adc.1 h
     refine .sl _ fun c' hc'=>?_
     obtain⟨c,hc,hf⟩:=G6 h1 hc'
     exact GF hs (BS hf).1 ((hs _ _ hl).2.arr_inv c hc)
    ·cases h
  | sl es=>
   obtain⟨es',h1,rfl⟩:=Adc.1 h
   refine .sl _ fun c' hc'=>?_
   obtain⟨c,hc,hf⟩:=G6 h1 hc'
   exact GF hs (BS hf).1 (hv.sl_inv c hc)
  | agg cs=>
   obtain⟨cs',h1,rfl⟩:=Adc.1 h
   refine .agg _ fun c' hc'=>?_
   obtain⟨c,hc,hf⟩:=G6 h1 hc'
   exact GF hs hf (hv.agg_inv c hc)
  | tup cs=>
   obtain⟨cs',h1,rfl⟩:=Adc.1 h
   refine .tup _ fun c' hc'=>?_
   obtain⟨c,hc,hf⟩:=G6 h1 hc'
   exact GF hs hf (hv.tup_inv c hc)
  | _=>cases h;exact hv
def Po(σ:Ak)(q:Id->Bool)(k:Nat):AC->Option AC
 | .box v=>(Kp (frz σ q k) v).map .box
 | .tbox t v=>(Kp (frz σ q k) v).map (.tbox t)
 | .arr e sz es=>(Li (Kp (frz σ q k)) es).map (.arr e sz)
 | e=>some e
theorem Xv{σ:Ak}{q:Id->Bool}{k:Nat}{e e':AC}(h:Po σ q k e=some e'):Kz (MH σ q) e e':=by
 cases e with
 | box v=>
  obtain⟨v',h1,rfl⟩:=Adc.1 h
  obtain⟨h2,h3,h4,h5⟩:=BS h1
  exact .box v v' (FR h2) h3 h4 h5
 | tbox t v=>
  obtain⟨v',h1,rfl⟩:=Adc.1 h
  obtain⟨h2,h3,h4,h5⟩:=BS h1
  exact .tbox t v v' (FR h2) h3 h4 h5
 | arr a b es=>
  obtain⟨es',h1,rfl⟩:=Adc.1 h
  obtain⟨h2,h3⟩:=DB h1
  exact .arr a b es es' h2 fun j c c' p q=>⟨FR (BS (h3 j c c' p q)).1,(BS (h3 j c c' p q)).2⟩
 | _=>cases h;exact .refl _
theorem Yp{S:Id->Prop}{σ:Ak}{q:Id->Bool}{k:Nat}{e e':AC}(hs:Cc S σ)(h:Po σ q k e=some e')(he:Iz S e):Iz S e':=by
 cases e with
 | box v=>
  obtain⟨v',h1,rfl⟩:=Adc.1 h
  exact .box _ (GF hs (BS h1).1 he.box_inv)
 | tbox t v=>
  obtain⟨v',h1,rfl⟩:=Adc.1 h
  exact .tbox _ _ (GF hs (BS h1).1 he.tbox_inv)
 | arr a b es=>
  obtain⟨es',h1,rfl⟩:=Adc.1 h
  refine .arr _ _ _ fun c' hc'=>?_
  obtain⟨c,hc,hf⟩:=G6 h1 hc'
  exact GF hs (BS hf).1 (he.arr_inv c hc)
 | _=>cases h;exact he
def uI(σ:Ak)(q:Id->Bool)(k:Nat):Ak->Option Ak
 | []=>some []
 | (id,e)::r=>match uI σ q k r with
  | some r'=>bif q id then some r' else match Po σ q k e with
   | some e'=>some ((id,e')::r')
   | none=>none
  | none=>none
theorem Jl{σ:Ak}{q:Id->Bool}{k:Nat}:∀{τ τ':Ak},uI σ q k τ=some τ'->∀id e',lk τ' id=some e'->q id=false/\∃e,lk τ id=some e/\Po σ q k e=some e'
 | [],τ',h,id,e',hl=>by cases h;cases hl
 | (j,x)::r,τ',h,id,e',hl=>by
  rw[uI] at h
  split at h
  ·rename_i r' hr
   cases hb:q j with
   | true=>
    rw[hb] at h
    cases h
    obtain⟨h1,e,h2,h3⟩:=Jl hr id e' hl
    grind[lk]
   | false=>
    rw[hb] at h
    simp only[cond_false] at h
    split at h
    ·rename_i x' hx
     cases h
     simp only[lk] at hl⊢
     split at hl
     ·grind
     ·rename_i hj
      obtain⟨h1,e,h2,h3⟩:=Jl hr id e' hl
      grind
    ·cases h
  ·cases h
def Pz(σ:Ak)(q:Id->Bool)(k:Nat):AD->Option AD
 | []=>some []
 | (s,v)::r=>match frz σ q k v with
  | some v'=>match Pz σ q k r with
   | some r'=>some ((s,v')::r')
   | none=>none
  | none=>none
theorem Im{σ:Ak}{q:Id->Bool}{k:Nat}:∀{env env':AD},Pz σ q k env=some env'->∀s,(get env s=.any/\get env' s=.any)\/frz σ q k (get env s)=some (get env' s)
 | [],env',h,s=>by cases h;grind[get]
 | (j,v)::r,env',h,s=>by
  rw[Pz] at h
  split at h
  ·rename_i v' hv
   split at h
   ·rename_i r' hr
    cases h
    simp only[get]
    by_cases hj:j=s
    ·grind
    ·rw[if_neg hj,if_neg hj];exact Im hr s
   ·cases h
  ·cases h
def mP(id:Id)(st:St):Option St:=
 let q:=fun j=>decide (j=id)
 match Gz st.σ id with
 | some (.arr _ _ _)=>match Pz st.σ q 60 st.env with
  | some env=>match uI st.σ q 60 st.σ with
   | some σ=>some ⟨env,σ,st.n⟩
   | none=>none
  | none=>none
 | _=>none
def XLe(W0:World)(nt:Nat)(st st':St):Prop:=∀B a w,Sr W0 nt B st a w->Sr W0 nt B st' a w
theorem mW{W0:World}{nt:Nat}{id:Id}{st st':St}(h:mP id st=some st'):XLe W0 nt st st'/\st'.n=st.n/\∀S,B0 S st.env->Cc S st.σ->B0 S st'.env/\Cc S st'.σ:=by
 unfold mP at h
 simp only at h
 split at h
 ·rename_i e sz es hl
  rw[Bo] at hl
  split at h
  ·rename_i env he
   split at h
   ·rename_i σ hσ
    cases h
    have hin:∀S,B0 S st.env->Cc S st.σ->B0 S env/\Cc S σ:=by
     intro S h1 h2
     refine⟨fun s=>?_,fun j x hj=>?_⟩
     ·rcases Im he s with⟨_,h⟩|h
      ·rw[h];exact .any
      ·exact GF h2 h (h1 s)
     ·obtain⟨_,y,hy,hf⟩:=Jl hσ j x hj
      exact⟨(h2 _ _ hy).1,Yp h2 hf (h2 _ _ hy).2⟩
    refine⟨fun B a w hat=>?_,rfl,hin⟩
    obtain⟨hat,h1,h2,hb⟩:=hat
    obtain⟨h3,h4⟩:=hin _ h1 h2
    refine⟨hat.weak (MH st.σ fun j=>decide (j=id)) (fun j es' hφ=>?_) (fun s=>?_) (fun j x hj=>?_) (AbG _),h3,h4,hb⟩
    ·unfold MH at hφ
     split at hφ
     ·rename_i hj
      split at hφ
      ·rename_i e' sz' es2 hl2
       cases hφ
       refine⟨⟨e',sz',hl2⟩,?_⟩
       cases hx:lk σ j with
       | none=>rfl
       | some x=>have:=(Jl hσ j x hx).1;grind
      ·cases hφ
     ·cases hφ
    ·rcases Im he s with⟨h5,h6⟩|h5
     ·rw[h6];exact .any _
     ·exact FR h5
    ·obtain⟨_,y,hy,hf⟩:=Jl hσ j x hj
     exact⟨y,hy,Xv hf⟩
   ·cases h
  ·cases h
 ·cases h
def geN(m:Nat):Id->Bool:=fun id=>Nat.ble m id.1
def ltS(m:Nat)(σ:Ak):Ak:=MC (fun id=>Nat.blt id.1 m) σ
theorem Sj{m:Nat}{σ:Ak}(id:Id):lk (ltS m σ) id=if Nat.blt id.1 m=true then lk σ id else none:=by
 unfold ltS
 rw[KU]
theorem Fe.frz{f:FuncId}{args:List V}{σ σ1:Ak}{m n' k:Nat}{v v':V}(h:Fe P W0 f args σ m v σ1 n')(hf:Go.Ir.frz σ1 (geN m) k v=some v')(hv:MP m v'=true):Fe P W0 f args σ m v' (ltS m σ1) n' where
 callable:=h.callable
 le:=h.le
 vin:=(D9.1 _ hv).mono (Lt.mono h.le)
 sin:=by
  intro id e hl
  rw[Sj] at hl
  split at hl
  ·exact h.sin id e hl
  ·cases hl
 run:=by
  intro w μ H vals hp hargs
  refine E3.mono (h.run w μ H vals hp hargs) ?_
  rintro e w' ⟨val,μ',H',rfl,hvr,hp',hfr,hfresh⟩
  have hat:At W0 1 ⟨μ,H,σ,w,m,none,[]⟩ ⟨[(0,v)],σ1,n'⟩ { tmps:=#[val],defers:=[] } w':=by
   refine⟨μ',H',⟨rfl,fun s=>?_⟩,hp',hfr,hfresh,h.le,rfl⟩
   cases s with
   | zero=>exact hvr
   | succ s=>exact .any _
  have hw:=hat.weak (MH σ1 (geN m)) (env':=[(0,v')]) (σ':=ltS m σ1) (n':=n') (fun id es hφ=>?_) (fun s=>?_) (fun id e hl=>?_) (AbG _)
  ·obtain⟨μ2,H2,hr2,hp2,hf2,hold2,_⟩:=hw
   exact⟨val,μ2,H2,rfl,hr2.at_ 0,hp2,hf2,hold2⟩
  ·unfold MH at hφ
   split at hφ
   ·rename_i hq
    split at hφ
    ·rename_i e sz es' hl
     cases hφ
     refine⟨⟨e,sz,hl⟩,?_⟩
     rw[Sj,if_neg]
     rw[Aud]
     exact Auc.2 (AtF hq)
    ·cases hφ
   ·cases hφ
  ·cases s with
   | zero=>exact FR hf
   | succ s=>exact .refl _
  ·rw[Sj] at hl
   split at hl
   ·exact⟨e,hl,.refl _⟩
   ·cases hl
def sH(C:AO):AO:=fun f args σ m=>match C f args σ m with
 | some (v,σ1,n')=>match frz σ1 (geN m) 60 v with
  | some v'=>chk (MP m v') (some (v',ltS m σ1,n'))
  | none=>none
 | none=>none
theorem Ow{C:AO}(hC:AU P W0 C):AU P W0 (sH C):=by
 intro f args σ m v σ' n' h ha hs
 unfold sH at h
 split at h
 ·rename_i v1 σ1 n1 h1
  split at h
  ·rename_i v2 h2
   obtain⟨h3,h4⟩:=A4.1 h
   cases h4
   exact(hC _ _ _ _ _ _ _ h1 ha hs).frz h2 h3
  ·cases h
 ·cases h
def cV(σi σo σ:Ak):Ak:=List.rec (motive:=fun _=>Ak) (MC (fun id=>Bool.rec (motive:=fun _=>Bool) true false (KG (Gz σi id))) σ) (fun p _ ih=>p::ih) σo
theorem QZ(σi σo σ:Ak):cV σi σo σ=over σi σo σ:=by
 have h0:MC (fun id=>Bool.rec (motive:=fun _=>Bool) true false (KG (Gz σi id))) σ=σ.filter fun p=>(lk σi p.1).isNone:=by
  rw[OG]
  congr 1
  funext p
  rw[Ll,Bo]
  cases lk σi p.1<;>rfl
 unfold cV over
 induction σo with
 | nil=>simpa using h0
 | cons p σo ih=>grind
def kJ(f:FuncId):Bool:=Bool.rec (motive:=fun _=>Bool) true false (Nat.beq f Hl)
theorem KP{f:FuncId}(h:kJ f=true):f≠Hl:=by
 rintro rfl
 cases h
def NN(C:AO)(m:Nat)(f:FuncId)(args:List V):Option V:=
 match sH C f args [] m with
 | some (v,_,_)=>chk (MP m v&&kJ f) (some v)
 | none=>none
theorem Jo{C:AO}(hC:AU P W0 C){m:Nat}{f:FuncId}{args:List V}{v:V}(h:NN C m f args=some v)(ha:∀a∈args,AW (Lt m) a):Am P W0 f args [] v []/\AW (Lt m) v:=by
 unfold NN at h
 split at h
 ·rename_i v1 σ1 n1 h1
  obtain⟨h2,h3⟩:=A4.1 h
  cases h3
  rw[Aav] at h2
  have hv:=D9.1 v h2.1
  exact⟨Am.of_at (KP h2.2) (Ow hC _ _ _ _ _ _ _ h1 ha Cc.nil) ha Cc.nil (fun id e hl=>by cases hl) (fun id hn=>absurd rfl hn) hv Cc.nil,hv⟩
 ·cases h
def a8(C:AO)(m:Nat)(σi σ:Ak)(f:FuncId)(args:List V):Option (V×Ak):=
 match sH C f args σi m with
 | some (v,σ1,_)=>chk ((MP m v&&slt m (LA σi σ1))&&kJ f) (some (v,cV σi (LA σi σ1) σ))
 | none=>none
def TK(C:AO)(m:Nat)(σ:Ak)(f:FuncId)(args:List V):Option (V×Ak):=a8 C m (HW args σ) σ f args
theorem Kn{C:AO}(hC:AU P W0 C){m:Nat}{σ σ':Ak}{f:FuncId}{args:List V}{v:V}(h:TK C m σ f args=some (v,σ'))(ha:∀a∈args,AW (Lt m) a)(hs:Cc (Lt m) σ):(∃σi σo,Am P W0 f args σi v σo/\(∀id e,lk σi id=some e->lk σ id=some e)/\σ'=over σi σo σ)/\AW (Lt m) v/\Cc (Lt m) σ':=by
 unfold TK a8 at h
 have hsub:=Mq args σ
 generalize HW args σ=σi at h hsub
 have hs2:Cc (Lt m) σi:=fun id e hl=>hs id e (hsub _ _ hl)
 split at h
 ·rename_i v1 σ1 n1 h1
  obtain⟨h2,h3⟩:=A4.1 h
  cases h3
  simp only[Aav] at h2
  have hny:=KP h2.2
  have h2:=h2.1
  have hv:=D9.1 v h2.1
  have hτ:=cU h2.2
  refine⟨⟨σi,LA σi σ1,Am.of_at hny (Ow hC _ _ _ _ _ _ _ h1 ha hs2) ha hs2 (fun id e hl=>?_) (fun id hn=>?_) hv hτ,hsub,QZ _ _ _⟩,hv,?_⟩
  ·rw[IZ] at hl
   grind
  ·intro h0
   rw[IZ,h0] at hn
   exact hn rfl
  ·rw[QZ];exact hs.over hτ
 ·cases h
def RY(C:AO)(m:Nat)(σ:Ak)(f:FuncId)(args:List V):Option (AC×Ak):=
 match C f args σ m with
 | some (.arr id,σ1,_)=>match lk σ1 id with
  | some x=>chk ((Nat.ble m id.1&&elt m x&&slt m (LA σ σ1))&&kJ f) (some (x,LA σ σ1))
  | none=>none
 | _=>none
theorem Pq{C:AO}(hC:AU P W0 C){m:Nat}{σ τ:Ak}{f:FuncId}{args:List V}{x:AC}(h:RY C m σ f args=some (x,τ))(ha:∀a∈args,AW (Lt m) a)(hs:Cc (Lt m) σ):JR P W0 f args σ x τ/\Iz (Lt m) x/\Cc (Lt m) τ:=by
 unfold RY at h
 split at h
 ·rename_i id σ1 n1 h1
  split at h
  ·rename_i x' hl
   obtain⟨h2,h3⟩:=A4.1 h
   cases h3
   simp only[Aav,AtH] at h2
   have hny:=KP h2.2
   have h2:=h2.1
   have hx:=lK h2.1.2
   have hτ:=cU h2.2
   refine⟨JR.of_at hny (hC _ _ _ _ _ _ _ h1 ha hs) ha hs hl (fun id e hl=>?_) (fun id hn=>?_) hx hτ h2.1.1,hx,hτ⟩
   ·rw[IZ] at hl
    grind
   ·intro h0
    rw[IZ,h0] at hn
    exact hn rfl
  ·cases h
 ·cases h
mutual
def Qh:V->V->Bool
 | .b x,.b y=>x==y
 | .i k a,.i k' b=>decide (k=k')&&s9 a b
 | .s a,.s b=>Oi a b
 | .nil,.nil=>true
 | .sl a,.sl b=>IP a b
 | .agg a,.agg b=>IP a b
 | .tup a,.tup b=>IP a b
 | .ref i o,.ref j p=>decide (i=j)&&Nat.beq o p
 | .arr i,.arr j=>decide (i=j)
 | .aref i a b c,.aref j a' b' c'=>decide (i=j)&&Nat.beq a a'&&Nat.beq b b'&&Nat.beq c c'
 | .ep a o,.ep b p=>Qh a b&&Nat.beq o p
 | .fn f a c,.fn g b d=>decide (f=g)&&IP a b&&IP c d
 | .np,.np|.nf,.nf|.ni,.ni|.nm,.nm|.ub,.ub|.iv,.iv|.any,.any=>true
 | _,_=>false
def IP:List V->List V->Bool
 | [],[]=>true
 | a::x,b::y=>Qh a b&&IP x y
 | _,_=>false
end
theorem Ji:∀n:Nat,(∀a b:V,SizeOf.sizeOf a<n->Qh a b=true->a=b)/\∀a b:List V,SizeOf.sizeOf a<n->IP a b=true->a=b:=by
 intro n
 induction n with
 | zero=>grind
 | succ n ih=>
  refine⟨fun a b hs h=>?_,fun a b hs h=>?_⟩
  ·unfold Qh at h
   split at h
   ·grind
   ·simp only[Aav,decide_eq_true_eq,K9] at h;rw[h.1,h.2]
   ·rw[Gh,beq_iff_eq] at h;rw[h]
   ·rfl
   ·grind
   ·grind
   ·grind
   ·simp_all
   ·grind
   ·simp_all
   ·simp at hs;simp only[Aav,As9] at h;grind
   ·grind
   all_goals first|rfl|cases h
  ·unfold IP at h
   grind
def Wz:List (V×V)->List (V×V)->Bool
 | [],[]=>true
 | a::x,b::y=>Qh a.1 b.1&&Qh a.2 b.2&&Wz x y
 | _,_=>false
theorem QH:∀{a b:List (V×V)},Wz a b=true->a=b
 | [],[],_=>rfl
 | a::x,b::y,h=>by
  simp only[Wz,Aav] at h
  rw[QH h.2,Prod.ext ((Ji _).1 _ _ (Acq _) h.1.1) ((Ji _).1 _ _ (Acq _) h.1.2)]
 | [],_::_,h=>by cases h
 | _::_,[],h=>by cases h
def zR:AC->AC->Bool
 | .box a,.box b=>Qh a b
 | .tbox t a,.tbox t' b=>Nat.beq t t'&&Qh a b
 | .arr t s a,.arr t' s' b=>Nat.beq t t'&&Nat.beq s s'&&IP a b
 | .map a,.map b=>Wz a b
 | .it l p,.it l' p'=>Oi l l'&&Nat.beq p p'
 | _,_=>false
theorem Wl{a b:AC}(h:zR a b=true):a=b:=by
 unfold zR at h
 split at h
 ·rw[(Ji _).1 _ _ (Acq _) h]
 ·simp only[Aav,As9] at h;rw[h.1,(Ji _).1 _ _ (Acq _) h.2]
 ·simp only[Aav,As9] at h;rw[h.1.1,h.1.2,(Ji _).2 _ _ (Acq _) h.2]
 ·rw[QH h]
 ·simp only[Aav,As9] at h;rw[Gh,beq_iff_eq] at h;rw[h.1,h.2]
 ·cases h
def AbO(σ τ:Ak):Bool:=σ.all fun p=>match lk σ p.1,lk τ p.1 with
 | some a,some b=>zR a b
 | _,_=>false
theorem XA{σ τ:Ak}(h:AbO σ τ=true):∀id e,lk σ id=some e->lk τ id=some e:=by
 intro id e hl
 have:=Aiv.1 h _ (JK hl)
 simp only[hl] at this
 split at this
 ·rename_i a b h1 h2
  cases h1
  rw[h2,Wl this]
 ·cases this
def S0(C:AO)(m:Nat)(σ:Ak)(f:FuncId)(args:List V):Option V:=
 match sH C f args (HW args σ) m with
 | some (v,σ1,_)=>chk ((MP m v&&AbO (HW args σ) σ1)&&kJ f) (some v)
 | none=>none
theorem Pv{C:AO}(hC:AU P W0 C){m:Nat}{σ:Ak}{f:FuncId}{args:List V}{v:V}(h:S0 C m σ f args=some v)(ha:∀a∈args,AW (Lt m) a)(hs:Cc (Lt m) σ):(∃σi,Am P W0 f args σi v σi/\∀id e,lk σi id=some e->lk σ id=some e)/\AW (Lt m) v:=by
 unfold S0 at h
 split at h
 ·rename_i v1 σ1 n1 h1
  obtain⟨h2,h3⟩:=A4.1 h
  cases h3
  simp only[Aav] at h2
  have hny:=KP h2.2
  have h2:=h2.1
  have hv:=D9.1 v h2.1
  have hsub:=Mq args σ
  have hs2:Cc (Lt m) (HW args σ):=fun id e hl=>hs id e (hsub _ _ hl)
  exact⟨⟨_,Am.of_at hny (Ow hC _ _ _ _ _ _ _ h1 ha hs2) ha hs2 (XA h2.2) (fun id hn=>hn) hv hs2,hsub⟩,hv⟩
 ·cases h
def yE(C:AO)(ep:Nat)(d:Option Nat)(op:AE)(g:Nat->V)(σ:Ak):Option (V×Ak):=
 match op with
 | .call f xs=>(NN C (ep+1) f (xs.map (ev g))).map fun v=>(v,σ)
 | .calls f xs=>TK C (ep+1) σ f (xs.map (ev g))
 | .callv x xs=>match ev g x with
  | .fn f a c=>(NN C (ep+1) f (a++xs.map (ev g)++c)).map fun v=>(v,σ)
  | _=>none
 | .callvs x xs=>match ev g x with
  | .fn f a c=>TK C (ep+1) σ f (a++xs.map (ev g)++c)
  | _=>none
 | .calln f xs=>match d with
  | some dd=>(RY C (ep+1) σ f (xs.map (ev g))).map fun r=>(.arr (ep,dd),((ep,dd),r.1)::over σ r.2 σ)
  | none=>none
 | .callr f xs=>(S0 C (ep+1) σ f (xs.map (ev g))).map fun v=>(v,σ)
 | op=>fE ep d op g σ
def apB(i:I)(g:Nat->V):Bool:=
 i.ap.isEmpty||i.ap.all fun x=>i.op.cs.all fun y=>match BU (ev g x),BU (ev g y) with
  | some a,some b=>!(a==b)
  | _,_=>true
def apQ(i:I):Bool:=i.op.cl&&!i.ap.isEmpty
def apK(i:I)(g:Nat->V)(σ τ:Ak):Bool:=i.ap.all fun x=>match BU (ev g x) with
 | some id=>(match Gz σ id with
  | some a=>(match Gz τ id with
   | some b=>zR a b
   | none=>false)
  | none=>true)
 | none=>true
def apE(i:I)(g:Nat->V)(σ:Ak)(o:Option (V×Ak)):Option (V×Ak):=bif apQ i then(match o with
 | some (v,τ)=>chk (apK i g σ τ) (some (v,τ))
 | none=>none) else o
theorem YU{i:I}{g:Nat->V}(h:apB i g=true):Zd i g:=by
 unfold apB at h
 rw[Atl] at h
 rcases h with h|h
 ·have he:i.ap=[]:=Atb.1 h
  exact fun x hx=>(by grind)
 ·intro x hx y hy id h1 h2
  grind
theorem XT{i:I}{g:Nat->V}{σ τ:Ak}{o:Option (V×Ak)}{v:V}(h:apE i g σ o=some (v,τ)):o=some (v,τ)/\Jy i g σ τ:=by
 unfold apE at h
 cases hc:apQ i with
 | false=>
  rw[hc] at h
  refine⟨h,fun hcl x hx=>?_⟩
  unfold apQ at hc
  grind
 | true=>
  rw[hc] at h
  simp only[cond_true] at h
  split at h
  ·rename_i v1 τ1
   obtain⟨h1,h2⟩:=A4.1 h
   cases h2
   refine⟨rfl,fun _ x hx id hid hne=>?_⟩
   have:=Aiv.1 h1 x hx
   rw[hid] at this
   simp only[Bo] at this
   split at this
   ·rename_i a ha
    split at this
    ·rename_i b hb
     rw[ha,hb,Wl this]
    ·cases this
   grind
  ·cases h
def yop(C:AO)(ep:Nat)(i:I)(env:AD)(σ:Ak):Option (V×Ak):=
 match M5 env i.gd with
 | some true=>chk (apB i (get env)) (apE i (get env) σ (yE C ep i.dst i.op (get env) σ))
 | some false=>some (.tup [],σ)
 | none=>none
def uO(C:AO)(ep:Nat):List I->AD->Ak->Option (AD×Ak)
 | [],env,σ=>some (env,σ)
 | i::l,env,σ=>match yop C ep i env σ with
  | some (v,σ')=>uO C ep l (put env i.dst v) σ'
  | none=>none
theorem aA{C:AO}(hC:AU P W0 C){ep:Nat}{i:I}{env:AD}{σ σ':Ak}{v:V}(h:yE C ep i.dst i.op (get env) σ=some (v,σ'))(hcl:i.cl=true)(he:B0 (Lt (ep+1)) env)(hs:Cc (Lt (ep+1)) σ) :
  E P W0 ep i.dst i.op (get env) σ v σ'/\AW (Lt (ep+1)) v/\Cc (Lt (ep+1)) σ':=by
 have hx:=I.cl_xs (S:=Lt (ep+1)) hcl he
 have hz:=I.cl_zs (S:=Lt (ep+1)) hcl
 have hnil:Cc (Lt (ep+1)) []:=Cc.nil
 have simple:i.op.isC=false->fE ep i.dst i.op (get env) σ=some (v,σ')->E P W0 ep i.dst i.op (get env) σ v σ'/\AW (Lt (ep+1)) v/\Cc (Lt (ep+1)) σ':=by
  intro hc h
  have hE:=LH (P:=P) (W0:=W0) h
  exact⟨hE,AdI hc (fun dd _=>Acq _) hx hz hs hE⟩
 have fnargs:∀{x:X} {xs:List X} {f:FuncId} {a c:List V},ev (get env) x=.fn f a c->(∀y∈x::xs,AW (Lt (ep+1)) (ev (get env) y))->∀w∈a++xs.map (ev (get env))++c,AW (Lt (ep+1)) w:=by
  intro x xs f a c hf hy w hw
  have h0:=hy x (by simp)
  rw[hf] at h0
  simp only[Ask,Aio] at hw
  rcases hw with hw|hw|hw
  ·exact h0.fn_inv.1 w hw
  ·grind
  ·exact h0.fn_inv.2 w hw
 generalize hop:i.op=op at *
 have hsub:∀id e,lk σ id=some e->lk σ id=some e:=fun _ _ h=>h
 cases op with
 | call f xs=>
  obtain⟨v1,h1,h2⟩:=Adc.1 h
  cases h2
  obtain⟨hR,hv⟩:=Jo hC h1 (Eg hx)
  exact⟨⟨hR,rfl⟩,hv,hs⟩
 | calls f xs=>
  obtain⟨hR,hv,hτ⟩:=Kn hC h (Eg hx) hs
  exact⟨hR,hv,hτ⟩
 | callv x xs=>
  simp only[yE] at h
  split at h
  ·rename_i f a c hf
   obtain⟨v1,h1,h2⟩:=Adc.1 h
   cases h2
   obtain⟨hR,hv⟩:=Jo hC h1 (fnargs hf hx)
   exact⟨⟨f,a,c,hf,hR,rfl⟩,hv,hs⟩
  ·cases h
 | callvs x xs=>
  simp only[yE] at h
  split at h
  ·rename_i f a c hf
   obtain⟨⟨σi,σo,hR,h2,h3⟩,hv,hτ⟩:=Kn hC h (fnargs hf hx) hs
   exact⟨⟨f,a,c,σi,σo,hf,hR,h2,h3⟩,hv,hτ⟩
  ·cases h
 | calln f xs=>
  simp only[yE] at h
  split at h
  ·rename_i dd hdd
   obtain⟨⟨x1,τ⟩,h1,h2⟩:=Adc.1 h
   cases h2
   obtain⟨hR,hv,hτ⟩:=Pq hC h1 (Eg hx) hs
   have hlt:Lt (ep+1) (ep,dd):=Acq _
   exact⟨⟨dd,σ,τ,x1,hdd,hR,hsub,rfl,rfl⟩,.arr _ hlt,(hs.over hτ).cons hlt hv⟩
  ·cases h
 | callr f xs=>
  obtain⟨v1,h1,h2⟩:=Adc.1 h
  cases h2
  obtain⟨hR,hv⟩:=Pv hC h1 (Eg hx) hs
  exact⟨⟨hR,rfl⟩,hv,hs⟩
 | callw x xs=>cases h
 | _=>exact simple rfl h
theorem Mi{C:AO}(hC:AU P W0 C){ep:Nat}:∀{l:List I} {env:AD} {σ:Ak} {env':AD} {σ':Ak},uO C ep l env σ=some (env',σ')->(∀i∈l,i.cl=true)->B0 (Lt (ep+1)) env->Cc (Lt (ep+1)) σ->
  (∀K:AD->Ak->Prop,K env' σ'->Av P W0 ep l env σ K)/\B0 (Lt (ep+1)) env'/\Cc (Lt (ep+1)) σ'
 | [],env,σ,env',σ',h,_,he,hs=>by cases h;exact⟨fun K h=>h,he,hs⟩
 | i::l,env,σ,env',σ',h,hcl,he,hs=>by
  rw[uO] at h
  split at h
  ·rename_i v τ h1
   have one:(∀K:AD->Ak->Prop,K (put env i.dst v) τ->Cp P W0 ep i env σ K)/\AW (Lt (ep+1)) v/\Cc (Lt (ep+1)) τ:=by
    unfold yop at h1
    split at h1
    ·rename_i hg
     obtain⟨ha,h2⟩:=A4.1 h1
     obtain⟨h2,hkeep⟩:=XT h2
     obtain⟨hE,hv,hτ⟩:=aA hC h2 (hcl i (by simp)) he hs
     refine⟨fun K hK=>?_,hv,hτ⟩
     have hap:Zd i (get env)/\Jy i (get env) σ τ:=⟨YU ha,hkeep⟩
     unfold Cp
     unfold M5 at hg
     cases hgd:i.gd with
     | none=>exact⟨v,τ,⟨hE,hap.1,hap.2⟩,hK⟩
     | some sw=>
      obtain⟨s,want⟩:=sw
      rw[hgd] at hg
      simp only at hg⊢
      split at hg
      ·rename_i t ht
       simp only[Aiq,beq_iff_eq] at hg
       rw[ht]
       exact⟨fun _=>⟨v,τ,⟨hE,hap.1,hap.2⟩,hK⟩,fun hne=>absurd hg hne⟩
      ·cases hg
      ·cases hg
    ·rename_i hg
     cases h1
     refine⟨fun K hK=>?_,.tup _ (by simp),hs⟩
     unfold Cp
     unfold M5 at hg
     grind
    ·cases h1
   obtain⟨h3,h4,h5⟩:=Mi hC h (fun j hj=>hcl j (by simp[hj])) (he.put one.2.1) one.2.2
   exact⟨fun K hK=>one.1 _ (h3 K hK),h4,h5⟩
  ·cases h
theorem AeC{C:AO}(hC:AU P W0 C){ep:Nat}{i:I}{env:AD}{σ:Ak}{n:Nat}{v:V}{τ:Ak}{n1:Nat}(h1:xop C ep i env σ n=some (v,τ,n1))(hcl:i.cl=true)(hlt:ep<n)(he:B0 (Lt n) env)(hs:Cc (Lt n) σ):n<=n1/\AW (Lt n1) v/\Cc (Lt n1) τ:=by
 unfold xop at h1
 split at h1
 ·split at h1
  ·rename_i f args hcall
   have hR:=hC _ _ _ _ _ _ _ h1 (MN hcall hcl he) hs
   exact⟨hR.le,hR.vin,hR.sin⟩
  ·rename_i hcall
   obtain⟨⟨v1,τ1⟩,hE0,h2⟩:=Adc.1 h1
   cases h2
   have hE:=LH (P:=P) (W0:=W0) hE0
   have hnc:i.op.isC=false:=Abf hE0
   have:=AdI (S:=Lt n) hnc (fun dd _=>hlt) (I.cl_xs hcl he) (I.cl_zs hcl) hs hE
   grind
 ·cases h1;exact⟨AbG _,.tup _ (by simp),hs⟩
 ·cases h1
theorem W6{C:AO}(hC:AU P W0 C){ep:Nat}:∀{l:List I} {env:AD} {σ:Ak} {n:Nat} {env':AD} {σ':Ak} {n':Nat},SI C ep l env σ n=some (env',σ',n')->(∀i∈l,i.cl=true)->ep<n->B0 (Lt n) env->Cc (Lt n) σ->
  n<=n'/\B0 (Lt n') env'/\Cc (Lt n') σ'
 | [],env,σ,n,env',σ',n',h,_,_,he,hs=>by cases h;grind
 | i::l,env,σ,n,env',σ',n',h,hcl,hlt,he,hs=>by
  rw[SI] at h
  split at h
  ·rename_i v τ n1 h1
   have one:=AeC hC h1 (hcl i (by simp)) hlt he hs
   obtain⟨h2,h3,h4⟩:=W6 hC h (fun j hj=>hcl j (by simp[hj])) (Alg hlt one.1) ((he.mono (Lt.mono one.1)).put one.2.1) one.2.2
   grind
  ·cases h
abbrev Vz:=IC->St->Option (Exit×St)
def sD(C:AO):IC->St->Option (Exit×St)
 | .seqr l live,st=>match SI C st.n l st.env st.σ (st.n+1) with
  | some (env,σ,n)=>some (.normal,⟨restrict live env,σ,n⟩)
  | none=>none
 | .ops l live _,st=>match uO C st.n l st.env st.σ with
  | some (env,σ)=>some (.normal,⟨restrict live env,σ,st.n+1⟩)
  | none=>none
 | _,_=>none
def Ali:V->Option Id
 | .arr id=>some id
 | .agg cs=>cs.findSome? fun c=>match c with
  | .arr id=>some id
  | _=>none
 | _=>none
def AdU:AE->List X
 | .call _ xs|.calls _ xs|.calln _ xs|.callr _ xs=>xs
 | _=>[]
def AcW(i:I)(env:AD):Option Id:=
 match(AdU i.op).findSome? fun x=>Ali (ev (get env) x) with
 | some id=>some id
 | none=>
 let x:=match i.op with
  | .slL x _ _ _=>some x
  | .pu _ (x::_)=>some x
  | .app x _ _ _=>some x
  | _=>none
 match x with
 | some x=>match ev (get env) x with
  | .arr id=>some id
  | _=>none
 | none=>none
def Abs(C:AO)(ep:Nat):List I->AD->Ak->Nat->Option Id
 | [],_,_,_=>none
 | i::l,env,σ,n=>match xop C ep i env σ n with
  | some (v,σ',n')=>Abs C ep l (put env i.dst v) σ' n'
  | none=>AcW i env
def AbL(C:AO)(ep:Nat):List I->AD->Ak->Option Id
 | [],_,_=>none
 | i::l,env,σ=>match yop C ep i env σ with
  | some (v,σ')=>AbL C ep l (put env i.dst v) σ'
  | none=>AcW i env
def AiP(C:AO):IC->St->Option Id
 | .seqr l _,st=>Abs C st.n l st.env st.σ (st.n+1)
 | .ops l _ _,st=>AbL C st.n l st.env st.σ
 | _,_=>none
def QY(C:AO):Nat->IC->St->Option (Exit×St)
 | 0,ic,st=>sD C ic st
 | k+1,ic,st=>match sD C ic st with
  | some r=>some r
  | none=>match AiP C ic st with
   | some id=>match mP id st with
    | some st'=>QY C k ic st'
    | none=>none
   | none=>none
def Du(C:AO)(L:Vz):IC->St->Option (Exit×St)
 | .seqr l live,st=>QY C 3 (.seqr l live) st
 | .ops l live p,st=>QY C 3 (.ops l live p) st
 | .seq a b,st=>match Du C L a st with
  | some (.normal,s)=>Du C L b s
  | r=>r
 | .cond c a b,st=>match ev (get st.env) c with
  | .b true=>Du C L a st
  | .b false=>Du C L b st
  | _=>none
 | .block id a,st=>match Du C L a st with
  | some (.exit id',s)=>if id'=id then some (.normal,s) else some (.exit id',s)
  | r=>r
 | .loop c,st=>L (.loop c) st
 | .rfn g ps a b en live,st=>L (.rfn g ps a b en live) st
 | .wk c,st=>Du C L c st
 | .exit id,st=>some (.exit id,st)
 | .ret,st=>some (.ret,st)
 | .skip,st=>some (.normal,st)
 | _,_=>none
def XS(P:Program)(W0:World)(nt:Nat)(r:Bool)(ic:IC)(st:St)(e:Exit)(st':St):Prop:=
 B0 (Lt st.n) st.env->Cc (Lt st.n) st.σ->(st.n<=st'.n/\B0 (Lt st'.n) st'.env/\Cc (Lt st'.n) st'.σ)/\MZ P W0 nt r ic (fun e' s=>e'=e/\s=st') st
def SE(P:Program)(W0:World)(nt:Nat)(r:Bool)(L:Vz):Prop:=∀ic st e st',ic.cl=true->(r=true\/ic.nr=true)->L ic st=some (e,st')->XS P W0 nt r ic st e st'
theorem Ly{C:AO}(hC:AU P W0 C){nt:Nat}{r:Bool}:∀{ic:IC} {st:St} {e:Exit} {st':St},ic.cl=true->sD C ic st=some (e,st')->XS P W0 nt r ic st e st'
 | .seqr l live,st,e,st',hc,h=>by
  intro he hs
  rw[sD] at h
  split at h
  ·rename_i env σ n hx
   cases h
   have hcl:∀i∈l,i.cl=true:=fun i hi=>Aiv.1 hc i hi
   obtain⟨h1,h2,h3⟩:=W6 hC hx hcl (Acq _) (he.mono (Lt.mono (Ani _))) (hs.mono (Lt.mono (Ani _)))
   exact⟨⟨by simp only;omega,h2.restrict _,h3⟩,nG hC hc hx ⟨rfl,rfl⟩⟩
  ·cases h
 | .ops l live paths,st,e,st',hc,h=>by
  intro he hs
  rw[sD] at h
  split at h
  ·rename_i env σ hy
   cases h
   have hcl:∀i∈l,i.cl=true:=fun i hi=>Aiv.1 hc i hi
   obtain⟨h1,h2,h3⟩:=Mi hC hy hcl (he.mono (Lt.mono (Ani _))) (hs.mono (Lt.mono (Ani _)))
   refine⟨⟨Ani _,h2.restrict _,h3⟩,xZ (env':=restrict live env) (σ':=σ) (m:=st.n+1) (Rx (h1 _ fun n' hn'=>⟨rfl,n',rfl⟩)) (Ani _) (fun _ _=>⟨h2.restrict _,h3⟩) ⟨rfl,rfl⟩⟩
  ·cases h
 | .opxe ..,st,e,st',hc,h=>by cases h
 | .anyr ..,st,e,st',hc,h=>by cases h
 | .seq ..,st,e,st',hc,h=>by cases h
 | .cond ..,st,e,st',hc,h=>by cases h
 | .block ..,st,e,st',hc,h=>by cases h
 | .loop ..,st,e,st',hc,h=>by cases h
 | .wk ..,st,e,st',hc,h=>by cases h
 | .exit ..,st,e,st',hc,h=>by cases h
 | .ret,st,e,st',hc,h=>by cases h
 | .skip,st,e,st',hc,h=>by cases h
 | .mnext ..,st,e,st',hc,h=>by cases h
 | .opx ..,st,e,st',hc,h=>by cases h
 | .opxq ..,st,e,st',hc,h=>by cases h
 | .opxd ..,st,e,st',hc,h=>by cases h
 | .opxv ..,st,e,st',hc,h=>by cases h
 | .scope ..,st,e,st',hc,h=>by cases h
 | .rfn ..,st,e,st',hc,h=>by cases h
theorem GW{C:AO}(hC:AU P W0 C){nt:Nat}{r:Bool}{ic:IC}(hc:ic.cl=true):∀(k:Nat) {st:St} {e:Exit} {st':St},QY C k ic st=some (e,st')->XS P W0 nt r ic st e st'
 | 0,st,e,st',h=>Ly hC hc h
 | k+1,st,e,st',h=>by
  rw[QY] at h
  split at h
  ·rename_i r hr
   cases h
   exact Ly hC hc hr
  ·split at h
   ·split at h
    ·rename_i st1 hf
     obtain⟨hle,hn,hin⟩:=mW (W0:=W0) (nt:=nt) hf
     intro he hs
     have h1:=GW (nt:=nt) (r:=r) hC hc k h
     obtain⟨h2,h3⟩:=hin _ he hs
     rw[<-hn] at h2 h3
     obtain⟨h4,h5⟩:=h1 h2 h3
     rw[hn] at h4
     exact⟨h4,fun code hcode B a w hB hat=>h5 code hcode B a w hB (hle B a w hat)⟩
    ·cases h
   ·cases h
theorem Ba{C:AO}(hC:AU P W0 C){L:Vz}{nt:Nat}{r:Bool}(hL:SE P W0 nt r L):∀{ic:IC} {st:St} {e:Exit} {st':St},ic.cl=true->(r=true\/ic.nr=true)->Du C L ic st=some (e,st')->XS P W0 nt r ic st e st'
 | .seqr l live,st,e,st',hc,_,h=>GW hC hc 3 h
 | .ops l live p,st,e,st',hc,_,h=>GW hC hc 3 h
 | .opxe ..,st,e,st',hc,_,h=>by cases h
 | .anyr ..,st,e,st',hc,_,h=>by cases h
 | .seq a b,st,e,st',hc,hn,h=>by
  intro he hs
  simp only[IC.cl,Aav] at hc
  simp only[IC.nr,Aav] at hn
  have hn1:=hn.imp id And.left
  have hn2:=hn.imp id And.right
  rw[Du] at h
  split at h
  ·rename_i s ha
   obtain⟨⟨h1,h2,h3⟩,h4⟩:=Ba hC hL hc.1 hn1 ha he hs
   obtain⟨⟨h5,h6,h7⟩,h8⟩:=Ba hC hL hc.2 hn2 h h2 h3
   refine⟨⟨Aiw h1 h5,h6,h7⟩,VX (FG h4 fun e' s' hh=>?_)⟩
   grind
  ·rename_i hr
   obtain⟨h1,h4⟩:=Ba hC hL hc.1 hn1 h he hs
   refine⟨h1,VX (FG h4 fun e' s' hh=>?_)⟩
   simp_all
 | .cond c a b,st,e,st',hc,hn,h=>by
  intro he hs
  simp only[IC.cl,Aav] at hc
  simp only[IC.nr,Aav] at hn
  have hn1:=hn.imp id And.left
  have hn2:=hn.imp id And.right
  rw[Du] at h
  split at h
  ·rename_i hv
   obtain⟨h1,h4⟩:=Ba hC hL hc.1 hn1 h he hs
   exact⟨h1,Rw hv h4⟩
  ·rename_i hv
   obtain⟨h1,h4⟩:=Ba hC hL hc.2 hn2 h he hs
   exact⟨h1,Rw hv h4⟩
  ·cases h
 | .block id a,st,e,st',hc,hn,h=>by
  intro he hs
  rw[Du] at h
  split at h
  ·rename_i id' s ha
   obtain⟨h1,h4⟩:=Ba hC hL (ic:=a) hc hn ha he hs
   split at h
   ·rename_i hid
    cases h
    refine⟨h1,JE (FG h4 fun e' s' hh=>?_)⟩
    obtain⟨rfl,rfl⟩:=hh
    simp only[Dl]
    grind
   ·rename_i hid
    cases h
    refine⟨h1,JE (FG h4 fun e' s' hh=>?_)⟩
    obtain⟨rfl,rfl⟩:=hh
    simp only[Dl]
    grind
  ·rename_i hr
   obtain⟨h1,h4⟩:=Ba hC hL (ic:=a) hc hn h he hs
   refine⟨h1,JE (FG h4 fun e' s' hh=>?_)⟩
   obtain⟨rfl,rfl⟩:=hh
   cases e' with
   | exit id'=>grind
   | _=>exact⟨rfl,rfl⟩
 | .loop c,st,e,st',hc,hn,h=>hL _ st e st' hc hn h
 | .wk c,st,e,st',hc,hn,h=>by
  intro he hs
  obtain⟨h1,h4⟩:=Ba hC hL (ic:=c) hc hn h he hs
  exact⟨h1,AfA h4⟩
 | .exit id,st,e,st',hc,hn,h=>by
  intro he hs
  cases h
  exact⟨⟨AbG _,he,hs⟩,rI ⟨rfl,rfl⟩⟩
 | .ret,st,e,st',hc,hn,h=>by
  intro he hs
  cases h
  exact⟨⟨AbG _,he,hs⟩,tI ⟨rfl,rfl⟩⟩
 | .skip,st,e,st',hc,hn,h=>by
  intro he hs
  cases h
  exact⟨⟨AbG _,he,hs⟩,lW ⟨rfl,rfl⟩⟩
 | .mnext ..,st,e,st',hc,hn,h=>by cases h
 | .opx ..,st,e,st',hc,hn,h=>by cases h
 | .opxq ..,st,e,st',hc,hn,h=>by cases h
 | .opxd ..,st,e,st',hc,hn,h=>by cases h
 | .opxv ..,st,e,st',hc,hn,h=>by cases h
 | .scope ..,st,e,st',hc,hn,h=>by cases h
 | .rfn g ps a b en live,st,e,st',hc,hn,h=>hL _ st e st' hc hn h
end
end
end Go.Ir
end
section
namespace Go.Ir
open Go.RowKit
noncomputable section
variable[F1]
def AgZ(C:AO)(nt:Nat)(g:X)(ps:List Nat)(a b:IC)(en live:List Nat)(st:St):Option (Exit×St):=
 match ev (get st.env) g with
 | .fn f first caps=>match s8 f (first++[.arr (st.n,0)]++caps) with
  | some (f,args)=>match C f args (((st.n,0),.loop nt (restrict en st.env) ps a b .ready none)::st.σ) (st.n+1) with
   | some (_,σ',n')=>match Gz σ' (st.n,0) with
    | some (.loop _ _ _ _ _ s pd)=>bif JF s then none else some (eS pd,⟨restrict live st.env,X3 σ' (st.n,0),n'⟩)
    | _=>none
   | none=>none
  | none=>none
 | _=>none
section
variable{P:Program}{W0:World}{nt:Nat}
theorem TC{C:AO}(hC:AU P W0 C)(hP:Gw P){g:X}{ps:List Nat}{a b:IC}{en live:List Nat}{st:St}{e:Exit}{st':St}(hc:(IC.rfn g ps a b en live).cl=true)(h:AgZ C nt g ps a b en live st=some (e,st')):XS P W0 nt true (.rfn g ps a b en live) st e st':=by
 intro he hs
 unfold AgZ at h
 split at h
 ·rename_i f0 first caps hg
  split at h
  ·rename_i f args hcf
   split at h
   ·rename_i v σ' n' hcall
    split at h
    ·rename_i nt1 env1 ps1 a1 b1 s pd hlk
     rw[Bo] at hlk
     cases hbz:JF s with
     | true=>rw[hbz] at h;cases h
     | false=>
     rw[hbz] at h
     simp only[cond_false,Aiq,At2] at h
     obtain⟨rfl,rfl⟩:=h
     rw[Pg]
     obtain⟨rfl,hargs,hfne⟩:=GX hcf
     simp only[IC.cl,Aav] at hc
     have hgv:AW (Lt st.n) (.fn f0 first caps):=by rw[<-hg];exact X.cl_in hc.1.1 he
     have hlt0:Lt (st.n+1) (st.n,0):=Acq _
     have hs1:Cc (Lt (st.n+1)) (((st.n,0),AC.loop nt (restrict en st.env) ps a b .ready none)::st.σ):=
      (hs.mono (Lt.mono (Ani _))).cons hlt0 (.loop _ _ _ _ _ _ _ ((he.restrict en).mono (Lt.mono (Ani _))) (by grind))
     have ha1:∀x∈args,AW (Lt (st.n+1)) x:=by
      rw[<-hargs]
      intro x hx
      simp only[Ask,Aio,AsB] at hx
      rcases hx with hx|rfl|hx
      ·exact(hgv.fn_inv.1 x hx).mono (Lt.mono (Ani _))
      ·exact .arr _ hlt0
      ·exact(hgv.fn_inv.2 x hx).mono (Lt.mono (Ani _))
     have hR:=hC _ _ _ _ _ _ _ hcall ha1 hs1
     have hle:st.n<=n':=Nat.le_of_succ_le hR.le
     have hE:=(he.restrict live).mono (Lt.mono hle)
     refine⟨⟨hle,hE,hR.sin.del _⟩,fun code hcode B act w hB hat=>?_⟩
     refine AZ (Q2 (Q:=fun e s=>e=eS pd/\s=⟨restrict live st.env,del σ' (st.n,0),n'⟩) hP hg (hR.callable hfne) (fun w μ H vals hp hv=>?_) hcode (hB rfl) hat.1) fun e a' w' ⟨B',hx,st',⟨h1,h2⟩,ha⟩=>⟨B',hx.1,st',⟨h1,h2⟩,ha,by rw[h2];exact hE,by rw[h2];exact hR.sin.del _,hx.2⟩
     have hrun:=hR.run w μ H vals hp (by rw[<-hargs];exact hv)
     rw[Cg hfne] at hrun
     refine AqY hrun ?_
     rintro e w' ⟨val,μ',H',rfl,hv',hp',hf,hfresh⟩
     exact⟨val,μ',H',n',σ',rfl,⟨_,_,_,_,_,s,pd,hlk,hbz,rfl,rfl⟩,hp',hR.le,hf,hfresh⟩
    ·cases h
   ·cases h
  ·cases h
 ·cases h
end
end
end Go.Ir
end
section
namespace Go.Ir
open Go.RowKit
noncomputable section
variable[F1]
def Sub(σ' σ:Ak):Prop:=∀id e,lk σ' id=some e->lk σ id=some e
theorem Sr.sub{W0:World}{nt:Nat}{B:HA}{env:AD}{σ σ':Ak}{n:Nat}{a:Act}{w:World}(h:Sr W0 nt B ⟨env,σ,n⟩ a w)(hs:Sub σ' σ):Sr W0 nt B ⟨env,σ',n⟩ a w:=by
 obtain⟨⟨μ,H,hr,hp,hf,hold,hn,hds⟩,he,hσ,hb⟩:=h
 refine⟨⟨μ,H,hr,hp.part hs,⟨hf.mu,hf.hp,hf.size,hf.keep,hf.pin,fun bk hbk ho=>hf.dom bk hbk ?_⟩,hold,hn,hds⟩,he,fun id e hl=>hσ id e (hs _ _ hl),hb⟩
 obtain⟨id,e,hl,hbk⟩:=ho
 exact⟨id,e,hs _ _ hl,hbk⟩
def AbR(n0:Nat)(σ:Ak):List Id:=List.rec (motive:=fun _=>List Id) [] (fun p _ ih=>Bool.rec (motive:=fun _=>List Id) ih (p.1::ih) (Nat.blt p.1.1 n0)) σ
def AmQ(n0:Nat)(σ:Ak):Nat:=List.rec (motive:=fun _=>Nat) 0 (fun p _ ih=>Bool.rec (motive:=fun _=>Nat) (Nat.succ ih) ih (Nat.blt p.1.1 n0)) σ
def gcS(n0:Nat)(roots:List V)(σ:Ak):Ak:=
 Bool.rec (motive:=fun _=>Ak) (LN (RW σ 100000 (Xo roots (AbR n0 σ)) []) σ) σ (Nat.ble (AmQ n0 σ) 12)
theorem Jp(n0:Nat)(roots:List V)(σ:Ak):Sub (gcS n0 roots σ) σ:=by
 intro id e h
 unfold gcS at h
 cases hb:Nat.ble (AmQ n0 σ) 12 with
 | true=>rw[hb] at h;exact h
 | false=>
  rw[hb] at h
  have h:lk (LN (RW σ 100000 (Xo roots (AbR n0 σ)) []) σ) id=some e:=h
  unfold LN at h
  rw[KU] at h
  grind
def RN(n0:Nat)(st:St):St:=⟨st.env,gcS n0 (st.env.map (·.2)) st.σ,st.n⟩
section
variable{P:Program}{W0:World}
def Ff(C:AO)(nt n0:Nat):Nat->Vz
 | 0=>fun _ _=>none
 | k+1=>fun ic st=>match ic with
  | .loop c=>match Du C (Ff C nt n0 k) c st with
   | some (.normal,s)=>Ff C nt n0 k (.loop c) (RN n0 s)
   | r=>r
  | .rfn g ps a b en live=>AgZ C nt g ps a b en live st
  | _=>none
theorem G0{C:AO}(hC:AU P W0 C)(hP:Gw P){nt n0:Nat}{r:Bool}:∀k,SE P W0 nt r (Ff C nt n0 k):=by
 intro k
 induction k using Nat.strongRecOn with
 | _ k IH=>
 cases k with
 | zero=>intro c st e st' _ _ h;cases h
 | succ k=>
  have ih:=IH k (Acq _)
  intro ic st e st' hc hnr h
  cases ic with
  | rfn g ps a b en live=>
   have hr:r=true:=by
    rcases hnr with h1|h1
    ·exact h1
    ·cases h1
   subst hr
   exact TC hC hP hc h
  | loop c=>
   have hc:c.cl=true:=hc
   have hnr:r=true\/c.nr=true:=hnr
   intro he hs
   have hstep:(match Du C (Ff C nt n0 k) c st with
    | some (.normal,s)=>Ff C nt n0 k (.loop c) (RN n0 s)
    | r=>r)=some (e,st'):=h
   have names:∀s,Du C (Ff C nt n0 k) c st=some (.normal,s)->XS P W0 nt r c st .normal s:=fun s hx=>Ba hC ih hc hnr hx
   have hin:st.n<=st'.n/\B0 (Lt st'.n) st'.env/\Cc (Lt st'.n) st'.σ:=by
    split at hstep
    ·rename_i s hx
     obtain⟨⟨h1,h2,h3⟩,_⟩:=names s hx he hs
     have h3':Cc (Lt s.n) (RN n0 s).σ:=fun id e hl=>h3 id e (Jp _ _ _ _ _ hl)
     obtain⟨⟨h4,h5,h6⟩,_⟩:=ih (.loop c) (RN n0 s) e st' hc hnr hstep h2 h3'
     exact⟨Aiw h1 h4,h5,h6⟩
    ·exact(Ba hC ih hc hnr hstep he hs).1
   refine⟨hin,?_⟩
   refine rG (Inv:=fun m s=>m<=k+1/\Ff C nt n0 m (.loop c) s=some (e,st')/\B0 (Lt s.n) s.env/\Cc (Lt s.n) s.σ) (fun m s hI=>?_) (k+1) ⟨AbG _,h,he,hs⟩
   obtain⟨hm,hx,hes,hss⟩:=hI
   cases m with
   | zero=>cases hx
   | succ m=>
    have hx:(match Du C (Ff C nt n0 m) c s with
     | some (.normal,s)=>Ff C nt n0 m (.loop c) (RN n0 s)
     | r=>r)=some (e,st'):=hx
    have ihm:SE P W0 nt r (Ff C nt n0 m):=IH m (by omega)
    split at hx
    ·rename_i s1 h1
     obtain⟨⟨h2,h3,h4⟩,h5⟩:=Ba hC ihm hc hnr h1 hes hss
     have h4':Cc (Lt s1.n) (RN n0 s1).σ:=fun id e hl=>h4 id e (Jp _ _ _ _ _ hl)
     intro code hcode B a w hB hat
     refine AZ (h5 code hcode B a w hB hat) fun e' a w hh=>?_
     obtain⟨B',hxt,s2,⟨rfl,rfl⟩,ha⟩:=hh
     exact⟨B',hxt,RN n0 s2,⟨m,Acq _,by omega,hx,h3,h4'⟩,Sr.sub ha (Jp _ _ _)⟩
    ·rename_i hr
     obtain⟨_,h5⟩:=Ba hC ihm hc hnr hx hes hss
     refine FG h5 fun e' s' hh=>?_
     simp_all
  | _=>cases h
theorem Lk{S:Id->Prop}:∀{ps:List Nat} {vs:List V} {env:AD},(∀v∈vs,AW S v)->B0 S env->B0 S (HO ps vs env)
 | [],_,_,_,he=>he
 | _::_,[],_,_,he=>he
 | p::ps,v::vs,env,hv,he=>Lk (ps:=ps) (fun x hx=>hv x (by simp[hx])) (he.put (d:=some p) (hv v (by simp)))
def zX(C:AO)(K:Nat)(args:List V)(σ:Ak)(n:Nat):Option (V×Ak×Nat):=match args with
 | .arr id::vs=>match Gz σ id with
  | some (.loop nt env ps a b .ready pd)=>bif Nat.beq vs.length ps.length&&ps.all (fun p=>Nat.blt p nt) then(match Du C (Ff C nt n K) a ⟨HO ps vs env,σ,n⟩ with
   | some (.normal,s1)=>(match Gz s1.σ id with
    | some (.loop nt1 env1 ps1 a1 b1 .ready pd1)=>(match Du C (Ff C nt n K) b ⟨s1.env,Xs s1.σ id (.loop nt1 env1 ps1 a1 b1 .busy pd1),s1.n⟩ with
     | some (e,s2)=>(match pdX e with
      | some pd'=>(match Gz s2.σ id with
       | some (.loop nt2 env2 ps2 a2 b2 st2 pd2)=>some (.b pd'.isNone,gcS n [] (Xs s2.σ id (.loop nt2 env2 ps2 a2 b2 (bif pd'.isNone then .ready else .done) pd')),s2.n)
       | _=>none)
      | none=>none)
     | none=>none)
    | _=>none)
   | _=>none) else none
  | _=>none
 | _=>none
theorem xG{C:AO}(hC:AU P W0 C)(hP:Gw P){K:Nat}{args:List V}{σ σ':Ak}{n n':Nat}{v:V}(h:zX C K args σ n=some (v,σ',n'))(ha:∀a∈args,AW (Lt n) a)(hs:Cc (Lt n) σ):Fe P W0 Hl args σ n v σ' n':=by
 unfold zX at h
 split at h
 ·rename_i id vs
  split at h
  ·rename_i nt env ps a b pd hl0
   rw[Bo] at hl0
   cases hb:(Nat.beq vs.length ps.length&&ps.all fun p=>Nat.blt p nt) with
   | false=>rw[hb] at h;cases h
   | true=>
   rw[hb] at h
   simp only[cond_true] at h
   rw[Aav,As9] at hb
   split at h
   ·rename_i s1 hx1
    split at h
    ·rename_i nt1 env1 ps1 a1 b1 pd1 hl1
     rw[Bo] at hl1
     split at h
     ·rename_i e s2 hx2
      split at h
      ·rename_i pd' hpd
       split at h
       ·rename_i nt2 env2 ps2 a2 b2 st2 pd2 hl2
        rw[Bo] at hl2
        cases h
        rw[KB] at hx2⊢
        obtain⟨henv,hcl⟩:=(hs _ _ hl0).2.loop_inv
        simp only[Aav] at hcl
        have hvs:∀x∈vs,AW (Lt n) x:=fun x hx=>ha x (by simp[hx])
        have hX1:=Ba (nt:=nt) (r:=false) hC (G0 hC hP K) hcl.1.1 (.inr hcl.2.1) hx1
        obtain⟨⟨q1,q2,q3⟩,q4⟩:=hX1 (Lk hvs henv) hs
        have q3':Cc (Lt s1.n) (upd s1.σ id (.loop nt1 env1 ps1 a1 b1 .busy pd1)):=q3.upd hl1 (by
         obtain⟨h1,h2⟩:=(q3 _ _ hl1).2.loop_inv
         exact .loop _ _ _ _ _ _ _ h1 h2)
        have hX2:=Ba (nt:=nt) (r:=false) hC (G0 hC hP K) hcl.1.2 (.inr hcl.2.2) hx2
        obtain⟨⟨q5,q6,q7⟩,q8⟩:=hX2 q2 q3'
        have q7':Cc (Lt s2.n) (upd s2.σ id (.loop nt2 env2 ps2 a2 b2 (bif pd'.isNone then .ready else .done) pd')):=q7.upd hl2 (by
         obtain⟨h1,h2⟩:=(q7 _ _ hl2).2.loop_inv
         exact .loop _ _ _ _ _ _ _ h1 h2)
        have hsub:=Jp n [] (upd s2.σ id (.loop nt2 env2 ps2 a2 b2 (bif pd'.isNone then .ready else .done) pd'))
        simp only at q1 q5
        refine⟨fun h=>absurd rfl h,Aiw q1 q5,.b _,fun j x hj=>q7' j x (hsub _ _ hj),fun w μ H vals hp hargs=>?_⟩
        refine E3.mono (f:=Hl) (R:=fun e w'=>∃val μ' H' n' vv σ',e=.returned val/\(n'=s2.n/\vv=.b pd'.isNone/\σ'=gcS n [] (upd s2.σ id (.loop nt2 env2 ps2 a2 b2 (bif pd'.isNone then .ready else .done) pd')))/\Ap μ' H' vv val/\Hp W0 σ' n' μ' H' w'/\n<=n'/\Fr μ H σ w μ' H' σ' w'/\∀id,id.1<n->μ id=none->μ' id=none) ?_ ?_
        ·unfold E3
         rw[if_pos rfl]
         refine Md (R:=fun _ n' vv σ'=>n'=s2.n/\vv=.b pd'.isNone/\σ'=gcS n [] (upd s2.σ id (.loop nt2 env2 ps2 a2 b2 (bif pd'.isNone then .ready else .done) pd'))) hp hargs hl0 hb.1 hb.2 fun l ca cb hca hcb act hat=>?_
         refine AZ (q4 ca ((hP _ _ _).1 hca) _ _ _ (fun h=>by cases h) ⟨hat,Lk hvs henv,hs,fun id hid=>hp.bd id hid⟩) fun e1 act1 w1 hh1=>?_
         obtain⟨B1,hxt1,s1',⟨he1',hs1e⟩,hat1⟩:=hh1
         rw[hs1e] at hat1
         refine⟨he1',B1,s1,nt1,env1,ps1,a1,b1,pd1,hxt1,hat1.1,hl1,fun w2 hat2=>?_⟩
         have h2:=q8 cb ((hP _ _ _).1 hcb) B1 act1 w2 (fun h=>by cases h) ⟨hat2,q2,q3',hat1.2.2.2⟩
         rw[hxt1.ro] at h2
         refine AZ h2 fun e2 act2 w3 hh2=>?_
         obtain⟨B2,hxt2,s2',⟨he2',hs2e⟩,hat3⟩:=hh2
         rw[hs2e] at hat3
         rw[he2']
         exact⟨B2,s2,pd',nt2,env2,ps2,a2,b2,st2,pd2,_,ZW hpd,hxt2,hat3.1,hl2,hsub,rfl,rfl,rfl⟩
        grind
       ·cases h
      ·cases h
     ·cases h
    ·cases h
   ·cases h
  ·cases h
 ·cases h
def AhI(env:AD)(σ:Ak):R->Option V
 | .t s=>some (get env s)
 | .c s n ag=>match get env s with
  | .ref id off=>match Gz σ id with
   | some (.box u)=>sub u off n ag
   | _=>none
  | _=>none
def WA(env:AD)(σ:Ak):List R->Option (List V)
 | []=>some []
 | r::rs=>match AhI env σ r with
  | some v=>match WA env σ rs with
   | some vs=>some (v::vs)
   | none=>none
  | none=>none
theorem Aa0{S:Id->Prop}{st:St}{r:R}{v:V}(h:AhI st.env st.σ r=some v)(he:B0 S st.env)(hs:Cc S st.σ):Qj st r v/\AW S v:=by
 cases r with
 | t s=>cases h;exact⟨rfl,he s⟩
 | c s n ag=>
  simp only[AhI] at h
  split at h
  ·rename_i id off hg
   split at h
   ·rename_i u hl
    rw[Bo] at hl
    exact⟨⟨id,off,u,hg,hl,h⟩,HT h (hs _ _ hl).2.box_inv⟩
   ·cases h
  ·cases h
theorem Q9{S:Id->Prop}{st:St}(he:B0 S st.env)(hs:Cc S st.σ):∀{rs:List R} {vs:List V},WA st.env st.σ rs=some vs->Dj st rs vs/\∀v∈vs,AW S v
 | [],vs,h=>by cases h;exact⟨trivial,fun v hv=>by cases hv⟩
 | r::rs,vs,h=>by
  rw[WA] at h
  split at h
  ·rename_i v h1
   split at h
   ·rename_i vs' h2
    cases h
    obtain⟨h3,h4⟩:=Aa0 h1 he hs
    obtain⟨h5,h6⟩:=Q9 he hs h2
    exact⟨⟨h3,h5⟩,fun x hx=>by
     grind
⟩
   ·cases h
  ·cases h
theorem wY{S:Id->Prop}{vs:List V}(h:∀v∈vs,AW S v):AW S (Lz vs):=by
 unfold Lz
 split
 ·exact h _ (by simp)
 ·exact .tup _ h
structure Ec where
 nt:Nat
 ic:IC
 rs:List R
def tN(F:Ec)(n:Nat)(st:St):Option (V×Ak×Nat):=
 match WA st.env st.σ F.rs with
 | some vs=>some (Lz vs,gcS n [Lz vs] st.σ,st.n)
 | none=>none
def xfn(C:AO)(k:Nat)(F:Ec)(args:List V)(σ:Ak)(n:Nat):Option (V×Ak×Nat):=
 bif Nat.ble args.length F.nt then(match Du C (Ff C F.nt n k) F.ic ⟨params 0 args,σ,n⟩ with
  | some (.ret,st)=>tN F n st
  | some (.normal,st)=>tN F n st
  | _=>none) else none
def HM(P:Program)(T:FuncId->Option Ec):Prop:=∀f F,T f=some F->Aw P f F.nt F.ic F.rs=true/\F.ic.cl=true
def LI(T:FuncId->Option Ec)(B:AO)(K:Nat):Nat->AO
 | 0=>fun _ _ _ _=>none
 | k+1=>fun f args σ n=>bif Nat.beq f Hl then zX (LI T B K k) K args σ n else(match T f with
  | some F=>xfn (LI T B K k) K F args σ n
  | none=>B f args σ n)
theorem MW{S:Id->Prop}{args:List V}(h:∀a∈args,AW S a):B0 S (params 0 args):=by
 intro s
 rw[HU]
 simp only[Ajt,if_true,AtP]
 cases hs:args[s]? with
 | none=>exact .any
 | some v=>exact CA h hs
theorem zB{T:FuncId->Option Ec}{B:AO}{K:Nat}(hT:HM P T)(hB:AU P W0 B)(hP:Gw P):∀k,AU P W0 (LI T B K k):=by
 intro k
 induction k with
 | zero=>intro f args σ n v σ' n' h;cases h
 | succ k ih=>
  intro f args σ n v σ' n' h ha hs
  have h:(bif Nat.beq f Hl then zX (LI T B K k) K args σ n else(match T f with
   | some F=>xfn (LI T B K k) K F args σ n
   | none=>B f args σ n))=some (v,σ',n'):=h
  cases hy:Nat.beq f Hl with
  | true=>
   rw[hy] at h
   have hf:f=Hl:=ApD hy
   subst hf
   exact xG ih hP h ha hs
  | false=>
  rw[hy] at h
  simp only[cond_false] at h
  have hfy:f≠Hl:=by rintro rfl;simp at hy
  split at h
  ·rename_i F hF
   obtain⟨hck,hcl⟩:=hT f F hF
   unfold xfn at h
   cases hb:Nat.ble args.length F.nt with
   | false=>rw[hb] at h;cases h
   | true=>
   rw[hb] at h
   simp only[cond_true] at h
   have hlen:args.length<=F.nt:=AtF hb
   have key:∀e st,(e=.ret\/e=.normal)->Du (LI T B K k) (Ff (LI T B K k) F.nt n K) F.ic ⟨params 0 args,σ,n⟩=some (e,st)->tN F n st=some (v,σ',n')->Fe P W0 f args σ n v σ' n':=by
    intro e st hee hx hfin
    unfold tN at hfin
    split at hfin
    ·rename_i vs hvs
     cases hfin
     obtain⟨⟨h1,h2,h3⟩,h4⟩:=Ba (nt:=F.nt) (r:=true) ih (G0 ih hP K) hcl (.inl rfl) hx (MW ha) hs
     obtain⟨h5,h6⟩:=Q9 h2 h3 hvs
     have hsub:=Jp n [Lz vs] st.σ
     obtain⟨fn,c,hf,hbd,hcode,hnt,hrs,hcal⟩:=H3 hck
     refine⟨fun _=>hcal,h1,wY h6,fun id e hl=>h3 id e (hsub _ _ hl),fun w μ H vals hp hv=>?_⟩
     rw[Cg hfy]
     have hnt2:fn.ntmps=F.nt:=hnt
     have hat:=KD (nt:=F.nt) hlen hp hv
     refine DL (nt:=F.nt) (Q:=fun e' s=>e'=e/\s=st) hf hbd hp ?_ (fun e' s hq=>by
      rw[hq.1]
      rcases hee with rfl|rfl
      ·exact .inr rfl
      ·exact .inl rfl) (fun e' st' a μ' H' hq _ hn hold w' hr' hp' hf'=>?_)
     ·rw[hnt2]
      exact AZ (h4 c hcode ⟨μ,H,σ,w,n,none,[]⟩ _ w (fun _=>rfl) ⟨hat,MW ha,hs,fun id hid=>hp.bd id hid⟩) fun e' a' w' hh=>by
       obtain⟨B',hx,st',hq,hat'⟩:=hh
       exact⟨B',hx,st',hq,hat'.1⟩
     ·obtain⟨_,rfl⟩:=hq
      obtain⟨val,hrun,hrel⟩:=EX hr' hp' hrs h5
      refine⟨val,hrun,val,μ',H',rfl,hrel,hp'.part hsub,⟨hf'.mu,hf'.hp,hf'.size,hf'.keep,hf'.pin,fun bk hbk ho=>hf'.dom bk hbk ?_⟩,hold⟩
      obtain⟨id,e,hl,hb2⟩:=ho
      exact⟨id,e,hsub _ _ hl,hb2⟩
    ·cases hfin
   split at h
   ·rename_i st hx;exact key _ st (.inl rfl) hx h
   ·rename_i st hx;exact key _ st (.inr rfl) hx h
   ·cases h
  ·exact hB f args σ n v σ' n' h ha hs
theorem SH{T:FuncId->Option Ec}{B:AO}{K k:Nat}(hT:HM P T)(hB:AU P W0 B)(hP:Gw P){f:FuncId}{args:List V}{v:V}{σ':Ak}{n':Nat}(h:LI T B K k f args [] 0=some (v,σ',n'))(ha:J5 0 args=true)(hv:MP 0 v=true)(hf:f≠Hl:=by decide):Am P W0 f args [] v []:=
 Am.of_at hf (zB hT hB hP k _ _ _ _ _ _ _ h (D9.2 args ha) Cc.nil) (D9.2 args ha) Cc.nil (fun id e hl=>by cases hl) (fun id hn=>absurd rfl hn) (D9.1 v hv) Cc.nil
end
end
end Go.Ir
end
section
namespace Go.Ir
open Go.RowKit
noncomputable section
variable[F1]
section force
variable{β:Type}
def CI(n:Nat)(k:Nat->β):β:=Nat.rec (motive:=fun _=>β) (k 0) (fun m _=>k (Nat.succ m)) n
theorem Cr(n:Nat)(k:Nat->β):CI n k=k n:=by cases n<;>rfl
def Tg(n:Int)(k:Int->β):β:=Int.rec (motive:=fun _=>β) (fun a=>CI a fun a=>k (.ofNat a)) (fun a=>CI a fun a=>k (.negSucc a)) n
theorem YF(n:Int)(k:Int->β):Tg n k=k n:=by
 cases n with
 | ofNat a=>exact Cr a fun a=>k (.ofNat a)
 | negSucc a=>exact Cr a fun a=>k (.negSucc a)
def oX(b:Bool)(k:Bool->β):β:=Bool.rec (motive:=fun _=>β) (k false) (k true) b
theorem Za(b:Bool)(k:Bool->β):oX b k=k b:=by cases b<;>rfl
def Pj(c:UInt8)(k:UInt8->β):β:=CI c.toNat fun n=>k (UInt8.ofNat n)
theorem Yf(c:UInt8)(k:UInt8->β):Pj c k=k c:=by unfold Pj;rw[Cr,UInt8.ofNat_toNat]
def Oc(l:List UInt8)(k:List UInt8->β):β:=List.rec (motive:=fun _=>(List UInt8->β)->β) (fun k=>k []) (fun c _ ih k=>Pj c fun c=>ih fun l=>k (c::l)) l k
theorem YE(l:List UInt8):∀k:List UInt8->β,Oc l k=k l:=by
 induction l with
 | nil=>intro k;rfl
 | cons c l ih=>intro k;rw[show Oc (c::l) k=Pj c fun c=>Oc l fun l=>k (c::l) from rfl,Yf];exact ih _
def hB(x:Bool)(k:V->β):β:=k (.b x)
def hI(a:IntKind)(n:Int)(k:V->β):β:=k (.i a n)
def hS(l:List UInt8)(k:V->β):β:=k (.s l)
def ApF(k:V->β):β:=k .nil
def hSl(l:List V)(k:V->β):β:=k (.sl l)
def Apx(l:List V)(k:V->β):β:=k (.agg l)
def AoO(l:List V)(k:V->β):β:=k (.tup l)
def Ao4(id:Id)(o:Nat)(k:V->β):β:=k (.ref id o)
def AoN(id:Id)(k:V->β):β:=k (.arr id)
def AjR(id:Id)(a b c:Nat)(k:V->β):β:=k (.aref id a b c)
def hEp(e:V)(o:Nat)(k:V->β):β:=k (.ep e o)
def hFn(f:FuncId)(a c:List V)(k:V->β):β:=k (.fn f a c)
def hNp(k:V->β):β:=k .np
def hNf(k:V->β):β:=k .nf
def hNi(k:V->β):β:=k .ni
def hNm(k:V->β):β:=k .nm
def hUb(k:V->β):β:=k .ub
def hIv(k:V->β):β:=k .iv
def Aqo(k:V->β):β:=k .any
def LJ(v:V)(k:V->β):β:=V.casesOn (motive_1:=fun _=>(V->β)->β) v hB hI hS ApF hSl Apx AoO Ao4 AoN AjR hEp hFn hNp hNf hNi hNm hUb hIv Aqo k
theorem Na(v:V)(k:V->β):LJ v k=k v:=by cases v<;>rfl
def Dk(l:List V)(k:List V->β):β:=List.rec (motive:=fun _=>(List V->β)->β) (fun k=>k []) (fun v _ ih k=>LJ v fun v=>ih fun l=>k (v::l)) l k
theorem D6(l:List V):∀k:List V->β,Dk l k=k l:=by
 induction l with
 | nil=>intro k;rfl
 | cons c l ih=>intro k;rw[show Dk (c::l) k=LJ c fun c=>Dk l fun l=>k (c::l) from rfl,Na];exact ih _
def FZ(id:Id)(k:Id->β):β:=CI id.1 fun a=>CI id.2 fun b=>k (a,b)
theorem Ig(id:Id)(k:Id->β):FZ id k=k id:=by unfold FZ;rw[Cr,Cr]
def Tp(a:IntKind)(k:IntKind->β):β:=
 match a with
 | .i8=>k .i8|.i16=>k .i16|.i32=>k .i32|.i64=>k .i64|.u8=>k .u8|.u16=>k .u16|.u32=>k .u32|.u64=>k .u64
theorem Zh(a:IntKind)(k:IntKind->β):Tp a k=k a:=by cases a<;>rfl
def vB(x:Bool)(_:Bool)(k:V->β):β:=oX x fun x=>k (.b x)
def vI(a:IntKind)(n:Int)(_:Bool)(k:V->β):β:=Tp a fun a=>Tg n fun n=>k (.i a n)
def Aj3(l:List UInt8)(deep:Bool)(k:V->β):β:=bif deep then Oc l fun l=>k (.s l) else k (.s l)
def AjJ(_:Bool)(k:V->β):β:=k .nil
def vSl(es:List V)(_:Bool)(k:V->β):β:=Dk es fun es=>k (.sl es)
def Akw(es:List V)(_:Bool)(k:V->β):β:=Dk es fun es=>k (.agg es)
def ApT(es:List V)(_:Bool)(k:V->β):β:=Dk es fun es=>k (.tup es)
def Ajo(id:Id)(o:Nat)(_:Bool)(k:V->β):β:=FZ id fun id=>CI o fun o=>k (.ref id o)
def Anj(id:Id)(_:Bool)(k:V->β):β:=FZ id fun id=>k (.arr id)
def Abh(id:Id)(a b c:Nat)(_:Bool)(k:V->β):β:=FZ id fun id=>CI a fun a=>CI b fun b=>CI c fun c=>k (.aref id a b c)
def vEp(e:V)(o:Nat)(_:Bool)(k:V->β):β:=LJ e fun e=>CI o fun o=>k (.ep e o)
def vFn(f:FuncId)(a c:List V)(_:Bool)(k:V->β):β:=Dk a fun a=>Dk c fun c=>k (.fn f a c)
def vNp(_:Bool)(k:V->β):β:=k .np
def vNf(_:Bool)(k:V->β):β:=k .nf
def vNi(_:Bool)(k:V->β):β:=k .ni
def vNm(_:Bool)(k:V->β):β:=k .nm
def vUb(_:Bool)(k:V->β):β:=k .ub
def vIv(_:Bool)(k:V->β):β:=k .iv
def Anb(_:Bool)(k:V->β):β:=k .any
def O9(deep:Bool)(v:V)(k:V->β):β:=V.casesOn (motive_1:=fun _=>Bool->(V->β)->β) v vB vI Aj3 AjJ vSl Akw ApT Ajo Anj Abh vEp vFn vNp vNf vNi vNm vUb vIv Anb deep k
theorem AR(d:Bool)(v:V)(k:V->β):O9 d v k=k v:=by
 cases v with
 | b x=>exact Za x fun x=>k (.b x)
 | i a n=>show Tp a (fun a=>Tg n fun n=>k (.i a n))=_;rw[Zh,YF]
 | s l=>cases d
        ·rfl
        ·exact YE l fun l=>k (.s l)
 | sl es=>exact D6 es fun es=>k (.sl es)
 | agg es=>exact D6 es fun es=>k (.agg es)
 | tup es=>exact D6 es fun es=>k (.tup es)
 | ref id o=>show FZ id (fun id=>CI o fun o=>k (.ref id o))=_;rw[Ig,Cr]
 | arr id=>exact Ig id fun id=>k (.arr id)
 | aref id a b c=>show FZ id (fun id=>CI a fun a=>CI b fun b=>CI c fun c=>k (.aref id a b c))=_;rw[Ig,Cr,Cr,Cr]
 | ep e o=>show LJ e (fun e=>CI o fun o=>k (.ep e o))=_;rw[Na,Cr]
 | fn f a c=>show Dk a (fun a=>Dk c fun c=>k (.fn f a c))=_;rw[D6,D6]
 | _=>rfl
def KN(l:List V)(k:List V->β):β:=List.rec (motive:=fun _=>(List V->β)->β) (fun k=>k []) (fun v _ ih k=>O9 true v fun v=>ih fun l=>k (v::l)) l k
theorem SL(l:List V):∀k:List V->β,KN l k=k l:=by
 induction l with
 | nil=>intro k;rfl
 | cons c l ih=>intro k;rw[show KN (c::l) k=O9 true c fun c=>KN l fun l=>k (c::l) from rfl,AR];exact ih _
def Aqg(es:List V)(deep:Bool)(k:V->β):β:=bif deep then KN es fun es=>k (.tup es) else Dk es fun es=>k (.tup es)
def Pc(deep:Bool)(v:V)(k:V->β):β:=V.casesOn (motive_1:=fun _=>Bool->(V->β)->β) v vB vI Aj3 AjJ vSl Akw Aqg Ajo Anj Abh vEp vFn vNp vNf vNi vNm vUb vIv Anb deep k
theorem Hj(d:Bool)(v:V)(k:V->β):Pc d v k=k v:=by
 cases v with
 | tup es=>cases d
           ·exact D6 es fun es=>k (.tup es)
           ·exact SL es fun es=>k (.tup es)
 | b x=>exact AR d (.b x) k
 | i a n=>exact AR d (.i a n) k
 | s l=>exact AR d (.s l) k
 | nil=>exact AR d (.nil ) k
 | sl es=>exact AR d (.sl es) k
 | agg es=>exact AR d (.agg es) k
 | ref id o=>exact AR d (.ref id o) k
 | arr id=>exact AR d (.arr id) k
 | aref id a b c=>exact AR d (.aref id a b c) k
 | ep e o=>exact AR d (.ep e o) k
 | fn f a c=>exact AR d (.fn f a c) k
 | np=>exact AR d (.np ) k
 | nf=>exact AR d (.nf ) k
 | ni=>exact AR d (.ni ) k
 | nm=>exact AR d (.nm ) k
 | ub=>exact AR d (.ub ) k
 | iv=>exact AR d (.iv ) k
 | any=>exact AR d (.any ) k
end force
section
variable{β:Type}
end
end
end Go.Ir
end
section
namespace Go.Ir
open Go.RowKit
variable[F1]
section
variable{P:Program}{W0:World}{f:FuncId}{args:List V}{σ:Ak}{n:Nat}{v:V}
theorem Fe.of_ret(hy:f≠Hl)(h:Am P W0 f args [] v [])(hv:Wo v=true)(hs:Cc (Lt n) σ):Fe P W0 f args σ n v σ n where
 callable _:=h.callable
 le:=AbG _
 vin:=Oh.1 v hv
 sin:=hs
 run:=by
  intro w μ H vals hp hargs
  have hsub:∀id e,lk ([]:Ak) id=some e->lk σ id=some e:=fun id e hl=>by cases hl
  rw[Cg hy]
  refine AqY (h.run n w μ H vals (hp.part hsub) hargs) ?_
  rintro e w' ⟨val,μ',H',n',rfl,hv',hp',hle,hf,hfresh⟩
  obtain⟨h1,h2⟩:=hp.back hsub hp' hf
  rw[GQ] at h1 h2
  refine⟨val,cut n μ',H',rfl,hv'.cut (Oh.1 v hv),h1.cut hs,⟨fun id x hx=>?_,h2.hp,h2.size,h2.keep,h2.pin,fun bk hb ho=>h2.dom bk hb (Gp ho)⟩,fun id hid h0=>?_⟩
  ·rcases Ar9 id.1 n with h|h
   ·rw[Fx (m:=n) h];exact h2.mu id x hx
   ·rw[hp.bd id h] at hx;cases hx
  ·rw[Fx (m:=n) hid];exact hfresh id hid h0
theorem Hp.lose{w w':World}{σ1:Ak}{μ:Id->Option Value}{H:Addr->Option Value}(hp:Hp W0 σ n μ H w){R:Nat->Prop}(ht:AJ R w w')(hR:∀k,R k->EK μ σ k)
  (h1:∀id e,lk σ1 id=some e->lk σ id=some e/\∀bk,BI (μ id)=some bk->¬R bk):Hp W0 σ1 n μ H w'/\Fr μ H σ w μ H σ1 w':=by
 have own':∀bk,EK μ σ1 bk->EK μ σ bk:=by
  rintro bk ⟨id,e,hl,hb⟩
  exact⟨id,e,(h1 _ _ hl).1,hb⟩
 refine⟨⟨hp.base_turned ht hR,hp.pins_turned ht hR,?_,fun bk ho=>hp.unp bk (own' bk ho),fun i1 e1 i2 e2 bk l1 l2=>hp.sep _ _ _ _ bk (h1 _ _ l1).1 (h1 _ _ l2).1,hp.bd⟩,
  ⟨fun _ _ h=>h,fun _ _ h=>h,ht.size,fun bk hb ho=>ht.block bk hb (fun hr=>ho (hR bk hr)),fun _ _ _=>rfl,fun bk _ ho=>own' bk ho⟩⟩
 intro id e hl
 refine(hp.ents _ _ (h1 _ _ hl).1).keep (fun _ _ h=>h) (fun _ _ h=>h) (fun bk hb=>?_)
 exact ht.block bk ((hp.ents _ _ (h1 _ _ hl).1).block hb).2 ((h1 _ _ hl).2 bk hb)
end
theorem VRels.one_{μ:Id->Option Value}{H:Addr->Option Value}{v:V}{vals:List Value}(h:VRels μ H [v] vals):∃x,vals=[x]/\Ap μ H v x:=by
 have hl:=h.len
 match vals,hl with
 | [x],_=>exact⟨x,rfl,h.at_ 0 v x rfl rfl⟩
 | [],hl=>simp at hl
 | _::_::_,hl=>simp at hl
theorem Ap.np_inv'{μ:Id->Option Value}{H:Addr->Option Value}{val:Value}(h:Ap μ H .np val):val=.pointer none:=by
 cases h
 rfl
section
variable{P:Program}{W0:World}
def vS(a b:AO):AO:=fun f args σ n=>match a f args σ n with
 | some r=>some r
 | none=>b f args σ n
theorem HR{a b:AO}(ha:AU P W0 a)(hb:AU P W0 b):AU P W0 (vS a b):=by
 intro f args σ n v σ' n' h
 unfold vS at h
 split at h
 ·rename_i r hr;cases h;exact ha _ _ _ _ _ _ _ hr
 ·exact hb _ _ _ _ _ _ _ h
noncomputable def s7(f0:FuncId)(g:List V->Option V):AO:=fun f args σ n=>bif Nat.beq f f0 then(match g args with
 | some v=>Pc true v fun v=>some (v,σ,n)
 | none=>none) else none
theorem NI{f0:FuncId}{g:List V->Option V}(h:∀args v,g args=some v->Am P W0 f0 args [] v []/\Wo v=true)(hy:f0≠Hl:=by decide):AU P W0 (s7 f0 g):=by
 intro f args σ n v σ' n' he ha hs
 unfold s7 at he
 cases hb:Nat.beq f f0 with
 | false=>rw[hb] at he;cases he
 | true=>
  rw[hb] at he
  obtain rfl:=ApD hb
  simp only[cond_true] at he
  split at he
  ·rename_i v1 hv
   rw[Hj] at he
   cases he
   obtain⟨h1,h2⟩:=h _ _ hv
   exact Fe.of_ret hy h1 h2 hs
  ·cases he
noncomputable def xN(f0:FuncId)(adm:List (TypeId×Nat×Nat)):AO:=fun f args σ n=>bif Nat.beq f f0 then(match args with
 | [.ref id off]=>match Gz σ id with
  | some (.tbox T u)=>chk (adm.any fun p=>Nat.beq p.1 T&&Nat.beq p.2.1 (cells u).length&&Nat.beq p.2.2 off) (match(cells u)[off]? with
   | some .np=>match De u off 1 (.ref id off) with
    | some u'=>some (.tup [],Xs σ id (.tbox T u'),n)
    | none=>none
   | some (.ref id' off')=>chk (PH id id'&&Nat.beq off off') (some (.tup [],σ,n))
   | _=>none)
  | _=>none
 | _=>none) else none
theorem uS{f0:FuncId}{adm:List (TypeId×Nat×Nat)}(hcal:callable P f0=true)
  (used:∀(b off:Nat) (w:World),w.cell? ⟨b,off,none⟩=some (.pointer (some ⟨b,off,none⟩))->Calls P f0 #[.pointer (some ⟨b,off,none⟩)] w fun e w'=>e=.returned (.tuple #[])/\w'=w)
  (fresh:∀(T k off:Nat),(T,k,off)∈adm->∀(b:Nat) (w:World),w.cell? ⟨b,off,none⟩=some (.pointer none)->w.shape? b=some (T,k)->w.frozen? ⟨b,off,none⟩=false->off<k->
   Calls P f0 #[.pointer (some ⟨b,off,none⟩)] w fun e w'=>e=.returned (.tuple #[])/\w'=w.setCell ⟨b,off,none⟩ (.pointer (some ⟨b,off,none⟩)))(hy:f0≠Hl:=by decide):AU P W0 (xN f0 adm):=by
 intro f args σ n v σ' n' he ha hs
 unfold xN at he
 cases hb:Nat.beq f f0 with
 | false=>rw[hb] at he;cases he
 | true=>
  rw[hb] at he
  obtain rfl:=ApD hb
  simp only[cond_true] at he
  split at he
  ·rename_i id off
   split at he
   ·rename_i T u hl
    rw[Bo] at hl
    obtain⟨hadm,he⟩:=A4.1 he
    obtain⟨p,hp1,hp2⟩:=AsC.1 hadm
    simp only[Aav,As9] at hp2
    obtain⟨⟨hT,hk⟩,ho⟩:=hp2
    have hmem:(T,(cells u).length,off)∈adm:=by
     grind
    have hid:Lt n id:=(hs _ _ hl).1
    have hund:∀{μ:Id->Option Value} {H:Addr->Option Value},Ap μ H (.tup []) (.tuple #[]):=.tup [] [] rfl (fun k c v hk=>by simp at hk)
    split at he
    ·rename_i hc
     split at he
     ·rename_i u' hset
      cases he
      obtain⟨hl1,hfit,hcells⟩:=FY hset
      have hoff:off<(cells u).length:=by omega
      have hin:Iz (Lt n) (.tbox T u'):=.tbox _ _ (KO hset (hs _ _ hl).2.tbox_inv (.ref _ _ hid))
      refine⟨fun _=>hcal,AbG _,.tup _ (fun _ h=>by cases h),by rw[KB];exact hs.upd hl hin,?_⟩
      intro w μ H vals hp hargs
      obtain⟨x,rfl,hx⟩:=hargs.one_
      obtain⟨bk,hm,rfl⟩:=hx.ref_inv
      obtain⟨bk',cv,hm',hB,hg,hrel⟩:=hp.ents _ _ hl
      rw[hm] at hm'
      cases hm'
      obtain⟨x0,hx0,hr0⟩:=hrel.toVRels.get hc
      rw[hr0.np_inv'] at hx0
      have hlen:(cells u).length=cv.size:=by rw[hrel.len];simp
      have hk0:off<cv.size:=by omega
      have hcv:cv[off]=.pointer none:=by
       grind
      rw[Cg hy]
      refine AqY (fresh T _ off hmem bk w (by simp[World.cell?,hg,hk0,hcv]) (by simp[World.shape?,hg,hlen]) (by simp[World.frozen?,hg]) hoff) ?_
      rintro e w' ⟨rfl,rfl⟩
      have hset':w.setCell ⟨bk,off,none⟩ (.pointer (some ⟨bk,off,none⟩))=w.setRow bk (cv.setIfInBounds off (.pointer (some ⟨bk,off,none⟩))):=setCell_eq_setRow w bk off cv T (0,0) _ hg
      rw[hset']
      have hrel':AG μ H (cells u') (cv.setIfInBounds off (.pointer (some ⟨bk,off,none⟩))).toList:=by
       have h1:AG μ H (cells (V.ref id off)) [.pointer (some ⟨bk,off,none⟩)]:=⟨VRels.nil_.cons (.ref id off bk hm),fun v hv=>by simp at hv;subst hv;rfl⟩
       have:=Da hrel h1 off (off+1)
       rw[hcells,AtI,Atx,if_pos (by simpa using hk0)]
       simpa using this
      have hnew:=hp.set_ (e:=.tbox T u') hl ((AJ.setRow w bk _).to (fun k hk=>by subst hk;simp[hm,BI])) ⟨bk,_,hm,hB,setRow_heap w bk cv _ T (0,0) hg,hrel'⟩
      rw[KB]
      grind
     ·cases he
    ·rename_i id' off' hc
     obtain⟨hq,he2⟩:=A4.1 he
     clear he
     simp only[Aav,As9] at hq
     obtain⟨hq1,rfl⟩:=hq
     obtain rfl:=Ep.1 hq1
     cases he2
     refine⟨fun _=>hcal,AbG _,.tup _ (fun _ h=>by cases h),hs,?_⟩
     intro w μ H vals hp hargs
     obtain⟨x,rfl,hx⟩:=hargs.one_
     obtain⟨bk,hm,rfl⟩:=hx.ref_inv
     obtain⟨bk',cv,hm',hB,hg,hrel⟩:=hp.ents _ _ hl
     rw[hm] at hm'
     cases hm'
     obtain⟨x0,hx0,hr0⟩:=hrel.toVRels.get hc
     obtain⟨bk2,hm2,rfl⟩:=hr0.ref_inv
     rw[hm] at hm2
     cases hm2
     have hk0:off<cv.size:=by
      grind
     have hcv:cv[off]=.pointer (some ⟨bk,off,none⟩):=by
      grind
     rw[Cg hy]
     refine AqY (used bk off w (by simp[World.cell?,hg,hk0,hcv])) ?_
     rintro e w' ⟨rfl,rfl⟩
     exact⟨_,μ,H,rfl,hund,hp,Fr.refl _ _ _ _,fun _ _ h=>h⟩
    ·cases he
   ·cases he
  ·cases he
def VN(v:V):Option UInt8:=
 match v with
 | .i .u8 (.ofNat n)=>bif Nat.blt n 256 then some (UInt8.ofNat n) else none
 | _=>none
noncomputable def SA(es:List V):Option (List UInt8):=List.rec (motive:=fun _=>Option (List UInt8)) (some []) (fun v _ ih=>match VN v with
 | some c=>match ih with
  | some l=>some (c::l)
  | none=>none
 | none=>none) es
theorem mM{v:V}{c:UInt8}(h:VN v=some c):v=.i .u8 c.toNat:=by
 unfold VN at h
 split at h
 ·rename_i n
  cases hb:Nat.blt n 256 with
  | false=>rw[hb] at h;cases h
  | true=>
   rw[hb] at h
   cases h
   have:n<256:=by simpa using hb
   have h2:(UInt8.ofNat n).toNat=n:=by simp;omega
   rw[h2];rfl
 ·cases h
theorem Nd:∀{es:List V} {l:List UInt8},SA es=some l->es=Ax l
 | [],l,h=>by cases h;rfl
 | v::es,l,h=>by
  have h':(match VN v with
   | some c=>match SA es with
    | some l=>some (c::l)
    | none=>none
   | none=>none)=some l:=h
  split at h'
  ·rename_i c hc
   split at h'
   ·rename_i l' hl
    cases h'
    rw[Nd hl,mM hc]
    rfl
   ·cases h'
  ·cases h'
theorem Iq{μ:Id->Option Value}{H:Addr->Option Value}:∀{l:List UInt8} {vals:List Value},AG μ H (AF (Ax l)) vals->vals=Lib.byteCells l
 | [],vals,hr=>by
  have:=hr.len
  simp only[Ax,AkV,AF,List.flatMap_nil,Aiy] at this
  exact Apu this.symm
 | c::l,vals,hr=>by
  have hlen:=hr.len
  have hf:AF (Ax (c::l))=V.i .u8 c.toNat::AF (Ax l):=rfl
  rw[hf] at hr hlen
  cases vals with
  | nil=>simp at hlen
  | cons x xs=>
   have h0:=hr.at_ 0 _ x rfl rfl
   have h1:AG μ H (AF (Ax l)) xs:=⟨⟨by simpa using hlen,fun k c v hk hv=>hr.at_ (k+1) c v (by simpa using hk) (by simpa using hv)⟩,fun v hv=>hr.one v (by simp[hv])⟩
   rw[Iq h1,h0.i_inv]
   rfl
noncomputable def yH(l:List UInt8)(σ:Ak)(n:Nat):Option (V×Ak×Nat):=chk (Nat.ble l.length A9) (Pc true (.s l) fun v=>some (v,σ,n))
noncomputable def vQ(f0:FuncId)(e:TypeId):AO:=fun f args σ n=>bif Nat.beq f f0 then(match args with
 | [.ref id off]=>match Gz σ id with
  | some (.tbox T u)=>match(cells u)[Nat.succ off]? with
   | some .nil=>yH [] σ n
   | some (.arr bid)=>match Gz σ bid with
    | some (.arr e' sz es)=>chk (Nat.beq e' e&&Nat.beq sz 1) (match SA es with
     | some l=>yH l (X3 σ bid) n
     | none=>none)
    | _=>none
   | _=>none
  | _=>none
 | _=>none) else none
theorem wU{f0:FuncId}{e:TypeId}(hcal:callable P f0=true)
  (hrun:∀(b off:Nat) (l:List UInt8) (v:Value) (B:Nat) (w:World),w.cell? ⟨b,Nat.succ off,none⟩=some v->w.ownsRow B e 1 v l.length (Lib.byteCells l)->
   Calls P f0 #[.pointer (some ⟨b,off,none⟩)] w fun e w'=>e=.returned (.string ⟨l.toArray⟩)/\w.grownBy w' v.ownBlock)(hy:f0≠Hl:=by decide):AU P W0 (vQ f0 e):=by
 intro f args σ n v σ' n' he ha hs
 unfold vQ at he
 cases hb:Nat.beq f f0 with
 | false=>rw[hb] at he;cases he
 | true=>
  rw[hb] at he
  obtain rfl:=ApD hb
  simp only[cond_true] at he
  have cell:∀{id off T u x w} {μ:Id->Option Value} {H:Addr->Option Value} {vals:List Value},lk σ id=some (.tbox T u)->(cells u)[Nat.succ off]?=some x->Hp W0 σ n μ H w->VRels μ H [.ref id off] vals->
    ∃bk val,vals=[.pointer (some ⟨bk,off,none⟩)]/\w.cell? ⟨bk,Nat.succ off,none⟩=some val/\Ap μ H x val:=by
   intro id off T u x w μ H vals hl hc hp hargs
   obtain⟨y,rfl,hy⟩:=hargs.one_
   obtain⟨bk,hm,rfl⟩:=hy.ref_inv
   obtain⟨bk',cv,hm',hB,hg,hrel⟩:=hp.ents _ _ hl
   rw[hm] at hm'
   cases hm'
   obtain⟨x0,hx0,hr0⟩:=hrel.toVRels.get hc
   refine⟨bk,x0,rfl,?_,hr0⟩
   have hk0:=(AlY.1 hx0).1
   have hk0:Nat.succ off<cv.size:=by simpa using hk0
   rw[AsA,ApZ hk0] at hx0
   simp only[World.cell?,hg,ApZ hk0]
   exact hx0
  split at he
  ·rename_i id off
   split at he
   ·rename_i T u hl
    rw[Bo] at hl
    split at he
    ·rename_i hc
     unfold yH at he
     obtain⟨hlim,he⟩:=A4.1 he
     rw[Hj] at he
     cases he
     refine⟨fun _=>hcal,AbG _,.s _,hs,?_⟩
     intro w μ H vals hp hargs
     obtain⟨bk,val,rfl,hcell,hr⟩:=cell hl hc hp hargs
     rw[hr.nil_inv] at hcell
     rw[Cg hy]
     refine AqY (hrun bk off [] _ W0.heap.size w hcell (AtB w _ e 1)) ?_
     rintro e' w' ⟨rfl,hgr⟩
     have:=hp.lose (σ1:=σ) (R:=fun _=>False) ((AJ.of_grown hgr).to (fun k hk=>by simp[Value.ownBlock] at hk)) (fun _ h=>h.elim) (fun id e h=>⟨h,fun _ _ h=>h⟩)
     exact⟨_,μ,H,rfl,.s [] (by unfold A9;simp),this.1,this.2,fun _ _ h=>h⟩
    ·rename_i bid hc
     split at he
     ·rename_i e' sz es hlb
      rw[Bo] at hlb
      obtain⟨hq,he2⟩:=A4.1 he
      clear he
      simp only[Aav,As9] at hq
      obtain⟨rfl,rfl⟩:=hq
      split at he2
      ·rename_i l hbs
       unfold yH at he2
       obtain⟨hlim,he3⟩:=A4.1 he2
       clear he2
       rw[Hj,Pg] at he3
       cases he3
       obtain rfl:=Nd hbs
       refine⟨fun _=>hcal,AbG _,.s _,hs.del _,?_⟩
       intro w μ H vals hp hargs
       obtain⟨bk,val,rfl,hcell,hr⟩:=cell hl hc hp hargs
       obtain⟨hmb,h1c⟩:=hr.arr_inv
       obtain⟨bvals,_,hown,hlim',hsz,hrel⟩:=CO hp hlb hmb
       rw[Iq hrel,show(Ax l).length=l.length by simp[Ax]] at hown
       rw[Cg hy]
       refine AqY (hrun bk off l val W0.heap.size w hcell hown) ?_
       rintro e'' w' ⟨rfl,hgr⟩
       have hob:∀k,some k=val.ownBlock->BI (μ bid)=some k:=by
        intro k hk
        rw[hmb]
        obtain⟨A',cap',hv'⟩:=BN hown
        rw[hv'] at hk⊢
        cases A' with
        | none=>simp[Value.ownBlock] at hk
        | some A'=>simpa[Value.ownBlock,BI] using hk.symm
       have:=hp.lose (σ1:=del σ bid) (AJ.of_grown hgr) (fun k hk=>⟨bid,_,hlb,hob k hk⟩) (fun id' e' h=>by
        rw[C7] at h
        split at h
        ·cases h
        ·rename_i hne
         exact⟨h,fun b hb hb'=>hne (hp.sep _ _ _ _ b hlb h (hob b hb') hb)⟩)
       exact⟨_,μ,H,rfl,.s l (AtF hlim),this.1,this.2,fun _ _ h=>h⟩
      ·cases he2
     ·cases he
    ·cases he
   ·cases he
  ·cases he
end
section
variable{P:Program}{W0:World}{f:FuncId}{args args':List V}{σ:Ak}{n:Nat}{v:V}
def OV:V->Bool
 | .b _|.i _ _|.s _|.ni|.np|.nf|.nm=>true
 | _=>false
def On:V->Bool
 | .tup vs=>vs.all OV
 | v=>OV v
theorem Mg{μ μ2:Id->Option Value}{H H2:Addr->Option Value}{v:V}{val:Value}(h:OV v=true)(hv:Ap μ H v val):Ap μ2 H2 v val:=by
 cases hv<;>first|(cases h;done)|constructor
 assumption
theorem Sy{μ μ2:Id->Option Value}{H H2:Addr->Option Value}{v:V}{val:Value}(h:On v=true)(hv:Ap μ H v val):Ap μ2 H2 v val:=by
 cases v with
 | tup vs=>
  obtain⟨vals,rfl,hrel⟩:=hv.tup_inv
  exact .tup vs vals hrel.len fun k c x hc hx=>Mg (Aiv.1 h c (Ai1 hc)) (hrel.at_ k c x hc hx)
 | _=>exact Mg h hv
theorem Ny{S:Id->Prop}{v:V}(h:OV v=true):AW S v:=by
 cases v<;>first|(cases h;done)|constructor
theorem YP{S:Id->Prop}{v:V}(h:On v=true):AW S v:=by
 cases v with
 | tup vs=>exact .tup _ fun c hc=>Ny (Aiv.1 h c hc)
 | _=>exact Ny h
theorem SG{w:World}{μ:Id->Option Value}{H:Addr->Option Value}(hp:Hp W0 σ n μ H w){φ:Id->Option (List V)}(hφ:∀id es,φ id=some es->∃e sz,lk σ id=some (.arr e sz es)) :
  ∀id es,φ id=some es->∀val,μ id=some val->(∃A cap,val=.slice A es.length cap/\es.length<=cap/\es.length<=AM/\
   (es=[]\/∃(ad:Addr) (sz:Nat) (vals:List Value),A=some ad/\(∀e∈es,(cells e).length=sz)/\AG μ H (AF es) vals/\∀(k:Nat) (v:Value),vals[k]?=some v->Bg φ μ H w (ad.add k)=some v)):=by
 intro id es hid val hm
 obtain⟨e,sz,hl⟩:=hφ id es hid
 obtain⟨vals,_,hrow,hlim,hsz,hrel⟩:=CO hp hl hm
 rcases AtO es.length with h0|h0
 ·have:es=[]:=Apu h0
  subst this
  rcases hrow.2 with⟨rfl,_⟩|⟨g,cap,cur,rfl,_⟩
  ·grind
  grind
 ·obtain⟨g,cap,cur,rfl,hB,hg,hcs,hcap,hmax,htake⟩:=F3 hrow h0
  refine⟨_,cap,rfl,hcap,hlim,.inr ⟨⟨g,0,none⟩,sz,vals,rfl,hsz,hrel,fun k v hk=>?_⟩⟩
  have hcell:=hrow.cells (g:=g) rfl k v hk
  have hnone:H ((⟨g,0,none⟩:Addr).add k)=none:=hp.unp g ⟨id,_,hl,by simp[hm,BI]⟩ _ (by rw[Ch])
  have hex:∃id es,φ id=some es/\BI (μ id)=some ((⟨g,0,none⟩:Addr).add k).block:=⟨id,es,hid,by rw[Ch,hm];rfl⟩
  simp only[Bg,hnone]
  simp_all
theorem Fe.of_plain{φ:Id->Option (List V)}(hy:f≠Hl)(h:Am P W0 f args' [] v [])(hv:On v=true)(hs:Cc (Lt n) σ)(hφ:∀id es,φ id=some es->∃e sz,lk σ id=some (.arr e sz es))(hl:args.length=args'.length)
  (hle:∀(k:Nat) (c c':V),args[k]?=some c->args'[k]?=some c'->K6 φ c c'):Fe P W0 f args σ n v σ n where
 callable _:=h.callable
 le:=AbG _
 vin:=YP hv
 sin:=hs
 run:=by
  intro w μ H vals hp hargs
  have hmono:∀ad x,H ad=some x->Bg φ μ H w ad=some x:=by
   intro ad x hx
   simp only[Bg,hx]
  have hp0:Hp W0 [] n μ (Bg φ μ H w) w:=
   {base:=hp.base
    pins:=by
     intro ad x hx
     simp only[Bg] at hx
     split at hx
     ·rename_i y hy;rw[<-hx];exact hp.pins ad y hy
     simp_all
    ents:=fun _ _ h=>by cases h
    unp:=fun _ ⟨_,_,h,_⟩=>by cases h
    sep:=fun _ _ _ _ _ h=>by cases h
    bd:=hp.bd }
  have hargs':VRels μ (Bg φ μ H w) args' vals:=by
   refine⟨by rw[<-hl];exact hargs.len,fun k c' x hc hx=>?_⟩
   have hk:k<args.length:=by grind
   exact Ap.le hmono (SG hp hφ) (hle k _ c' (Ain hk) hc) (hargs.at_ k _ x (Ain hk) hx)
  rw[Cg hy]
  refine AqY (h.run n w μ _ vals hp0 hargs') ?_
  rintro e w' ⟨val,μ',H',n',rfl,hv',hp',hle',hf,hfresh⟩
  have hkeep:∀bk,bk<w.heap.size->w'.heap[bk]?=w.heap[bk]?:=fun bk hb=>hf.keep bk hb (fun⟨_,_,h,_⟩=>by cases h)
  exact⟨val,μ,H,rfl,Sy hv hv',⟨hp'.base,fun ad x hx=>hp'.pins ad x (hf.hp ad x (hmono ad x hx)),fun id e hl=>(hp.ents id e hl).keep (fun _ _ h=>h) (fun _ _ h=>h) (fun bk hb=>hkeep bk ((hp.ents id e hl).block hb).2),hp.unp,hp.sep,hp.bd⟩,
   ⟨fun _ _ h=>h,fun _ _ h=>h,hf.size,fun bk hb _=>hkeep bk hb,fun _ _ _=>rfl,fun bk _ ho=>ho⟩,fun _ _ h=>h⟩
noncomputable def onP(f0:FuncId)(g:List V->Option V):AO:=fun f args σ n=>bif Nat.beq f f0 then(match Li (frz σ (fun _=>true) 60) args with
 | some args'=>(match g args' with
  | some v=>Pc true v fun v=>some (v,σ,n)
  | none=>none)
 | none=>none) else none
theorem Z4{f0:FuncId}{g:List V->Option V}(h:∀args v,g args=some v->Am P W0 f0 args [] v []/\On v=true)(hy:f0≠Hl:=by decide):AU P W0 (onP f0 g):=by
 intro f args σ n v σ' n' he ha hs
 unfold onP at he
 cases hb:Nat.beq f f0 with
 | false=>rw[hb] at he;cases he
 | true=>
  rw[hb] at he
  obtain rfl:=ApD hb
  simp only[cond_true] at he
  split at he
  ·rename_i args' hm
   split at he
   ·rename_i v1 hg
    rw[Hj] at he
    cases he
    obtain⟨h1,h2⟩:=h _ _ hg
    obtain⟨h3,h4⟩:=DB hm
    refine Fe.of_plain hy (φ:=MH σ fun _=>true) h1 h2 hs (fun id es hφ=>?_) h3 fun k c c' hc hc'=>FR (h4 k c c' hc hc')
    unfold MH at hφ
    grind
   ·cases he
  ·cases he
end
end Go.Ir
end
namespace Go.Ir
open Go.Proofs Go.RowKit
theorem Uy:∃j,Tryz.prog.info? 98=some j/\j.size=2:=Adc.1 (show(Tryz.prog.info? 98).map (·.size)=some 2 by kernel_rfl)
set_option maxHeartbeats 1000000 in
set_option maxRecDepth 100000 in
theorem Nm(b off:Nat)(w:World)(h0:w.cell? ⟨b,off,none⟩=some (.pointer (some ⟨b,off,none⟩))) :
  Calls Tryz.prog 180 #[.pointer (some ⟨b,off,none⟩)] w fun e w'=>e=.returned (.tuple #[])/\w'=w:=by
 obtain⟨j,hj,_⟩:=Uy
 go_enter Tryz.func180,Tryz.ntmps180
 go_wp2
 rw[Lib.run_neq_ptr_same w _ Tryz.underlying95 hj]
 go_wp2
 go_end0
 exact⟨rfl,rfl⟩
set_option maxHeartbeats 1000000 in
set_option maxRecDepth 100000 in
theorem Ln(T k off:Nat)(hlies:liesAt Tryz.prog Tryz.prog.depth T (k / Tryz.prog.cellsOf T) off 98 1=true)(b:Nat)(w:World)(h0:w.cell? ⟨b,off,none⟩=some (.pointer none))(hsh:w.shape? b=some (T,k))(hfz:w.frozen? ⟨b,off,none⟩=false)(hoff:off<k) :
  Calls Tryz.prog 180 #[.pointer (some ⟨b,off,none⟩)] w fun e w'=>e=.returned (.tuple #[])/\w'=w.setCell ⟨b,off,none⟩ (.pointer (some ⟨b,off,none⟩)):=by
 obtain⟨j,hj,hjs⟩:=Uy
 go_enter Tryz.func180,Tryz.ntmps180
 go_wp2
 rw[Lib.run_to_unsafe w ⟨b,off,none⟩ Tryz.underlying95 Tryz.underlying315 hj (by rw[hjs];decide) hsh hoff]
 simp only[Result.andThen]
 rw[At8]
 go_wp2
 rw[run_callFunc_extern Tryz.func236 (by kernel_rfl) (by kernel_rfl) (by kernel_rfl) (e:=Extern.AbiNoEscape.same) (by kernel_rfl),Lib.run_noEscape]
 simp only[Result.andThen]
 rw[At8]
 go_wp2
 rw[Lib.run_from_unsafe w ⟨b,off,none⟩ Tryz.underlying315 Tryz.underlying95 hj hsh hlies]
 simp only[Result.andThen]
 rw[At8]
 go_wp2
 go_end0
 exact⟨rfl,rfl⟩
theorem Gk(w:World)(row:Option Nat):w.grownBy w.drew row:=⟨rfl,rfl,rfl,AbG _,fun _ _ _=>rfl⟩
theorem Pr(w:World)(g n:Nat):w.grownBy (w.freeze ⟨g,0,none⟩ n) (some g):=by
 unfold World.freeze
 split
 ·exact⟨rfl,rfl,rfl,AbG _,fun _ _ _=>rfl⟩
 ·exact⟨rfl,rfl,rfl,by simp,fun k hk hne=>by
   grind
⟩
theorem Kx{a b c:World}{row:Option Nat}(h:a.grownBy b row)(k:b.grownBy c row):a.grownBy c row:=
 ⟨k.os.trans h.os,k.tape.trans h.tape,k.output.trans h.output,Aiw h.size k.size,fun i hi hr=>(k.block i (Alg hi h.size) hr).trans (h.block i hi hr)⟩
theorem Qd(w:World)(o:Obj)(row:Option Nat):w.grownBy (w.alloc o) row:=⟨rfl,rfl,rfl,by simp,fun k hk _=>heap_alloc_old w o hk⟩
set_option maxHeartbeats 2000000 in
set_option maxRecDepth 100000 in
theorem jU(b off g cap:Nat)(l:List UInt8)(cur:Array Value)(w:World)(h0:l≠[])(c1:w.cell? ⟨b,off+1,none⟩=some (.slice (some ⟨g,0,none⟩) l.length cap))(hg:w.heap[g]?=some (.cells cur 5 (0,0)))(hcap:l.length<=cap)(hcm:cap<=maxLen)(hcs:cur.size=cap)
  (hcell:∀j x,l[j]?=some x->w.cell? ((⟨g,0,none⟩:Addr).add j)=some (.int .u8 x.toNat)) :
  Calls Tryz.prog 45 #[.pointer (some ⟨b,off,none⟩)] w fun e w'=>e=.returned (.string ⟨l.toArray⟩)/\w.grownBy w' (some g):=by
 have hl0:l.length≠0:=by simpa using h0
 have c2:w.drew.cell? ⟨b,off+1,none⟩=some (.slice (some ⟨g,0,none⟩) l.length cap):=c1
 have hSD:(Builtin.unsafeSliceData_ #[96] 158 #[.slice (some ⟨g,0,none⟩) l.length cap]).run Tryz.prog w.drew=.ok (.pointer (some ⟨g,0,none⟩)) w.drew:=
  Lib.run_unsafeSliceData_row _ _ _ _ _ _ (by omega)
 have hUS:(Builtin.unsafeString_ #[158,3] 9 #[.pointer (some ⟨g,0,none⟩),.int .i64 l.length]).run Tryz.prog w.drew=.ok (.string ⟨l.toArray⟩) (w.drew.freeze ⟨g,0,none⟩ l.length):=by
  refine Lib.run_unsafeString_row w.drew 158 3 9 5 Tryz.underlying158 (by kernel_rfl) g cur.size (by have hg':w.drew.heap[g]?=some (.cells cur 5 (0,0)):=hg;simp[World.shape?,hg']) l h0 (by omega) (by unfold maxLen at hcm;omega) ?_
  simp_all
 go_enter Tryz.func45,Tryz.ntmps45
 go_wp2
 go_region
 all_goals (go_wp2;go_ret;exact⟨rfl,Kx (Gk w _) (Pr _ _ _)⟩)
set_option maxHeartbeats 2000000 in
set_option maxRecDepth 100000 in
theorem ZS(b off:Nat)(w:World)(c1:w.cell? ⟨b,off+1,none⟩=some (.slice none 0 0)) :
  Calls Tryz.prog 45 #[.pointer (some ⟨b,off,none⟩)] w fun e w'=>e=.returned (.string ⟨#[]⟩)/\w.grownBy w' none:=by
 have hUS:∀(W:World) (q:Option Addr),(Builtin.unsafeString_ #[158,3] 9 #[.pointer q,.int .i64 0]).run Tryz.prog W=.ok (.string .empty) W:=fun W q=>Lib.run_unsafeString_none W _ _ _ q
 have c2:w.drew.cell? ⟨b,off+1,none⟩=some (.slice none 0 0):=c1
 have hSD:(Builtin.unsafeSliceData_ #[96] 158 #[.slice none 0 0]).run Tryz.prog w.drew=.ok (.pointer none) w.drew:=rfl
 go_enter Tryz.func45,Tryz.ntmps45
 go_wp2
 go_region
 all_goals (go_wp2;go_ret;exact⟨rfl,Gk w _⟩)
set_option maxHeartbeats 2000000 in
set_option maxRecDepth 100000 in
theorem Qc(b off g:Nat)(cur:Array Value)(w:World)(c1:w.cell? ⟨b,off+1,none⟩=some (.slice (some ⟨g,0,none⟩) 0 0))(hg:w.heap[g]?=some (.cells cur 5 (0,0))) :
  Calls Tryz.prog 45 #[.pointer (some ⟨b,off,none⟩)] w fun e w'=>e=.returned (.string ⟨#[]⟩)/\w.grownBy w' (some g):=by
 have hUS:∀(W:World) (q:Option Addr),(Builtin.unsafeString_ #[158,3] 9 #[.pointer q,.int .i64 0]).run Tryz.prog W=.ok (.string .empty) W:=fun W q=>Lib.run_unsafeString_none W _ _ _ q
 have c2:w.drew.cell? ⟨b,off+1,none⟩=some (.slice (some ⟨g,0,none⟩) 0 0):=c1
 have hSD:(Builtin.unsafeSliceData_ #[96] 158 #[.slice (some ⟨g,0,none⟩) 0 0]).run Tryz.prog w.drew=.ok (.pointer (some ⟨w.drew.heap.size,0,none⟩)) (w.drew.alloc (.view ⟨g,0,none⟩ 5)):=
  Lib.run_unsafeSliceData_zero w.drew _ _ 5 Tryz.underlying158 ⟨g,0,none⟩ 0 (5,cur.size) (by have hg':w.drew.heap[g]?=some (.cells cur 5 (0,0)):=hg;simp[World.shape?,hg'])
 have hlt:b<w.heap.size:=AtQ w _ c1
 have c3:(w.drew.alloc (.view ⟨g,0,none⟩ 5)).cell? ⟨b,off+1,none⟩=some (.slice (some ⟨g,0,none⟩) 0 0):=by
  rw[AtX (w:=w.drew) (heap_alloc_old w.drew _ hlt)];exact c2
 have c4:(w.alloc (.view ⟨g,0,none⟩ 5)).drew.cell? ⟨b,off+1,none⟩=some (.slice (some ⟨g,0,none⟩) 0 0):=c3
 go_enter Tryz.func45,Tryz.ntmps45
 go_wp2
 go_region
 all_goals (go_wp2;go_ret;exact⟨rfl,Kx (Gk w _) (Qd _ _ _)⟩)
set_option maxHeartbeats 2000000 in
set_option maxRecDepth 100000 in
theorem Y8(b off g cap:Nat)(w:World)(hc0:cap≠0)(c1:w.cell? ⟨b,off+1,none⟩=some (.slice (some ⟨g,0,none⟩) 0 cap)) :
  Calls Tryz.prog 45 #[.pointer (some ⟨b,off,none⟩)] w fun e w'=>e=.returned (.string ⟨#[]⟩)/\w.grownBy w' (some g):=by
 have hUS:∀(W:World) (q:Option Addr),(Builtin.unsafeString_ #[158,3] 9 #[.pointer q,.int .i64 0]).run Tryz.prog W=.ok (.string .empty) W:=fun W q=>Lib.run_unsafeString_none W _ _ _ q
 have c2:w.drew.cell? ⟨b,off+1,none⟩=some (.slice (some ⟨g,0,none⟩) 0 cap):=c1
 have hSD:(Builtin.unsafeSliceData_ #[96] 158 #[.slice (some ⟨g,0,none⟩) 0 cap]).run Tryz.prog w.drew=.ok (.pointer (some ⟨g,0,none⟩)) w.drew:=
  Lib.run_unsafeSliceData_row _ _ _ _ _ _ hc0
 clear hc0
 go_enter Tryz.func45,Tryz.ntmps45
 go_wp2
 go_region
 all_goals (go_wp2;go_ret;exact⟨rfl,Gk w _⟩)
theorem Ko(b off:Nat)(l:List UInt8)(v:Value)(B:Nat)(w:World)(c1:w.cell? ⟨b,Nat.succ off,none⟩=some v)(hown:w.ownsRow B 5 1 v l.length (Lib.byteCells l)) :
  Calls Tryz.prog 45 #[.pointer (some ⟨b,off,none⟩)] w fun e w'=>e=.returned (.string ⟨l.toArray⟩)/\w.grownBy w' v.ownBlock:=by
 have hown':=hown
 rcases hown.2 with⟨rfl,h0⟩|⟨g,cap,cur,rfl,hbg,hg,hnc,hcm,hcs,htake⟩
 ·have:l=[]:=Apu h0
  subst this
  exact ZS b off w c1
 ·by_cases h0:l=[]
  ·subst h0
   by_cases hc0:cap=0
   ·subst hc0;exact Qc b off g cur w c1 hg
   ·exact Y8 b off g cap w hc0 c1
  ·refine jU b off g cap l cur w h0 c1 hg hnc hcm (by simpa using hcs) fun j x hx=>?_
   exact hown.cells (g:=g) rfl j (.int .u8 x.toNat) (by simp[Lib.byteCells,hx])
set_option maxRecDepth 100000 in
theorem Yx(W0:World)(adm:List (TypeId×Nat×Nat))(h:∀p∈adm,liesAt Tryz.prog Tryz.prog.depth p.1 (p.2.1 / Tryz.prog.cellsOf p.1) p.2.2 98 1=true):AU Tryz.prog W0 (xN 180 adm):=by
 have hc:callable Tryz.prog 180=true:=by kernel_rfl
 refine uS hc Nm ?_
 intro T k off hm b w h0 hsh hfz hoff
 exact Ln T k off (h (T,k,off) hm) b w h0 hsh hfz hoff
set_option maxRecDepth 100000 in
theorem X6(W0:World):AU Tryz.prog W0 (vQ 45 5):=by
 have hc:callable Tryz.prog 45=true:=by kernel_rfl
 exact wU hc Ko
end Go.Ir

namespace Go.Ir
variable[F1]
def Cl(P:Program)(f:FuncId)(F:Ec):Bool:=Aw P f F.nt F.ic F.rs&&F.ic.cl
def Bw(m:Nat)(a b:FuncId->Option Ec):FuncId->Option Ec:=fun f=>bif Nat.blt f m then a f else b f
def Br(d:FuncId)(F:Ec):FuncId->Option Ec:=fun f=>bif Nat.beq f d then some F else none
theorem HM.node{P:Program}{m:Nat}{a b:FuncId->Option Ec}(ha:HM P a)(hb:HM P b):HM P (Bw m a b):=by
 intro f F h
 unfold Bw at h
 cases hc:Nat.blt f m with
 | true=>rw[hc] at h;exact ha f F h
 | false=>rw[hc] at h;exact hb f F h
theorem HM.leaf{P:Program}{d:FuncId}{F:Ec}(ht:Cl P d F=true):HM P (Br d F):=by
 intro f G h
 unfold Br at h
 cases hc:Nat.beq f d with
 | true=>
  rw[hc] at h
  cases h
  obtain rfl:=ApD hc
  unfold Cl at ht
  simpa using ht
 | false=>rw[hc] at h;cases h
def AiH(o:Option (V×Ak×Nat)):Option V:=match o with
 | some r=>some r.1
 | none=>none
theorem RF{P:Program}{W0:World}{T:FuncId->Option Ec}{B:AO}{K k:Nat}(hT:HM P T)(hB:AU P W0 B)(hP:Gw P){f:FuncId}{args:List V}{v:V}(h:AiH (LI T B K k f args [] 0)=some v)(ha:J5 0 args=true)(hv:MP 0 v=true)(hf:f≠Hl:=by decide):Am P W0 f args [] v []:=by
 cases hr:LI T B K k f args [] 0 with
 | none=>rw[hr] at h;cases h
 | some r=>rw[hr] at h;cases h;obtain⟨v,σ,n⟩:=r;exact SH hT hB hP hr ha hv hf
end Go.Ir
section
namespace Go.Ir
open Go.RowKit
variable[F1]
def iL(op:BinOp)(b:Int):Prop:=
 match op with
 | .add|.sub|.mul|.eql|.neq|.lss|.leq|.gtr|.geq=>True
 | .quo|.rem=>b≠0
 | _=>False
def kC(op:BinOp)(k:IntKind)(a b:Int):V:=
 match op with
 | .add=>.i k (k.wrap (a+b))
 | .sub=>.i k (k.wrap (a-b))
 | .mul=>.i k (k.wrap (a*b))
 | .quo=>.i k (k.wrap (a.tdiv b))
 | .rem=>.i k (a.tmod b)
 | .eql=>.b (a==b)
 | .neq=>.b (a !=b)
 | .lss=>.b (decide (a<b))
 | .leq=>.b (decide (a<=b))
 | .gtr=>.b (decide (a>b))
 | .geq=>.b (decide (a>=b))
 | _=>.any
def bB(op:BinOp)(a b:List UInt8):Prop:=
 match op with
 | .add=>a.length+b.length<=A9
 | .eql|.neq|.lss|.leq|.gtr|.geq=>True
 | _=>False
def eT(op:BinOp)(a b:List UInt8):V:=
 match op with
 | .add=>.s (a++b)
 | .eql=>.b (a==b)
 | .neq=>.b (!(a==b))
 | .lss=>.b (Op.bytesLess a b)
 | .leq=>.b (Op.bytesLess a b||a==b)
 | .gtr=>.b (!(Op.bytesLess a b||a==b))
 | .geq=>.b (!Op.bytesLess a b)
 | _=>.any
def M3(op:BinOp):V->V->Prop
 | .i k _,.i k' b=>k=k'/\iL op b
 | .s a,.s b=>bB op a b
 | _,_=>False
def Rs(op:BinOp):V->V->V
 | .i k a,.i _ b=>kC op k a b
 | .s a,.s b=>eT op a b
 | _,_=>.any
theorem eJ{op:BinOp}{k:IntKind}{a b:Int}{v:V}:PW op k a b v↔iL op b/\v=kC op k a b:=by
 cases op<;>simp[PW,iL,kC]
theorem cP{op:BinOp}{a b:List UInt8}{v:V}:Rj op a b v↔bB op a b/\v=eT op a b:=by
 cases op<;>simp[Rj,bB,eT]
theorem qP{op:BinOp}{x y v:V}:OE op x y v↔M3 op x y/\v=Rs op x y:=by
 unfold OE
 split
 ·simp only[M3,Rs,eJ,and_assoc]
 ·simp only[M3,Rs,cP]
 ·rename_i h1 h2
  have:¬M3 op x y:=by
   unfold M3
   grind
  simp[this]
def RK:V->Prop|.b _=>True|_=>False
def Mz:V->Bool|.b t=>t|_=>false
theorem Vo{v:V}{Q:Bool->Prop}:(∃t,v=.b t/\Q t)↔RK v/\Q (Mz v):=by
 cases v<;>simp[RK,Mz]
def isI:V->Prop|.i _ _=>True|_=>False
def toI:V->Int|.i _ n=>n|_=>0
def kiI:V->IntKind|.i k _=>k|_=>.i64
def isS:V->Prop|.s _=>True|_=>False
def toS:V->List UInt8|.s l=>l|_=>[]
def Tv:V->Prop|.ref _ _|.aref _ _ _ _|.ep _ _=>True|_=>False
def HP:V->Nat->V
 | .ref id o,n=>.ref id (o+n)
 | .aref id ix sz o,n=>.aref id ix sz (o+n)
 | .ep e o,n=>.ep e (o+n)
 | v,_=>v
def Ef(σ:Ak)(sz:Nat):V->V->Option V
 | .sl es,.i _ n=>if 0<=n then(es[n.toNat]?).bind fun el=>if(cells el).length=sz then some (.ep el 0) else none else none
 | .arr id,.i _ n=>if 0<=n then(match lk σ id with|some (.arr _ sz' es)=>if sz'=sz/\n.toNat<es.length then some (.aref id n.toNat sz 0) else none|_=>none) else none
 | _,_=>none
def F4(σ:Ak)(n:Nat)(ag:Bool):V->Option V
 | .ref id off=>match lk σ id with|some (.box u)=>sub u off n ag|some (.tbox _ u)=>sub u off n ag|_=>none
 | .aref id ix sz off=>match lk σ id with|some (.arr _ sz' es)=>if sz'=sz then(es[ix]?).bind fun el=>sub el off n ag else none|_=>none
 | .ep u off=>sub u off n ag
 | _=>none
def Ft(σ:Ak)(n:Nat)(x:V):V->Option Ak
 | .ref id off=>match lk σ id with|some (.box u)=>(De u off n x).map fun u'=>upd σ id (.box u')|some (.tbox t u)=>(De u off n x).map fun u'=>upd σ id (.tbox t u')|_=>none
 | .aref id ix sz off=>match lk σ id with|some (.arr e sz' es)=>if sz'=sz then(es[ix]?).bind fun el=>(De el off n x).map fun el'=>upd σ id (.arr e sz (es.set ix el')) else none|_=>none
 | _=>none
def NX:V->V->Option V
 | .s l,.i _ n=>if 0<=n then(l[n.toNat]?).map fun c=>.i .u8 c.toNat else none
 | _,_=>none
section
variable{P:Program}{W0:World}{ep:Nat}{l:List I}{env:AD}{σ:Ak}{K:AD→Ak→Prop}
theorem Ct{d:Option Nat}{op:AE}:Av P W0 ep (⟨d,op,none,[]⟩::l) env σ K↔∃v σ',E P W0 ep d op (get env) σ v σ'/\Av P W0 ep l (put env d v) σ' K:=by
 simp[Av,Cp,EA,Zd,Jy]
theorem Apk{d:Option Nat}{op:AE}{x:X}{ap:List X}(hc:op.cl=false):Av P W0 ep (⟨d,op,none,x::ap⟩::l) env σ K↔Zd ⟨d,op,none,x::ap⟩ (get env)/\Av P W0 ep (⟨d,op,none,[]⟩::l) env σ K:=by
 simp only[Av,Cp,EA]
 constructor
 ·rintro⟨v,σ',⟨h1,h2,_⟩,h3⟩;exact⟨h2,v,σ',⟨h1,fun x hx=>(by cases hx),fun _ x hx=>(by cases hx)⟩,h3⟩
 ·rintro⟨h2,v,σ',⟨h1,_⟩,h3⟩;exact⟨v,σ',⟨h1,h2,fun h=>by rw[hc] at h;cases h⟩,h3⟩
def HZ(want:Bool)(v:V)(x y:Prop):Prop:=
 match v with
 | .b t=>(t=want->x)/\(t≠want->y)
 | .tup []=>y
 | _=>False
theorem Ih{d:Option Nat}{op:AE}{C:Prop}{val:V}{τ:Ak}(h:∀v σ',E P W0 ep d op (get env) σ v σ'↔C/\v=val/\σ'=τ) :
  Av P W0 ep (⟨d,op,none,[]⟩::l) env σ K↔C/\Av P W0 ep l (put env d val) τ K:=by
 rw[Ct]
 grind
theorem Ke{d:Option Nat}{op:AE}{C:Prop}{o:Option V}(h:∀v σ',E P W0 ep d op (get env) σ v σ'↔C/\o=some v/\σ'=σ) :
  Av P W0 ep (⟨d,op,none,[]⟩::l) env σ K↔C/\o.isSome=true/\Av P W0 ep l (put env d (o.getD .any)) σ K:=by
 rw[Ct]
 constructor
 ·grind
 ·rintro⟨hc,ho,h2⟩
  cases o with
  | none=>cases ho
  | some v=>grind
variable{d:Nat}
theorem AoP{x:X}:Av P W0 ep (⟨some d,.mv x,none,[]⟩::l) env σ K↔Av P W0 ep l ((d,ev (get env) x)::env) σ K:=
 (Ih (C:=True) (val:=ev (get env) x) (τ:=σ) fun v σ'=>by simp[E]).trans (by simp[put])
theorem AdD{c a b:X}:Av P W0 ep (⟨some d,.pick c a b,none,[]⟩::l) env σ K↔RK (ev (get env) c)/\Av P W0 ep l ((d,bif Mz (ev (get env) c) then ev (get env) a else ev (get env) b)::env) σ K:=
 Ih fun v σ'=>by simp only[E];exact Vo
theorem Ame{op:BinOp}{x y:X}:Av P W0 ep (⟨some d,.bin op x y,none,[]⟩::l) env σ K↔M3 op (ev (get env) x) (ev (get env) y)/\Av P W0 ep l ((d,Rs op (ev (get env) x) (ev (get env) y))::env) σ K:=
 Ih fun v σ'=>by simp only[E,qP,and_assoc]
theorem AkS{ne:Bool}{x y:X}:Av P W0 ep (⟨some d,.eqb ne x y,none,[]⟩::l) env σ K↔(RK (ev (get env) x)/\RK (ev (get env) y))/\Av P W0 ep l ((d,.b (if ne then !(Mz (ev (get env) x)==Mz (ev (get env) y)) else Mz (ev (get env) x)==Mz (ev (get env) y)))::env) σ K:=
 Ih fun v σ'=>by
  simp only[E]
  cases ev (get env) x<;>cases ev (get env) y<;>simp[RK,Mz]
theorem Ajj{x:X}:Av P W0 ep (⟨some d,.not x,none,[]⟩::l) env σ K↔RK (ev (get env) x)/\Av P W0 ep l ((d,.b (!(Mz (ev (get env) x))))::env) σ K:=
 Ih fun v σ'=>by simp only[E];exact Vo
theorem Ak2{k:IntKind}{x:X}:Av P W0 ep (⟨some d,.cvi k x,none,[]⟩::l) env σ K↔isI (ev (get env) x)/\Av P W0 ep l ((d,.i k (k.wrap (toI (ev (get env) x))))::env) σ K:=
 Ih fun v σ'=>by
  simp only[E]
  cases ev (get env) x<;>(try (simp[isI,toI];done))
  rename_i k' n
  simp only[isI,toI,true_and]
  grind
theorem xW{x:X}{off:Nat}:Av P W0 ep (⟨some d,.faddr x off,none,[]⟩::l) env σ K↔Tv (ev (get env) x)/\Av P W0 ep l ((d,HP (ev (get env) x) off)::env) σ K:=
 Ih fun v σ'=>by
  simp only[E]
  cases ev (get env) x<;>simp[Tv,HP]
theorem Aa9{x i:X}{e sz:Nat}:Av P W0 ep (⟨some d,.iaddr x i e sz,none,[]⟩::l) env σ K↔True/\(Ef σ sz (ev (get env) x) (ev (get env) i)).isSome=true/\Av P W0 ep l ((d,(Ef σ sz (ev (get env) x) (ev (get env) i)).getD .any)::env) σ K:=
 Ke fun v σ'=>by
  simp only[E,true_and]
  cases hi:ev (get env) i<;>(try (cases ev (get env) x<;>simp[Ef];done))
  rename_i k n
  cases hx:ev (get env) x<;>(try (simp[Ef];done))
  ·rename_i es
   simp only[Ef]
   grind
  ·rename_i id
   simp only[Ef]
   grind
theorem Akv{x i:X}:Av P W0 ep (⟨some d,.idx x i,none,[]⟩::l) env σ K↔True/\(NX (ev (get env) x) (ev (get env) i)).isSome=true/\Av P W0 ep l ((d,(NX (ev (get env) x) (ev (get env) i)).getD .any)::env) σ K:=
 Ke fun v σ'=>by
  simp only[E,true_and]
  cases hi:ev (get env) i<;>(try (cases ev (get env) x<;>simp[NX];done))
  rename_i k n
  cases hx:ev (get env) x<;>(try (simp[NX];done))
  rename_i l
  simp only[NX]
  grind
theorem AfU{x:X}{n:Nat}{ag:Bool}:Av P W0 ep (⟨some d,.load x n ag,none,[]⟩::l) env σ K↔True/\(F4 σ n ag (ev (get env) x)).isSome=true/\Av P W0 ep l ((d,(F4 σ n ag (ev (get env) x)).getD .any)::env) σ K:=
 Ke fun v σ'=>by
  simp only[E,true_and]
  cases hx:ev (get env) x<;>(try (simp[F4];done))
  ·rename_i id off
   simp only[F4]
   cases hl:lk σ id with
   | none=>simp
   | some en=>cases en<;>simp[ldB]
  ·rename_i id ix sz off
   simp only[F4]
   grind
end
end Go.Ir
end
section
namespace Go.Ir
open Go.RowKit
variable[F1]
def G9(sz:Nat):List V->Prop
 | []=>True
 | x::xs=>(x.ok=true/\(cells x).length=sz)/\G9 sz xs
theorem JG{sz:Nat}:∀{xs:List V},(∀x∈xs,x.ok=true/\(cells x).length=sz)↔G9 sz xs
 | []=>by simp[G9]
 | x::xs=>by simp[G9,JG (xs:=xs)]
def XB(g:Nat->V):List (Nat×Nat×X)->Prop
 | []=>True
 | p::ps=>(ev g p.2.2).ok=true/\XB g ps
theorem Rt{g:Nat->V}:∀{ps:List (Nat×Nat×X)},(∀p∈ps,(ev g p.2.2).ok=true)↔XB g ps
 | []=>by simp[XB]
 | p::ps=>by
  have:=Rt (g:=g) (ps:=ps)
  simp only[XB,Ao9,forall_eq_or_imp,this]
def JZ(g:Nat->V)(lo hi:Option X):V->Option V
 | .s l=>(Fs g 0 lo).bind fun a=>(Fs g l.length hi).bind fun b=>if a<=b/\b<=l.length then some (.s ((l.take b).drop a)) else none
 | _=>none
def G1(g:Nat->V)(lo hi:Option X)(es:List V):Option V:=
 (Fs g 0 lo).bind fun a=>(Fs g es.length hi).bind fun b=>if a<=b/\b<=es.length then some (.sl ((es.take b).drop a)) else none
def isL(sz:Nat):V->Prop
 | .sl es=>∀y∈es,(cells y).length=sz
 | .nil=>True
 | _=>False
def toL:V->List V
 | .sl es=>es
 | _=>[]
def Mh(σ:Ak)(id:Id)(e sz:Nat)(xs:List V):V->Option Ak
 | .nil=>if xs.length<=AM then some ((id,.arr e sz xs)::σ) else none
 | .arr id'=>match lk σ id' with
  | some (.arr e' sz' es)=>if e'=e/\sz'=sz/\es.length+xs.length<=AM then some ((id,.arr e sz (es++xs))::del σ id') else none
  | _=>none
 | _=>none
def TA(k:Nat):V->Option V
 | .tup vs=>vs[k]?
 | _=>none
def isN:V->Prop
 | .ref _ _|.aref _ _ _ _|.ep _ _|.fn _ _ _=>True
 | _=>False
section
variable{P:Program}{W0:World}{ep:Nat}{l:List I}{env:AD}{σ:Ak}{K:AD→Ak→Prop}
theorem Ac9{d:Option Nat}{op:AE}{C:Prop}{val:V}{o:Option Ak}(h:∀v σ',E P W0 ep d op (get env) σ v σ'↔C/\v=val/\o=some σ') :
  Av P W0 ep (⟨d,op,none,[]⟩::l) env σ K↔C/\o.isSome=true/\Av P W0 ep l (put env d val) (o.getD []) K:=by
 rw[Ct]
 constructor
 ·grind
 ·rintro⟨hc,ho,h2⟩
  cases o with
  | none=>cases ho
  | some τ=>grind
theorem zS{a x:X}{n:Nat}:Av P W0 ep (⟨none,.store a x n,none,[]⟩::l) env σ K↔(ev (get env) x).ok=true/\(Ft σ n (ev (get env) x) (ev (get env) a)).isSome=true/\Av P W0 ep l env ((Ft σ n (ev (get env) x) (ev (get env) a)).getD []) K:=
 Ac9 fun v σ'=>by
  simp only[E]
  refine and_congr_right fun _=>and_congr_right fun _=>?_
  cases ev (get env) a<;>(try (simp[Ft];done))
  ·rename_i id off
   simp only[Ft]
   cases hl:lk σ id with
   | none=>simp
   | some en=>
    cases en with
    | arr e sz es=>simp[Vv]
    | map _=>simp[Vv]
    | it _ _=>simp[Vv]
    | mit _ _ _ _=>simp[Vv]
    | loop _ _ _ _ _ _ _=>simp[Vv]
    | box u=>
     constructor
     ·rintro⟨en,en',h1,h,rfl⟩
      cases h1
      simp only[Vv] at h
      cases hs:De u off n (ev (get env) x) with
      | none=>rw[hs] at h;cases h
      | some w=>grind
     ·intro h
      cases hs:De u off n (ev (get env) x) with
      | none=>grind
      | some w=>simp only[hs] at h;cases h;exact⟨_,_,rfl,by simp only[Vv,hs];rfl,rfl⟩
    | tbox t u=>
     constructor
     ·rintro⟨en,en',h1,h,rfl⟩
      cases h1
      simp only[Vv] at h
      cases hs:De u off n (ev (get env) x) with
      | none=>rw[hs] at h;cases h
      | some w=>grind
     ·intro h
      cases hs:De u off n (ev (get env) x) with
      | none=>grind
      | some w=>simp only[hs] at h;cases h;exact⟨_,_,rfl,by simp only[Vv,hs];rfl,rfl⟩
  ·rename_i id ix sz off
   simp only[Ft]
   cases hl:lk σ id with
   | none=>simp
   | some en=>
    cases en with
    | box u=>simp
    | tbox _ _=>simp
    | map _=>simp
    | it _ _=>simp
    | mit _ _ _ _=>simp
    | loop _ _ _ _ _ _ _=>simp
    | arr e sz' es=>
     simp only[Aiq,AC.arr.injEq]
     constructor
     ·grind
     ·intro h
      split at h
      ·rename_i hsz
       subst hsz
       cases hg:es[ix]? with
       | none=>rw[hg] at h;cases h
       | some el=>
        rw[hg] at h
        simp only[Ath] at h
        cases hs:De el off n (ev (get env) x) with
        | none=>rw[hs] at h;cases h
        | some w=>grind
      ·cases h
variable{d:Nat}
theorem Aju{x:X}:Av P W0 ep (⟨some d,.box x,none,[]⟩::l) env σ K↔(ev (get env) x).ok=true/\Av P W0 ep l ((d,.ref (ep,d) 0)::env) (((ep,d),.box (ev (get env) x))::σ) K:=
 Ih fun v σ'=>by
  simp only[E,Aiq]
  grind
theorem zK{z:V}:Av P W0 ep (⟨some d,.alloc z,none,[]⟩::l) env σ K↔True/\Av P W0 ep l ((d,.ref (ep,d) 0)::env) (((ep,d),.box z)::σ) K:=
 Ih fun v σ'=>by
  simp only[E,Aiq,true_and]
  grind
theorem Aak{z:List V}{ps:List (Nat×Nat×X)}:Av P W0 ep (⟨some d,.build z ps,none,[]⟩::l) env σ K↔XB (get env) ps/\(((El z (ps.map fun p=>(p.1,p.2.1,ev (get env) p.2.2))).map V.agg).isSome=true)/\Av P W0 ep l ((d,((El z (ps.map fun p=>(p.1,p.2.1,ev (get env) p.2.2))).map V.agg).getD .any)::env) σ K:=
 Ke fun v σ'=>by
  simp only[E,Rt]
  refine and_congr_right fun _=>and_congr_left fun _=>?_
  cases El z (ps.map fun p=>(p.1,p.2.1,ev (get env) p.2.2)) with
  | none=>simp
  | some cs=>simp[eq_comm]
theorem Aej{e sz:Nat}{xs:List X}:Av P W0 ep (⟨some d,.msl true e sz xs,none,[]⟩::l) env σ K↔G9 sz (xs.map (ev (get env)))/\Av P W0 ep l ((d,.arr (ep,d))::env) (((ep,d),.arr e sz (xs.map (ev (get env))))::σ) K:=
 Ih fun v σ'=>by
  simp only[E,JG,if_true,Aiq]
  grind
theorem Adx{e sz:Nat}{xs:List X}:Av P W0 ep (⟨some d,.msl false e sz xs,none,[]⟩::l) env σ K↔G9 sz (xs.map (ev (get env)))/\Av P W0 ep l ((d,.sl (xs.map (ev (get env))))::env) σ K:=
 Ih fun v σ'=>by simp only[E,JG,AcL,if_false]
theorem Aln{x:X}{lo hi:Option X}:Av P W0 ep (⟨some d,.slS x lo hi,none,[]⟩::l) env σ K↔True/\(JZ (get env) lo hi (ev (get env) x)).isSome=true/\Av P W0 ep l ((d,(JZ (get env) lo hi (ev (get env) x)).getD .any)::env) σ K:=
 Ke fun v σ'=>by
  simp only[E,true_and]
  constructor
  ·rintro⟨l,a,b,h1,h2,h3,h4,h5,rfl,rfl⟩
   simp[JZ,h1,h2,h3,h4,h5]
  ·rintro⟨h,rfl⟩
   cases hx:ev (get env) x<;>rw[hx] at h<;>simp only[JZ] at h<;>(try (cases h;done))
   rename_i l
   cases h1:Fs (get env) 0 lo with
   | none=>rw[h1] at h;cases h
   | some a=>
    cases h2:Fs (get env) l.length hi with
    | none=>rw[h1,h2] at h;cases h
    | some b=>
     simp_all
theorem AmB{x:X}{lo hi:Option X}{sz:Nat}:Av P W0 ep (⟨some d,.slL x lo hi sz,none,[]⟩::l) env σ K↔isL sz (ev (get env) x)/\(G1 (get env) lo hi (toL (ev (get env) x))).isSome=true/\Av P W0 ep l ((d,(G1 (get env) lo hi (toL (ev (get env) x))).getD .any)::env) σ K:=
 Ke fun v σ'=>by
  simp only[E]
  constructor
  ·rintro⟨es,a,b,h1,h2,h3,h4,h5,h6,rfl,rfl⟩
   rcases h1 with h1|⟨h1,rfl⟩
   ·rw[h1];exact⟨h6,by simp[G1,toL,h2,h3,h4,h5],rfl⟩
   ·rw[h1];exact⟨trivial,(by simp only[G1,h2,h3,Ath];exact if_pos ⟨h4,h5⟩:G1 (get env) lo hi []=_),rfl⟩
  ·rintro⟨hL,h,rfl⟩
   have go:∀es:List V,(ev (get env) x=.sl es\/ev (get env) x=.nil/\es=[])->G1 (get env) lo hi es=some v->(∀y∈es,(cells y).length=sz)->∃es a b,(ev (get env) x=.sl es\/ev (get env) x=.nil/\es=[])/\Fs (get env) 0 lo=some a/\Fs (get env) es.length hi=some b/\a<=b/\b<=es.length/\(∀y∈es,(cells y).length=sz)/\v=.sl ((es.take b).drop a)/\σ'=σ':=by
    intro es hes h hsz
    unfold G1 at h
    cases h1:Fs (get env) 0 lo with
    | none=>rw[h1] at h;cases h
    | some a=>
     cases h2:Fs (get env) es.length hi with
     | none=>rw[h1,h2] at h;cases h
     | some b=>
      simp only[h1,h2,Ath] at h
      split at h
      ·grind
      ·cases h
   cases hx:ev (get env) x<;>rw[hx] at hL h<;>simp only[isL] at hL
   ·have:=go [] (.inr ⟨hx,rfl⟩) h (by simp)
    rw[hx] at this;exact this
   ·rename_i es
    have:=go es (.inl hx) h hL
    rw[hx] at this;exact this
theorem Aeu{x:X}:Av P W0 ep (⟨some d,.lenS x,none,[]⟩::l) env σ K↔isS (ev (get env) x)/\Av P W0 ep l ((d,.i .i64 ((toS (ev (get env) x)).length:Nat))::env) σ K:=
 Ih fun v σ'=>by
  simp only[E]
  cases ev (get env) x<;>simp[isS,toS]
theorem Aex{x:X}:Av P W0 ep (⟨some d,.lenL x,none,[]⟩::l) env σ K↔(Az σ (ev (get env) x)).isSome=true/\Av P W0 ep l ((d,.i .i64 (((Az σ (ev (get env) x)).getD []).length:Nat))::env) σ K:=
 Ih fun v σ'=>by
  simp only[E]
  cases Az σ (ev (get env) x)<;>simp
theorem AkJ{s x:X}{e sz:Nat}:Av P W0 ep (⟨some d,.app s x e sz,none,[]⟩::l) env σ K↔((Az σ (ev (get env) x)).isSome=true/\∀y∈(Az σ (ev (get env) x)).getD [],(cells y).length=sz)/\(Mh σ (ep,d) e sz ((Az σ (ev (get env) x)).getD []) (ev (get env) s)).isSome=true/\Av P W0 ep l ((d,.arr (ep,d))::env) ((Mh σ (ep,d) e sz ((Az σ (ev (get env) x)).getD []) (ev (get env) s)).getD []) K:=
 Ac9 fun v σ'=>by
  simp only[E,Aiq]
  cases Az σ (ev (get env) x) with
  | none=>simp
  | some xs=>
   simp only[Aiq,AoA,AoL,true_and]
   constructor
   ·rintro⟨dd,xs',rfl,rfl,h3,rfl,h5⟩
    refine⟨h3,rfl,?_⟩
    cases hs:ev (get env) s<;>rw[hs] at h5<;>simp only at h5<;>(try (exact h5.elim))
    ·simp[Mh,h5]
    ·obtain⟨es,h6,h7,rfl⟩:=h5;simp[Mh,h6,h7]
   ·rintro⟨h3,rfl,h5⟩
    refine⟨d,xs,rfl,rfl,h3,rfl,?_⟩
    cases hs:ev (get env) s<;>rw[hs] at h5<;>simp only[Mh] at h5<;>(try (cases h5;done))
    ·grind
    grind
theorem Ajy{x:X}{k:Nat}:Av P W0 ep (⟨some d,.ext x k,none,[]⟩::l) env σ K↔True/\(TA k (ev (get env) x)).isSome=true/\Av P W0 ep l ((d,(TA k (ev (get env) x)).getD .any)::env) σ K:=
 Ke fun v σ'=>by
  simp only[E]
  cases ev (get env) x<;>simp[TA]
theorem Ag6{f:FuncId}{first caps:List X}:Av P W0 ep (⟨some d,.mkfn f first caps,none,[]⟩::l) env σ K↔True/\Av P W0 ep l ((d,.fn f (first.map (ev (get env))) (caps.map (ev (get env))))::env) σ K:=
 Ih fun v σ'=>by simp[E]
theorem Ap1{lo:Bool}{x:X}{xs:List X}:Av P W0 ep (⟨some d,.mx lo x xs,none,[]⟩::l) env σ K↔True/\(OO lo (ev (get env) x) (xs.map (ev (get env)))).isSome=true/\Av P W0 ep l ((d,(OO lo (ev (get env) x) (xs.map (ev (get env)))).getD .any)::env) σ K:=
 Ke fun v σ'=>by simp[E]
theorem zU{x:X}:Av P W0 ep (⟨some d,.nilck x,none,[]⟩::l) env σ K↔isN (ev (get env) x)/\Av P W0 ep l ((d,ev (get env) x)::env) σ K:=
 Ih fun v σ'=>Iff.rfl
end
theorem wrap64{n:Int}(h1:-9223372036854775808<=n)(h2:n<9223372036854775808):IntKind.i64.wrap n=n:=by
 simp only[IntKind.wrap,IntKind.bits,IntKind.signed] at *
 simp
 omega
theorem zQ{lo:Bool}{v:V}:OO lo v []=some v:=by cases v<;>rfl
theorem AlS{lo:Bool}{k:IntKind}{a b:Int}{r:List V}:OO lo (.i k a) (.i k b::r)=OO lo (.i k (if lo=true then min a b else max a b)) r:=by
 simp[OO]
end Go.Ir
end
namespace Go.Ir
open Go.RowKit
variable[F1]
def SP(o:Option AC)(id:Id)(sz:Nat)(n:Int):Option V:=
 match o with|some (.arr _ sz' es)=>if sz'=sz/\n.toNat<es.length then some (.aref id n.toNat sz 0) else none|_=>none
def TF(en:Option AC)(off n:Nat)(ag:Bool):Option V:=match en with|some (.box u)=>sub u off n ag|some (.tbox _ u)=>sub u off n ag|_=>none
def dW(en:Option AC)(ix sz off n:Nat)(ag:Bool):Option V:=match en with|some (.arr _ sz' es)=>if sz'=sz then(es[ix]?).bind fun el=>sub el off n ag else none|_=>none
def OA(en:Option AC)(σ:Ak)(n:Nat)(x:V)(id:Id)(off:Nat):Option Ak:=match en with|some (.box u)=>(De u off n x).map fun u'=>upd σ id (.box u')|some (.tbox t u)=>(De u off n x).map fun u'=>upd σ id (.tbox t u')|_=>none
def Aea(en:Option AC)(σ:Ak)(n:Nat)(x:V)(id:Id)(ix sz off:Nat):Option Ak:=match en with|some (.arr e sz' es)=>if sz'=sz then(es[ix]?).bind fun el=>(De el off n x).map fun el'=>upd σ id (.arr e sz (es.set ix el')) else none|_=>none
def Ad4(en:Option AC)(σ:Ak)(id id':Id)(e sz:Nat)(xs:List V):Option Ak:=match en with|some (.arr e' sz' es)=>if e'=e/\sz'=sz/\es.length+xs.length<=AM then some ((id,.arr e sz (es++xs))::del σ id') else none|_=>none
def Tb:Option AC->Option (List V)|some (.arr _ _ es)=>some es|_=>none
def xC:V->Option Nat|.i _ n=>if 0<=n then some n.toNat else none|_=>none
theorem Aai{x:Bool}:cells (.b x)=[(.b x)]:=rfl
theorem Ao7{x:Bool}:V.ok (.b x)=true:=rfl
theorem Aam{k:IntKind}{n:Int}:cells (.i k n)=[(.i k n)]:=rfl
theorem Aph{k:IntKind}{n:Int}:V.ok (.i k n)=true:=rfl
theorem yL{l:List UInt8}:cells (.s l)=[(.s l)]:=rfl
theorem Aqb{l:List UInt8}:V.ok (.s l)=true:=rfl
theorem Yo:cells .nil=[.nil]:=rfl
theorem Ag0:V.ok .nil=true:=rfl
theorem eV{es:List V}:cells (.sl es)=[(.sl es)]:=rfl
theorem AkX{es:List V}:V.ok (.sl es)=true:=rfl
theorem YH{cs:List V}:cells (.agg cs)=cs:=rfl
theorem Aff{cs:List V}:V.ok (.agg cs)=true:=rfl
theorem Y7{id:Id}{o:Nat}:cells (.ref id o)=[(.ref id o)]:=rfl
theorem Agu{id:Id}{o:Nat}:V.ok (.ref id o)=true:=rfl
theorem YX{id:Id}:cells (.arr id)=[(.arr id)]:=rfl
theorem Aew{id:Id}:V.ok (.arr id)=true:=rfl
theorem Tn{id:Id}{ix:Nat}{sz:Nat}{o:Nat}:cells (.aref id ix sz o)=[(.aref id ix sz o)]:=rfl
theorem vV{id:Id}{ix:Nat}{sz:Nat}{o:Nat}:V.ok (.aref id ix sz o)=true:=rfl
theorem dG{e:V}{o:Nat}:cells (.ep e o)=[(.ep e o)]:=rfl
theorem Ala{e:V}{o:Nat}:V.ok (.ep e o)=true:=rfl
theorem kQ{f:FuncId}{a:List V}{c:List V}:cells (.fn f a c)=[(.fn f a c)]:=rfl
theorem AiS{f:FuncId}{a:List V}{c:List V}:V.ok (.fn f a c)=true:=rfl
theorem mV:cells .np=[.np]:=rfl
theorem Aje:V.ok .np=true:=rfl
theorem dA:cells .nf=[.nf]:=rfl
theorem AmW:V.ok .nf=true:=rfl
theorem qJ:cells .ni=[.ni]:=rfl
theorem AiI:V.ok .ni=true:=rfl
theorem w9{cs:List V}:P0 (.agg cs)=true:=rfl
theorem Akn{x:Bool}:RK (.b x)=True:=rfl
theorem Ajz{x:Bool}:Mz (.b x)=x:=rfl
theorem AjD{k:IntKind}{n:Int}:isI (.i k n)=True:=rfl
theorem Amh{k:IntKind}{n:Int}:toI (.i k n)=n:=rfl
theorem Akr{k:IntKind}{n:Int}:kiI (.i k n)=k:=rfl
theorem AjV{l:List UInt8}:isS (.s l)=True:=rfl
theorem AmC{l:List UInt8}:toS (.s l)=l:=rfl
theorem gO{id:Id}{o:Nat}:Tv (.ref id o)=True:=rfl
theorem Tk{id:Id}{o:Nat}{m:Nat}:HP (.ref id o) m=.ref id (o+m):=rfl
theorem v7{id:Id}{o:Nat}:isN (.ref id o)=True:=rfl
theorem Xx{id:Id}{ix:Nat}{sz:Nat}{o:Nat}:Tv (.aref id ix sz o)=True:=rfl
theorem Q4{id:Id}{ix:Nat}{sz:Nat}{o:Nat}{m:Nat}:HP (.aref id ix sz o) m=.aref id ix sz (o+m):=rfl
theorem kE{id:Id}{ix:Nat}{sz:Nat}{o:Nat}:isN (.aref id ix sz o)=True:=rfl
theorem tZ{e:V}{o:Nat}:Tv (.ep e o)=True:=rfl
theorem Zw{e:V}{o:Nat}{m:Nat}:HP (.ep e o) m=.ep e (o+m):=rfl
theorem AdW{e:V}{o:Nat}:isN (.ep e o)=True:=rfl
theorem AfL{f:FuncId}{a:List V}{c:List V}:isN (.fn f a c)=True:=rfl
theorem Zn{σ:Ak}{sz:Nat}{es:List V}{k:IntKind}{n:Int}:Ef σ sz (.sl es) (.i k n)=if 0<=n then(es[n.toNat]?).bind fun el=>if(cells el).length=sz then some (.ep el 0) else none else none:=rfl
theorem SV{σ:Ak}{sz:Nat}{id:Id}{k:IntKind}{n:Int}:Ef σ sz (.arr id) (.i k n)=if 0<=n then SP (lk σ id) id sz n else none:=by unfold Ef SP;rfl
theorem RO{e sz':Nat}{es:List V}{id:Id}{sz:Nat}{n:Int}:SP (some (.arr e sz' es)) id sz n=if sz'=sz/\n.toNat<es.length then some (.aref id n.toNat sz 0) else none:=rfl
theorem Zu{σ:Ak}{n:Nat}{ag:Bool}{id:Id}{o:Nat}:F4 σ n ag (.ref id o)=TF (lk σ id) o n ag:=by unfold F4 TF;rfl
theorem Yt{u:V}{o n:Nat}{ag:Bool}:TF (some (.box u)) o n ag=sub u o n ag:=rfl
theorem Tu{t:TypeId}{u:V}{o n:Nat}{ag:Bool}:TF (some (.tbox t u)) o n ag=sub u o n ag:=rfl
theorem Tt{σ:Ak}{n:Nat}{ag:Bool}{id:Id}{ix sz o:Nat}:F4 σ n ag (.aref id ix sz o)=dW (lk σ id) ix sz o n ag:=by unfold F4 dW;rfl
theorem XZ{e sz':Nat}{es:List V}{ix sz o n:Nat}{ag:Bool}:dW (some (.arr e sz' es)) ix sz o n ag=if sz'=sz then(es[ix]?).bind fun el=>sub el o n ag else none:=rfl
theorem m8{σ:Ak}{n:Nat}{ag:Bool}{e:V}{o:Nat}:F4 σ n ag (.ep e o)=sub e o n ag:=rfl
theorem Sa{σ:Ak}{n:Nat}{x:V}{id:Id}{o:Nat}:Ft σ n x (.ref id o)=OA (lk σ id) σ n x id o:=by unfold Ft OA;rfl
theorem Sc{u:V}{σ:Ak}{n:Nat}{x:V}{id:Id}{o:Nat}:OA (some (.box u)) σ n x id o=(De u o n x).map fun u'=>upd σ id (.box u'):=rfl
theorem PT{t:TypeId}{u:V}{σ:Ak}{n:Nat}{x:V}{id:Id}{o:Nat}:OA (some (.tbox t u)) σ n x id o=(De u o n x).map fun u'=>upd σ id (.tbox t u'):=rfl
theorem T3{e sz':Nat}{es:List V}{σ:Ak}{n:Nat}{x:V}{id:Id}{ix sz o:Nat}:Aea (some (.arr e sz' es)) σ n x id ix sz o=if sz'=sz then(es[ix]?).bind fun el=>(De el o n x).map fun el'=>upd σ id (.arr e sz (es.set ix el')) else none:=rfl
theorem AdC{l:List UInt8}{k:IntKind}{n:Int}:NX (.s l) (.i k n)=if 0<=n then(l[n.toNat]?).map fun c=>.i .u8 c.toNat else none:=rfl
theorem bJ{g:Nat->V}{lo hi:Option X}{l:List UInt8}:JZ g lo hi (.s l)=(Fs g 0 lo).bind fun a=>(Fs g l.length hi).bind fun b=>if a<=b/\b<=l.length then some (.s ((l.take b).drop a)) else none:=rfl
theorem AgR{sz:Nat}{es:List V}:isL sz (.sl es)=∀y∈es,(cells y).length=sz:=rfl
theorem Aao{sz:Nat}:isL sz .nil=True:=rfl
theorem Ahx{es:List V}:toL (.sl es)=es:=rfl
theorem tW:toL .nil=[]:=rfl
theorem qD{σ:Ak}{id:Id}{e sz:Nat}{xs:List V}:Mh σ id e sz xs .nil=if xs.length<=AM then some ((id,.arr e sz xs)::σ) else none:=rfl
theorem dN{σ:Ak}{id id':Id}{e sz:Nat}{xs:List V}:Mh σ id e sz xs (.arr id')=Ad4 (lk σ id') σ id id' e sz xs:=by unfold Mh Ad4;rfl
theorem kM{e' sz':Nat}{es:List V}{σ:Ak}{id id':Id}{e sz:Nat}{xs:List V}:Ad4 (some (.arr e' sz' es)) σ id id' e sz xs=if e'=e/\sz'=sz/\es.length+xs.length<=AM then some ((id,.arr e sz (es++xs))::del σ id') else none:=rfl
theorem jX{k:Nat}{vs:List V}:TA k (.tup vs)=vs[k]?:=rfl
theorem Sq{σ:Ak}{es:List V}:Az σ (.sl es)=some es:=rfl
theorem PJ{σ:Ak}:Az σ .nil=some []:=rfl
theorem PE{σ:Ak}{id:Id}:Az σ (.arr id)=Tb (lk σ id):=by unfold Az Tb;rfl
theorem T2{e sz:Nat}{es:List V}:Tb (some (.arr e sz es))=some es:=rfl
theorem Adk{op:BinOp}{k k':IntKind}{a b:Int}:M3 op (.i k a) (.i k' b)=(k=k'/\iL op b):=rfl
theorem Af9{op:BinOp}{a b:List UInt8}:M3 op (.s a) (.s b)=bB op a b:=rfl
theorem Ady{op:BinOp}{k k':IntKind}{a b:Int}:Rs op (.i k a) (.i k' b)=kC op k a b:=rfl
theorem AhQ{op:BinOp}{a b:List UInt8}:Rs op (.s a) (.s b)=eT op a b:=rfl
theorem mB{g:Nat->V}{m:Nat}:Fs g m none=some m:=rfl
theorem R8{g:Nat->V}{m:Nat}{x:X}:Fs g m (some x)=xC (ev g x):=by unfold Fs xC;rfl
theorem AfD{k:IntKind}{n:Int}:xC (.i k n)=if 0<=n then some n.toNat else none:=rfl
end Go.Ir
section
namespace Go.Ir
open Go.RowKit
variable[F1]
def Bc(env:AD)(x:X):V:=ev (get env) x
def DI(env:AD)(xs:List X):List V:=xs.map (ev (get env))
def psE(env:AD)(ps:List (Nat×Nat×X)):List (Nat×Nat×V):=ps.map fun p=>(p.1,p.2.1,ev (get env) p.2.2)
def Qx(env:AD)(ps:List (Nat×Nat×X)):Prop:=XB (get env) ps
def To(env:AD)(m:Nat)(x:Option X):Option Nat:=Fs (get env) m x
def KL(env:AD)(lo hi:Option X)(v:V):Option V:=JZ (get env) lo hi v
def KA(env:AD)(lo hi:Option X)(es:List V):Option V:=G1 (get env) lo hi es
theorem AkU{env:AD}{s:Nat}:Bc env (.t s)=get env s:=rfl
theorem AlD{env:AD}{v:V}:Bc env (.c v)=v:=rfl
theorem zV{env:AD}:DI env []=[]:=rfl
theorem sA{env:AD}{x:X}{xs:List X}:DI env (x::xs)=Bc env x::DI env xs:=rfl
theorem Aap{env:AD}:psE env []=[]:=rfl
theorem rW{env:AD}{a b:Nat}{x:X}{ps:List (Nat×Nat×X)}:psE env ((a,b,x)::ps)=(a,b,Bc env x)::psE env ps:=rfl
theorem Yr{env:AD}:Qx env []=True:=rfl
theorem S1{env:AD}{a b:Nat}{x:X}{ps:List (Nat×Nat×X)}:Qx env ((a,b,x)::ps)=((Bc env x).ok=true/\Qx env ps):=rfl
theorem YZ{env:AD}{m:Nat}:To env m none=some m:=rfl
theorem Ye{env:AD}{m:Nat}{x:X}:To env m (some x)=xC (Bc env x):=by unfold To Bc;exact R8
theorem Xu{env:AD}{lo hi:Option X}{l:List UInt8}:KL env lo hi (.s l)=(To env 0 lo).bind fun a=>(To env l.length hi).bind fun b=>if a<=b/\b<=l.length then some (.s ((l.take b).drop a)) else none:=rfl
theorem Tr{env:AD}{lo hi:Option X}{es:List V}:KA env lo hi es=(To env 0 lo).bind fun a=>(To env es.length hi).bind fun b=>if a<=b/\b<=es.length then some (.sl ((es.take b).drop a)) else none:=rfl
theorem B6{k s:Nat}{v:V}{r:AD}:get ((k,v)::r) s=if k=s then v else get r s:=rfl
theorem yP{s:Nat}:get [] s=.any:=rfl
theorem Pw{env:AD}:restrict [] env=[]:=rfl
theorem MA{s:Nat}{l:List Nat}{env:AD}:restrict (s::l) env=(s,get env s)::restrict l env:=rfl
section
variable{P:Program}{W0:World}{ep d:Nat}{l:List I}{env:AD}{σ:Ak}{K:AD→Ak→Prop}
theorem Apy{x:X}:Av P W0 ep (⟨some d,.mv x,none,[]⟩::l) env σ K↔Av P W0 ep l ((d,Bc env x)::env) σ K:=AoP
theorem Ahc{c a b:X}:Av P W0 ep (⟨some d,.pick c a b,none,[]⟩::l) env σ K↔RK (Bc env c)/\Av P W0 ep l ((d,bif Mz (Bc env c) then Bc env a else Bc env b)::env) σ K:=AdD
theorem Akm{op:BinOp}{x y:X}:Av P W0 ep (⟨some d,.bin op x y,none,[]⟩::l) env σ K↔M3 op (Bc env x) (Bc env y)/\Av P W0 ep l ((d,Rs op (Bc env x) (Bc env y))::env) σ K:=Ame
theorem Am0{ne:Bool}{x y:X}:Av P W0 ep (⟨some d,.eqb ne x y,none,[]⟩::l) env σ K↔(RK (Bc env x)/\RK (Bc env y))/\Av P W0 ep l ((d,.b (if ne then !(Mz (Bc env x)==Mz (Bc env y)) else Mz (Bc env x)==Mz (Bc env y)))::env) σ K:=AkS
theorem Alf{x:X}:Av P W0 ep (⟨some d,.not x,none,[]⟩::l) env σ K↔RK (Bc env x)/\Av P W0 ep l ((d,.b (!(Mz (Bc env x))))::env) σ K:=Ajj
theorem Akg{k:IntKind}{x:X}:Av P W0 ep (⟨some d,.cvi k x,none,[]⟩::l) env σ K↔isI (Bc env x)/\Av P W0 ep l ((d,.i k (k.wrap (toI (Bc env x))))::env) σ K:=Ak2
theorem vW{x:X}{off:Nat}:Av P W0 ep (⟨some d,.faddr x off,none,[]⟩::l) env σ K↔Tv (Bc env x)/\Av P W0 ep l ((d,HP (Bc env x) off)::env) σ K:=xW
theorem zF{x i:X}{e sz:Nat}:Av P W0 ep (⟨some d,.iaddr x i e sz,none,[]⟩::l) env σ K↔True/\(Ef σ sz (Bc env x) (Bc env i)).isSome=true/\Av P W0 ep l ((d,(Ef σ sz (Bc env x) (Bc env i)).getD .any)::env) σ K:=Aa9
theorem Alo{x i:X}:Av P W0 ep (⟨some d,.idx x i,none,[]⟩::l) env σ K↔True/\(NX (Bc env x) (Bc env i)).isSome=true/\Av P W0 ep l ((d,(NX (Bc env x) (Bc env i)).getD .any)::env) σ K:=Akv
theorem Af4{x:X}{n:Nat}{ag:Bool}:Av P W0 ep (⟨some d,.load x n ag,none,[]⟩::l) env σ K↔True/\(F4 σ n ag (Bc env x)).isSome=true/\Av P W0 ep l ((d,(F4 σ n ag (Bc env x)).getD .any)::env) σ K:=AfU
theorem AaJ{a x:X}{n:Nat}:Av P W0 ep (⟨none,.store a x n,none,[]⟩::l) env σ K↔(Bc env x).ok=true/\(Ft σ n (Bc env x) (Bc env a)).isSome=true/\Av P W0 ep l env ((Ft σ n (Bc env x) (Bc env a)).getD []) K:=zS
theorem Amj{x:X}:Av P W0 ep (⟨some d,.box x,none,[]⟩::l) env σ K↔(Bc env x).ok=true/\Av P W0 ep l ((d,.ref (ep,d) 0)::env) (((ep,d),.box (Bc env x))::σ) K:=Aju
theorem zC{z:V}:Av P W0 ep (⟨some d,.alloc z,none,[]⟩::l) env σ K↔True/\Av P W0 ep l ((d,.ref (ep,d) 0)::env) (((ep,d),.box z)::σ) K:=zK
theorem uX{z:List V}{ps:List (Nat×Nat×X)}:Av P W0 ep (⟨some d,.build z ps,none,[]⟩::l) env σ K↔Qx env ps/\(((El z (psE env ps)).map V.agg).isSome=true)/\Av P W0 ep l ((d,((El z (psE env ps)).map V.agg).getD .any)::env) σ K:=Aak
theorem Aer{e sz:Nat}{xs:List X}:Av P W0 ep (⟨some d,.msl true e sz xs,none,[]⟩::l) env σ K↔G9 sz (DI env xs)/\Av P W0 ep l ((d,.arr (ep,d))::env) (((ep,d),.arr e sz (DI env xs))::σ) K:=Aej
theorem AgG{e sz:Nat}{xs:List X}:Av P W0 ep (⟨some d,.msl false e sz xs,none,[]⟩::l) env σ K↔G9 sz (DI env xs)/\Av P W0 ep l ((d,.sl (DI env xs))::env) σ K:=Adx
theorem AmR{x:X}{lo hi:Option X}:Av P W0 ep (⟨some d,.slS x lo hi,none,[]⟩::l) env σ K↔True/\(KL env lo hi (Bc env x)).isSome=true/\Av P W0 ep l ((d,(KL env lo hi (Bc env x)).getD .any)::env) σ K:=Aln
theorem Amp{x:X}{lo hi:Option X}{sz:Nat}:Av P W0 ep (⟨some d,.slL x lo hi sz,none,[]⟩::l) env σ K↔isL sz (Bc env x)/\(KA env lo hi (toL (Bc env x))).isSome=true/\Av P W0 ep l ((d,(KA env lo hi (toL (Bc env x))).getD .any)::env) σ K:=AmB
theorem Ahj{x:X}:Av P W0 ep (⟨some d,.lenS x,none,[]⟩::l) env σ K↔isS (Bc env x)/\Av P W0 ep l ((d,.i .i64 ((toS (Bc env x)).length:Nat))::env) σ K:=Aeu
theorem Afp{x:X}:Av P W0 ep (⟨some d,.lenL x,none,[]⟩::l) env σ K↔(Az σ (Bc env x)).isSome=true/\Av P W0 ep l ((d,.i .i64 (((Az σ (Bc env x)).getD []).length:Nat))::env) σ K:=Aex
theorem Akx{s x:X}{e sz:Nat}:Av P W0 ep (⟨some d,.app s x e sz,none,[]⟩::l) env σ K↔((Az σ (Bc env x)).isSome=true/\∀y∈(Az σ (Bc env x)).getD [],(cells y).length=sz)/\(Mh σ (ep,d) e sz ((Az σ (Bc env x)).getD []) (Bc env s)).isSome=true/\Av P W0 ep l ((d,.arr (ep,d))::env) ((Mh σ (ep,d) e sz ((Az σ (Bc env x)).getD []) (Bc env s)).getD []) K:=AkJ
theorem AjZ{x:X}{k:Nat}:Av P W0 ep (⟨some d,.ext x k,none,[]⟩::l) env σ K↔True/\(TA k (Bc env x)).isSome=true/\Av P W0 ep l ((d,(TA k (Bc env x)).getD .any)::env) σ K:=Ajy
theorem Agj{f:FuncId}{first caps:List X}:Av P W0 ep (⟨some d,.mkfn f first caps,none,[]⟩::l) env σ K↔True/\Av P W0 ep l ((d,.fn f (DI env first) (DI env caps))::env) σ K:=Ag6
theorem ApY{lo:Bool}{x:X}{xs:List X}:Av P W0 ep (⟨some d,.mx lo x xs,none,[]⟩::l) env σ K↔True/\(OO lo (Bc env x) (DI env xs)).isSome=true/\Av P W0 ep l ((d,(OO lo (Bc env x) (DI env xs)).getD .any)::env) σ K:=Ap1
theorem xJ{x:X}:Av P W0 ep (⟨some d,.nilck x,none,[]⟩::l) env σ K↔isN (Bc env x)/\Av P W0 ep l ((d,Bc env x)::env) σ K:=zU
variable{nt:Nat}{b:IC}{Q:Exit→St→Prop}{st:St}{Inv:Nat→St→Prop}{m k k':Nat}
theorem Lh:Dl k Q .normal st=Q .normal st:=rfl
theorem OY:Dl k Q (.exit k') st=if k'=k then Q .normal st else Q (.exit k') st:=rfl
theorem PN:Dl k Q .ret st=Q .ret st:=rfl
theorem Pd:WP Inv m Q .normal st=∃m',m'<m/\Inv m' st:=rfl
theorem Sm:WP Inv m Q (.exit k) st=Q (.exit k) st:=rfl
theorem Zq:WP Inv m Q .ret st=Q .ret st:=rfl
end
end Go.Ir
end
section
namespace Go.Ir
open Go.RowKit
variable[F1]
def J(P:Program)(W0:World)(ep:Nat)(live:List Nat)(Q:Exit->St->Prop)(l:List I)(env:AD)(σ:Ak):Prop:=
 Av P W0 ep l env σ fun env σ=>∀k,Q .normal ⟨restrict live env,σ,ep+1+k⟩
def JP(P:Program)(W0:World)(ep:Nat)(live:List Nat)(Q:Exit->St->Prop)(p:Prop)(l:List I)(env:AD)(σ:Ak):Prop:=p/\J P W0 ep live Q l env σ
def JL(P:Program)(W0:World)(ep:Nat)(live:List Nat)(Q:Exit->St->Prop)(p:Prop)(o:Option V)(l:List I)(d:Nat)(env:AD)(σ:Ak):Prop:=p/\o.isSome=true/\J P W0 ep live Q l ((d,o.getD .any)::env) σ
def JT(P:Program)(W0:World)(ep:Nat)(live:List Nat)(Q:Exit->St->Prop)(p:Prop)(o:Option Ak)(l:List I)(env:AD):Prop:=p/\o.isSome=true/\J P W0 ep live Q l env (o.getD [])
def Wg(P:Program)(W0:World)(ep:Nat)(live:List Nat)(Q:Exit->St->Prop)(v:V)(want:Bool)(d:Option Nat)(op:AE)(ap:List X)(l:List I)(env:AD)(σ:Ak):Prop:=
 HZ want v (J P W0 ep live Q (⟨d,op,none,ap⟩::l) env σ) (J P W0 ep live Q l (put env d (.tup [])) σ)
def QS(P:Program)(W0:World)(ep:Nat)(live:List Nat)(Q:Exit->St->Prop)(f:FuncId)(vs:List V)(l:List I)(d:Nat)(env:AD)(σ:Ak):Prop:=
 ∃v,Am P W0 f vs [] v []/\J P W0 ep live Q l ((d,v)::env) σ
def RR(P:Program)(W0:World)(ep:Nat)(live:List Nat)(Q:Exit->St->Prop)(f:FuncId)(vs:List V)(l:List I)(d:Nat)(env:AD)(σ:Ak):Prop:=
 ∃v σi,Am P W0 f vs σi v σi/\(∀id e,lk σi id=some e->lk σ id=some e)/\J P W0 ep live Q l ((d,v)::env) σ
def Gl(P:Program)(W0:World)(ep:Nat)(live:List Nat)(Q:Exit->St->Prop)(f:FuncId)(vs:List V)(l:List I)(d:Nat)(env:AD)(σ:Ak):Prop:=
 ∃v σi σo,Am P W0 f vs σi v σo/\(∀id e,lk σi id=some e->lk σ id=some e)/\J P W0 ep live Q l ((d,v)::env) (over σi σo σ)
def Sv(P:Program)(W0:World)(ep:Nat)(live:List Nat)(Q:Exit->St->Prop)(f:FuncId)(vs:List V)(l:List I)(d:Nat)(env:AD)(σ:Ak):Prop:=
 ∃x σi σo,JR P W0 f vs σi x σo/\(∀id e,lk σi id=some e->lk σ id=some e)/\J P W0 ep live Q l ((d,.arr (ep,d))::env) (((ep,d),x)::over σi σo σ)
def AhY(P:Program)(W0:World)(ep:Nat)(live:List Nat)(Q:Exit->St->Prop)(h:V)(vs:List V)(l:List I)(d:Nat)(env:AD)(σ:Ak):Prop:=
 match h with
 | .fn f first caps=>QS P W0 ep live Q f (first++vs++caps) l d env σ
 | _=>False
def KJ(P:Program)(W0:World)(ep:Nat)(live:List Nat)(Q:Exit->St->Prop)(h:V)(vs:List V)(l:List I)(d:Nat)(env:AD)(σ:Ak):Prop:=
 match h with
 | .fn f first caps=>Gl P W0 ep live Q f (first++vs++caps) l d env σ
 | _=>False
def Ug(P:Program)(W0:World)(ep:Nat)(live:List Nat)(Q:Exit->St->Prop)(f:FuncId)(vs avs:List V)(l:List I)(d:Nat)(env:AD)(σ:Ak):Prop:=
 ∃v σi σo,Am P W0 f vs σi v σo/\(∀id e,lk σi id=some e->lk σ id=some e)/\(∀y∈avs,∀id,BU y=some id->lk σ id≠none->lk (over σi σo σ) id=lk σ id)/\J P W0 ep live Q l ((d,v)::env) (over σi σo σ)
def zM(P:Program)(W0:World)(ep:Nat)(live:List Nat)(Q:Exit->St->Prop)(h:V)(vs avs:List V)(l:List I)(d:Nat)(env:AD)(σ:Ak):Prop:=
 match h with
 | .fn f first caps=>Ug P W0 ep live Q f (first++vs++caps) avs l d env σ
 | _=>False
def JW(P:Program)(W0:World)(ep:Nat)(live:List Nat)(Q:Exit->St->Prop)(o:Option (Ak×V))(l:List I)(d:Nat)(env:AD):Prop:=∃p,o=some p/\J P W0 ep live Q l ((d,p.2)::env) p.1
def JM(P:Program)(W0:World)(ep:Nat)(live:List Nat)(Q:Exit->St->Prop)(k:MkK)(o:Option AC)(l:List I)(d:Nat)(env:AD)(σ:Ak):Prop:=∃e,o=some e/\J P W0 ep live Q l ((d,tA k (ep,d))::env) (((ep,d),e)::σ)
def X1(k:RdK)(xs:List V)(e:Option AC):Option V:=e.bind fun e=>wX k e xs
def rdV(σ:Ak)(k:RdK)(xs:List V):V->Option V
 | .arr id=>X1 k xs (lk σ id)
 | _=>none
def wrO(σ:Ak)(id:Id)(k:rN)(xs:List V)(e:Option AC):Option (Ak×V):=e.bind fun e=>(ZH k e xs).map fun r=>(upd σ id r.1,r.2)
def wrV(σ:Ak)(k:rN)(xs:List V):V->Option (Ak×V)
 | .arr id=>wrO σ id k xs (lk σ id)
 | _=>none
def kH(σ:Ak)(id:Id)(n:Nat):Option AC->Option (Ak×V)
 | some (.box (.agg cs))=>if cs.length=n/\cs.all (fun c=>!P0 c)=true then some (del σ id,.sl cs) else none
 | _=>none
def Aar(σ:Ak)(n:Nat):V->Option (Ak×V)
 | .ref id 0=>kH σ id n (lk σ id)
 | _=>none
def I5(σ:Ak)(nid mid:Id):Option AC->Option (Ak×V)
 | some (.map es)=>some ((nid,.mit mid es.length [] es.length)::σ,.arr nid)
 | _=>none
def KR(σ:Ak)(nid:Id):V->Option (Ak×V)
 | .arr mid=>I5 σ nid mid (lk σ mid)
 | _=>none
def Jr(i:Option Nat)(stepped:Nat):Option AC->Option V
 | some (.map es)=>if stepped=es.length then i.bind fun i=>(es[i]?).map fun kv=>.tup [kv.1,kv.2] else none
 | _=>none
def IU(σ:Ak):Option AC->Option V
 | some (.mit mid _ seen stepped)=>Jr seen.getLast? stepped (lk σ mid)
 | _=>none
def IV(σ:Ak):V->Option V
 | .arr id=>IU σ (lk σ id)
 | _=>none
def Ra:Option AC->Nat
 | some (.arr _ _ es)=>es.length
 | _=>0
def Mm(σ:Ak):V->Nat
 | .arr id=>Ra (lk σ id)
 | _=>0
def Nz:V->Nat
 | .s l=>l.length
 | _=>0
def Qk(σ:Ak)(id nid:Id)(e:TypeId)(l:List UInt8):Option AC->Option (Ak×V)
 | some (.arr e' sz es)=>if e'=e/\sz=1 then some ((nid,.arr e 1 (es++Ax l))::del σ id,.arr nid) else none
 | _=>none
def MQ(σ:Ak)(nid:Id)(e:TypeId)(l:List UInt8):V->Option (Ak×V)
 | .nil=>some ((nid,.arr e 1 (Ax l))::σ,.arr nid)
 | .arr id=>Qk σ id nid e l (lk σ id)
 | _=>none
def Xm(σ:Ak)(nid:Id)(e:TypeId)(s:V):V->Option (Ak×V)
 | .s l=>MQ σ nid e l s
 | _=>none
def eO(σ:Ak)(id nid:Id)(sz:Nat)(h:V):Option AC->Option (Ak×V)
 | some (.arr e sz' es)=>if sz'=sz then(match h with
  | .i _ n=>if 0<=n then(if n.toNat<=es.length then some ((nid,.arr e sz (es.take n.toNat))::del σ id,.arr nid) else none) else none
  | _=>none) else none
 | _=>none
def tR(σ:Ak)(nid:Id)(sz:Nat)(h:V):V->Option (Ak×V)
 | .arr id=>eO σ id nid sz h (lk σ id)
 | _=>none
def JWP(P:Program)(W0:World)(ep:Nat)(live:List Nat)(Q:Exit->St->Prop)(p:Prop)(o:Option (Ak×V))(l:List I)(d:Nat)(env:AD):Prop:=∃q,o=some q/\JP P W0 ep live Q p l ((d,q.2)::env) q.1
def Aee(es:List V):V:=.i .i64 (es.length:Nat)
def sI:List V->List V->Prop
 | [],_=>True
 | x::xs,ys=>(∀y∈ys,∀id,BU x=some id->BU y≠some id)/\sI xs ys
section
variable{P:Program}{W0:World}{ep d:Nat}{live:List Nat}{Q:Exit→St→Prop}{l:List I}{env:AD}{σ:Ak}
theorem Ami:J P W0 ep live Q [] env σ=∀k,Q .normal ⟨restrict live env,σ,ep+1+k⟩:=rfl
theorem wQ:JP P W0 ep live Q True l env σ=J P W0 ep live Q l env σ:=by simp[JP]
theorem vE{v:V}:JL P W0 ep live Q True (some v) l d env σ=J P W0 ep live Q l ((d,v)::env) σ:=by simp[JL]
theorem yK{τ:Ak}:JT P W0 ep live Q True (some τ) l env=J P W0 ep live Q l env τ:=by simp[JT]
theorem ApK{x:X}:J P W0 ep live Q (⟨some d,.mv x,none,[]⟩::l) env σ=J P W0 ep live Q l ((d,Bc env x)::env) σ:=by unfold J;exact propext (Apy.trans (by simp))
theorem AgP{c a b:X}:J P W0 ep live Q (⟨some d,.pick c a b,none,[]⟩::l) env σ=JP P W0 ep live Q (RK (Bc env c)) l ((d,bif Mz (Bc env c) then Bc env a else Bc env b)::env) σ:=by unfold J JP;exact propext (Ahc.trans (by simp[J]))
theorem Aly{op:BinOp}{x y:X}:J P W0 ep live Q (⟨some d,.bin op x y,none,[]⟩::l) env σ=JP P W0 ep live Q (M3 op (Bc env x) (Bc env y)) l ((d,Rs op (Bc env x) (Bc env y))::env) σ:=by unfold J JP;exact propext (Akm.trans (by simp[J]))
theorem AkH{ne:Bool}{x y:X}:J P W0 ep live Q (⟨some d,.eqb ne x y,none,[]⟩::l) env σ=JP P W0 ep live Q ((RK (Bc env x)/\RK (Bc env y))) l ((d,.b (if ne then !(Mz (Bc env x)==Mz (Bc env y)) else Mz (Bc env x)==Mz (Bc env y)))::env) σ:=by unfold J JP;exact propext (Am0.trans (by simp[J]))
theorem AnD{x:X}:J P W0 ep live Q (⟨some d,.not x,none,[]⟩::l) env σ=JP P W0 ep live Q (RK (Bc env x)) l ((d,.b (!(Mz (Bc env x))))::env) σ:=by unfold J JP;exact propext (Alf.trans (by simp[J]))
theorem Ai5{k:IntKind}{x:X}:J P W0 ep live Q (⟨some d,.cvi k x,none,[]⟩::l) env σ=JP P W0 ep live Q (isI (Bc env x)) l ((d,.i k (k.wrap (toI (Bc env x))))::env) σ:=by unfold J JP;exact propext (Akg.trans (by simp[J]))
theorem yI{x:X}{off:Nat}:J P W0 ep live Q (⟨some d,.faddr x off,none,[]⟩::l) env σ=JP P W0 ep live Q (Tv (Bc env x)) l ((d,HP (Bc env x) off)::env) σ:=by unfold J JP;exact propext (vW.trans (by simp[J]))
theorem zH{x i:X}{e sz:Nat}:J P W0 ep live Q (⟨some d,.iaddr x i e sz,none,[]⟩::l) env σ=JL P W0 ep live Q (True) (Ef σ sz (Bc env x) (Bc env i)) l d env σ:=by unfold J JL;exact propext (zF.trans (by simp[J]))
theorem AmX{x i:X}:J P W0 ep live Q (⟨some d,.idx x i,none,[]⟩::l) env σ=JL P W0 ep live Q (True) (NX (Bc env x) (Bc env i)) l d env σ:=by unfold J JL;exact propext (Alo.trans (by simp[J]))
theorem Af0{x:X}{n:Nat}{ag:Bool}:J P W0 ep live Q (⟨some d,.load x n ag,none,[]⟩::l) env σ=JL P W0 ep live Q (True) (F4 σ n ag (Bc env x)) l d env σ:=by unfold J JL;exact propext (Af4.trans (by simp[J]))
theorem Aau{a x:X}{n:Nat}:J P W0 ep live Q (⟨none,.store a x n,none,[]⟩::l) env σ=JT P W0 ep live Q ((Bc env x).ok=true) (Ft σ n (Bc env x) (Bc env a)) l env:=by unfold J JT;exact propext (AaJ.trans (by simp[J]))
theorem AlW{x:X}:J P W0 ep live Q (⟨some d,.box x,none,[]⟩::l) env σ=JP P W0 ep live Q ((Bc env x).ok=true) l ((d,.ref (ep,d) 0)::env) (((ep,d),.box (Bc env x))::σ):=by unfold J JP;exact propext (Amj.trans (by simp[J]))
theorem yQ{z:V}:J P W0 ep live Q (⟨some d,.alloc z,none,[]⟩::l) env σ=JP P W0 ep live Q (True) l ((d,.ref (ep,d) 0)::env) (((ep,d),.box z)::σ):=by unfold J JP;exact propext (zC.trans (by simp[J]))
theorem Aat{z:List V}{ps:List (Nat×Nat×X)}:J P W0 ep live Q (⟨some d,.build z ps,none,[]⟩::l) env σ=JL P W0 ep live Q (Qx env ps) ((El z (psE env ps)).map V.agg) l d env σ:=by unfold J JL;exact propext (uX.trans (by simp[J]))
theorem Agd{e sz:Nat}{xs:List X}:J P W0 ep live Q (⟨some d,.msl true e sz xs,none,[]⟩::l) env σ=JP P W0 ep live Q (G9 sz (DI env xs)) l ((d,.arr (ep,d))::env) (((ep,d),.arr e sz (DI env xs))::σ):=by unfold J JP;exact propext (Aer.trans (by simp[J]))
theorem Afx{e sz:Nat}{xs:List X}:J P W0 ep live Q (⟨some d,.msl false e sz xs,none,[]⟩::l) env σ=JP P W0 ep live Q (G9 sz (DI env xs)) l ((d,.sl (DI env xs))::env) σ:=by unfold J JP;exact propext (AgG.trans (by simp[J]))
theorem Al2{x:X}{lo hi:Option X}:J P W0 ep live Q (⟨some d,.slS x lo hi,none,[]⟩::l) env σ=JL P W0 ep live Q (True) (KL env lo hi (Bc env x)) l d env σ:=by unfold J JL;exact propext (AmR.trans (by simp[J]))
theorem Al3{x:X}{lo hi:Option X}{sz:Nat}:J P W0 ep live Q (⟨some d,.slL x lo hi sz,none,[]⟩::l) env σ=JL P W0 ep live Q (isL sz (Bc env x)) (KA env lo hi (toL (Bc env x))) l d env σ:=by unfold J JL;exact propext (Amp.trans (by simp[J]))
theorem AeH{x:X}:J P W0 ep live Q (⟨some d,.lenS x,none,[]⟩::l) env σ=JP P W0 ep live Q (isS (Bc env x)) l ((d,.i .i64 ((toS (Bc env x)).length:Nat))::env) σ:=by unfold J JP;exact propext (Ahj.trans (by simp[J]))
theorem Adt{x:X}:J P W0 ep live Q (⟨some d,.lenL x,none,[]⟩::l) env σ=JL P W0 ep live Q (True) ((Az σ (Bc env x)).map Aee) l d env σ:=by unfold J JL;refine propext (Afp.trans ?_);cases Az σ (Bc env x)<;>simp[Aee,J]
theorem Al0{s x:X}{e sz:Nat}:J P W0 ep live Q (⟨some d,.app s x e sz,none,[]⟩::l) env σ=JT P W0 ep live Q (((Az σ (Bc env x)).isSome=true/\∀y∈(Az σ (Bc env x)).getD [],(cells y).length=sz)) (Mh σ (ep,d) e sz ((Az σ (Bc env x)).getD []) (Bc env s)) l ((d,.arr (ep,d))::env):=by unfold J JT;exact propext (Akx.trans (by simp[J]))
theorem An2{x:X}{k:Nat}:J P W0 ep live Q (⟨some d,.ext x k,none,[]⟩::l) env σ=JL P W0 ep live Q (True) (TA k (Bc env x)) l d env σ:=by unfold J JL;exact propext (AjZ.trans (by simp[J]))
theorem AdQ{f:FuncId}{first caps:List X}:J P W0 ep live Q (⟨some d,.mkfn f first caps,none,[]⟩::l) env σ=J P W0 ep live Q l ((d,.fn f (DI env first) (DI env caps))::env) σ:=by unfold J;exact propext (Agj.trans (by simp))
theorem Aqy{lo:Bool}{x:X}{xs:List X}:J P W0 ep live Q (⟨some d,.mx lo x xs,none,[]⟩::l) env σ=JL P W0 ep live Q (True) (OO lo (Bc env x) (DI env xs)) l d env σ:=by unfold J JL;exact propext (ApY.trans (by simp[J]))
theorem uU{x:X}:J P W0 ep live Q (⟨some d,.nilck x,none,[]⟩::l) env σ=JP P W0 ep live Q (isN (Bc env x)) l ((d,Bc env x)::env) σ:=by unfold J JP;exact propext (xJ.trans (by simp[J]))
theorem Aqx{k:PuK}{xs:List X}:J P W0 ep live Q (⟨some d,.pu k xs,none,[]⟩::l) env σ=JL P W0 ep live Q True (F9 k (DI env xs)) l d env σ:=by
 unfold J JL
 refine propext (Ct.trans ?_)
 simp only[E,put,DI,true_and]
 cases h:F9 k (xs.map (ev (get env))) with
 | none=>simp
 | some v=>simp only[Aiq,AoA,AoL,true_and];exact⟨fun⟨u,τ,⟨h1,h2⟩,h3⟩=>by subst h1;subst h2;exact h3,fun h=>⟨_,_,⟨rfl,rfl⟩,h⟩⟩
theorem Akl{r:Bool}:eqN true r=.b (!r):=rfl
theorem Alb{r:Bool}:eqN false r=.b r:=rfl
theorem uM{ne:Bool}:F9 (.nilq .p ne) [.np]=some (eqN ne true):=rfl
theorem tE{ne:Bool}{id:Id}{o:Nat}:F9 (.nilq .p ne) [.ref id o]=some (eqN ne false):=rfl
theorem Ak1{k:RdK}{m:X}{xs:List X}:J P W0 ep live Q (⟨some d,.rdm k m xs,none,[]⟩::l) env σ=JL P W0 ep live Q True (rdV σ k (DI env xs) (Bc env m)) l d env σ:=by
 unfold J JL
 refine propext (Ct.trans ?_)
 simp only[E,put,DI,true_and,Bc]
 constructor
 ·rintro⟨v,σ',⟨⟨id,e,h1,h2,h3⟩,rfl⟩,h⟩
  have:rdV σ' k (xs.map (ev (get env))) (ev (get env) m)=some v:=by rw[h1];simp[rdV,X1,h2,h3]
  rw[this]
  exact⟨rfl,h⟩
 ·rintro⟨h1,h⟩
  obtain⟨v,hv⟩:=Ap9.1 h1
  rw[hv] at h
  unfold rdV at hv
  split at hv
  ·rename_i id hm
   unfold X1 at hv
   obtain⟨e,h2,h3⟩:=AcD.1 hv
   exact⟨v,σ,⟨⟨id,e,hm,h2,h3⟩,rfl⟩,h⟩
  ·cases hv
theorem Uu{d0:Option Nat}{k:rN}{m:X}{xs:List X}{v:V}{σ':Ak}:E P W0 ep d0 (.wrm k m xs) (get env) σ v σ'↔wrV σ k (DI env xs) (Bc env m)=some (σ',v):=by
 simp only[E,DI,Bc]
 constructor
 ·rintro⟨id,e,e',h1,h2,h3,rfl⟩
  rw[h1];simp[wrV,wrO,h2,h3]
 ·intro hv
  unfold wrV at hv
  split at hv
  ·rename_i id hm
   unfold wrO at hv
   obtain⟨e,h2,h3⟩:=AcD.1 hv
   obtain⟨r,h4,h5⟩:=Adc.1 h3
   grind
  ·cases hv
theorem AeV{k:rN}{m:X}{xs:List X}:J P W0 ep live Q (⟨none,.wrm k m xs,none,[]⟩::l) env σ=JT P W0 ep live Q True ((wrV σ k (DI env xs) (Bc env m)).map (·.1)) l env:=by
 unfold J JT
 refine propext (Ct.trans ?_)
 simp only[Uu,put,true_and]
 cases h:wrV σ k (DI env xs) (Bc env m) with
 | none=>simp
 | some p=>obtain⟨τ,v⟩:=p;simp only[Aiq,At2,AsU,AoA,AoL,true_and];exact⟨fun⟨u,ρ,⟨h1,h2⟩,h3⟩=>by subst h1;subst h2;exact h3,fun h=>⟨_,_,⟨rfl,rfl⟩,h⟩⟩
theorem All{k:rN}{m:X}{xs:List X}:J P W0 ep live Q (⟨some d,.wrm k m xs,none,[]⟩::l) env σ=JW P W0 ep live Q (wrV σ k (DI env xs) (Bc env m)) l d env:=by
 unfold J JW
 refine propext (Ct.trans ?_)
 simp only[Uu,put]
 constructor
 ·rintro⟨v,σ',h1,h2⟩;exact⟨(σ',v),h1,h2⟩
 ·rintro⟨p,h1,h2⟩;exact⟨p.2,p.1,h1,h2⟩
theorem Ano{k:MkK}{xs:List X}:J P W0 ep live Q (⟨some d,.mkm k xs,none,[]⟩::l) env σ=JM P W0 ep live Q k (Vn k (DI env xs)) l d env σ:=by
 unfold J JM
 refine propext (Ct.trans ?_)
 simp only[E,put,DI]
 constructor
 ·rintro⟨v,σ',⟨dd,e,h1,h2,rfl,rfl⟩,h⟩;cases h1;exact⟨e,h2,h⟩
 ·rintro⟨e,h1,h⟩;exact⟨_,_,⟨d,e,rfl,h1,rfl,rfl⟩,h⟩
theorem Adg{s x:X}{e:TypeId}:J P W0 ep live Q (⟨some d,.apps s x e,none,[]⟩::l) env σ=JWP P W0 ep live Q (Mm σ (Bc env s)+Nz (Bc env x)<=AM) (Xm σ (ep,d) e (Bc env s) (Bc env x)) l d env:=by
 unfold J JWP
 refine propext (Ct.trans ?_)
 simp only[E,put,Bc]
 constructor
 ·rintro⟨v,σ',⟨dd,b,h1,h2,rfl,h3⟩,h⟩
  cases h1
  rw[h2]
  split at h3
  ·rename_i hs
   obtain⟨h4,rfl⟩:=h3
   rw[hs]
   exact⟨(((ep,d),.arr e 1 (Ax b))::σ,.arr (ep,d)),rfl,by simpa[Mm,Nz] using h4,h⟩
  ·rename_i id hs
   obtain⟨es,h4,h5,rfl⟩:=h3
   rw[hs]
   exact⟨(((ep,d),.arr e 1 (es++Ax b))::del σ id,.arr (ep,d)),by simp[Xm,MQ,h4,Qk],by simpa[Mm,Ra,Nz,h4] using h5,h⟩
  ·exact h3.elim
 ·rintro⟨q,hq,hp,h⟩
  unfold Xm at hq
  split at hq
  ·rename_i b hb
   rw[hb] at hp
   unfold MQ at hq
   split at hq
   ·rename_i hs
    cases hq
    refine⟨_,_,⟨d,b,rfl,hb,rfl,?_⟩,h⟩
    rw[hs] at hp⊢
    exact⟨by simpa[Mm,Nz] using hp,rfl⟩
   ·rename_i id hs
    unfold Qk at hq
    split at hq
    ·rename_i e' sz es hl
     split at hq
     ·rename_i hc
      obtain⟨rfl,rfl⟩:=hc
      cases hq
      refine⟨_,_,⟨d,b,rfl,hb,rfl,?_⟩,h⟩
      rw[hs] at hp⊢
      exact⟨es,hl,by simpa[Mm,Ra,Nz,hl] using hp,rfl⟩
     ·cases hq
    ·cases hq
   ·cases hq
  ·cases hq
theorem cA{p:Prop}{q:Ak×V}:JWP P W0 ep live Q p (some q) l d env=JP P W0 ep live Q p l ((d,q.2)::env) q.1:=by
 unfold JWP
 grind
theorem Am6{x hi:X}{sz:Nat}:J P W0 ep live Q (⟨some d,.slT x hi sz,none,[]⟩::l) env σ=JW P W0 ep live Q (tR σ (ep,d) sz (Bc env hi) (Bc env x)) l d env:=by
 unfold J JW
 refine propext (Ct.trans ?_)
 simp only[E,put,Bc,Fs]
 constructor
 ·rintro⟨v,σ',⟨dd,id,e,es,q,h1,h2,h3,h4,h5,rfl,rfl⟩,h⟩
  cases h1
  refine⟨(((ep,d),.arr e sz (es.take q))::del σ id,.arr (ep,d)),?_,h⟩
  rw[h2]
  simp only[tR,h3,eO,if_true]
  grind
 ·rintro⟨q,hq,h⟩
  unfold tR at hq
  split at hq
  ·rename_i id hs
   unfold eO at hq
   split at hq
   ·rename_i e sz' es hl
    split at hq
    ·rename_i hz
     subst hz
     split at hq
     ·rename_i k n hn
      split at hq
      ·rename_i h0
       split at hq
       ·rename_i h1
        cases hq
        exact⟨_,_,⟨d,id,e,es,n.toNat,rfl,hs,hl,by grind,h1,rfl,rfl⟩,h⟩
       ·cases hq
      ·cases hq
     ·cases hq
    ·cases hq
   ·cases hq
  ·cases hq
theorem ZA{nid id:Id}{sz:Nat}{h:V}:tR σ nid sz h (.arr id)=eO σ id nid sz h (lk σ id):=rfl
theorem iQ{nid id:Id}{sz sz':Nat}{k:IntKind}{n:Int}{e:TypeId}{es:List V}:eO σ id nid sz (.i k n) (some (.arr e sz' es))=if sz'=sz then(if 0<=n then(if n.toNat<=es.length then some ((nid,.arr e sz (es.take n.toNat))::del σ id,.arr nid) else none) else none) else none:=rfl
theorem yU{nid:Id}{e:TypeId}{s:V}{b:List UInt8}:Xm σ nid e s (.s b)=MQ σ nid e b s:=rfl
theorem XL{nid:Id}{e:TypeId}{b:List UInt8}:MQ σ nid e b .nil=some ((nid,.arr e 1 (Ax b))::σ,.arr nid):=rfl
theorem XW{nid id:Id}{e:TypeId}{b:List UInt8}:MQ σ nid e b (.arr id)=Qk σ id nid e b (lk σ id):=rfl
theorem YM{nid id:Id}{e e':TypeId}{sz:Nat}{es:List V}{b:List UInt8}:Qk σ id nid e b (some (.arr e' sz es))=if e'=e/\sz=1 then some ((nid,.arr e 1 (es++Ax b))::del σ id,.arr nid) else none:=rfl
theorem Zr:Mm σ .nil=0:=rfl
theorem Zf{id:Id}:Mm σ (.arr id)=Ra (lk σ id):=rfl
theorem Zx{e:TypeId}{sz:Nat}{es:List V}:Ra (some (.arr e sz es))=es.length:=rfl
theorem Aal{b:List UInt8}:Nz (.s b)=b.length:=rfl
theorem Nh{c:V}:cells c=[c]↔P0 c=false:=by
 cases c<;>simp[cells,P0]
 rename_i cs
 match cs with
 | []=>simp
 | [x]=>
  intro h
  have h2:x=.agg [x]:=by simpa using h
  have h3:SizeOf.sizeOf x=SizeOf.sizeOf (V.agg [x]):=by rw[<-h2]
  simp at h3
  omega
 | _::_::_=>simp
theorem Ale{m:X}{k:Nat}:J P W0 ep live Q (⟨some d,.frz m k,none,[]⟩::l) env σ=JW P W0 ep live Q (Aar σ k (Bc env m)) l d env:=by
 unfold J JW
 refine propext (Ct.trans ?_)
 simp only[E,put,Bc]
 constructor
 ·rintro⟨v,σ',⟨id,cs,h1,h2,h3,h4,rfl,rfl⟩,h⟩
  refine⟨(del σ id,.sl cs),?_,h⟩
  rw[h1]
  simp only[Aar,h2,kH]
  rw[if_pos ⟨h3,Aiv.2 fun c hc=>by rw[Nh.1 (h4 c hc)];rfl⟩]
 ·rintro⟨p,hp,h⟩
  unfold Aar at hp
  split at hp
  ·rename_i id hm
   unfold kH at hp
   split at hp
   ·rename_i cs hl
    split at hp
    ·rename_i hc
     cases hp
     exact⟨_,_,⟨id,cs,hm,hl,hc.1,fun c hcc=>Nh.2 (by grind),rfl,rfl⟩,h⟩
    ·cases hp
   ·cases hp
  ·cases hp
theorem rF{m:X}:J P W0 ep live Q (⟨some d,.mrange m,none,[]⟩::l) env σ=JW P W0 ep live Q (KR σ (ep,d) (Bc env m)) l d env:=by
 unfold J JW
 refine propext (Ct.trans ?_)
 simp only[E,put,Bc]
 constructor
 ·rintro⟨v,σ',⟨dd,mid,es,h1,h2,h3,rfl,rfl⟩,h⟩
  cases h1
  refine⟨(((ep,d),.mit mid es.length [] es.length)::σ,.arr (ep,d)),?_,h⟩
  rw[h2]
  simp only[KR,h3,I5]
 ·rintro⟨p,hp,h⟩
  unfold KR at hp
  split at hp
  ·rename_i mid hm
   unfold I5 at hp
   split at hp
   ·rename_i es hl
    cases hp
    exact⟨_,_,⟨d,mid,es,rfl,hm,hl,rfl,rfl⟩,h⟩
   ·cases hp
  ·cases hp
theorem kD{m:X}:J P W0 ep live Q (⟨some d,.mentry m,none,[]⟩::l) env σ=JL P W0 ep live Q True (IV σ (Bc env m)) l d env σ:=by
 unfold J JL
 refine propext (Ct.trans ?_)
 simp only[E,put,Bc,true_and]
 constructor
 ·rintro⟨v,σ',⟨id,mid,since,seen,i,es,kv,h1,h2,h3,h4,h5,rfl,rfl⟩,h⟩
  have:IV σ' (ev (get env) m)=some (.tup [kv.1,kv.2]):=by
   rw[h1]
   simp[IV,IU,Jr,h2,h3,h4,h5]
  rw[this]
  exact⟨rfl,h⟩
 ·rintro⟨h1,h⟩
  obtain⟨v,hv⟩:=Ap9.1 h1
  rw[hv] at h
  unfold IV at hv
  split at hv
  ·rename_i id hm
   unfold IU at hv
   split at hv
   ·rename_i mid since seen stepped hl
    unfold Jr at hv
    split at hv
    ·rename_i es hlm
     split at hv
     ·rename_i hst
      subst hst
      obtain⟨i,h3,h4⟩:=AcD.1 hv
      obtain⟨kv,h5,h6⟩:=Adc.1 h4
      subst h6
      exact⟨_,_,⟨id,mid,since,seen,i,es,kv,hm,hl,h3,hlm,h5,rfl,rfl⟩,h⟩
     ·cases hv
    ·cases hv
   ·cases hv
  ·cases hv
theorem aM{id:Id}{n:Nat}:Aar σ n (.ref id 0)=kH σ id n (lk σ id):=rfl
theorem gD{id:Id}{n:Nat}{cs:List V}:kH σ id n (some (.box (.agg cs)))=if cs.length=n/\cs.all (fun c=>!P0 c)=true then some (del σ id,.sl cs) else none:=rfl
theorem Rq{nid mid:Id}:KR σ nid (.arr mid)=I5 σ nid mid (lk σ mid):=rfl
theorem P3{nid mid:Id}{es:List (V×V)}:I5 σ nid mid (some (.map es))=some ((nid,.mit mid es.length [] es.length)::σ,.arr nid):=rfl
theorem QE{id:Id}:IV σ (.arr id)=IU σ (lk σ id):=rfl
theorem Qb{mid:Id}{since stepped:Nat}{seen:List Nat}:IU σ (some (.mit mid since seen stepped))=Jr seen.getLast? stepped (lk σ mid):=rfl
theorem QC{i:Option Nat}{stepped:Nat}{es:List (V×V)}:Jr i stepped (some (.map es))=if stepped=es.length then i.bind fun i=>(es[i]?).map fun kv=>.tup [kv.1,kv.2] else none:=rfl
theorem dK{ne:Bool}:F9 (.isnil ne) [.nil]=some (.b (!ne)):=rfl
theorem dY{ne:Bool}:F9 (.isnil ne) [.sl []]=some .ub:=rfl
theorem gX{ne:Bool}{x:V}{xs:List V}:F9 (.isnil ne) [.sl (x::xs)]=some (.b ne):=rfl
theorem AjA{t:Bool}:P0 (.b t)=false:=rfl
theorem Alr{k:IntKind}{n:Int}:P0 (.i k n)=false:=rfl
theorem AkL{s:List UInt8}:P0 (.s s)=false:=rfl
theorem zP{τ:Ak}{v:V}:JW P W0 ep live Q (some (τ,v)) l d env=J P W0 ep live Q l ((d,v)::env) τ:=by
 unfold JW;simp
theorem uL{k:MkK}{e:AC}:JM P W0 ep live Q k (some e) l d env σ=J P W0 ep live Q l ((d,tA k (ep,d))::env) (((ep,d),e)::σ):=by
 unfold JM;simp
theorem xL{k:RdK}{xs:List V}{id:Id}:rdV σ k xs (.arr id)=X1 k xs (lk σ id):=rfl
theorem uR{k:rN}{xs:List V}{id:Id}:wrV σ k xs (.arr id)=wrO σ id k xs (lk σ id):=rfl
theorem iN{kk:Cy}{z:V}{ok:Bool}{es:List (V×V)}{k:V}:X1 (.mget kk z ok) [k] (some (.map es))=(Bl kk k es 0).map fun r=>match r with
  | some (_,v)=>if ok then .tup [v,.b true] else v
  | none=>if ok then .tup [z,.b false] else z:=rfl
theorem oJ{es:List (V×V)}:X1 .mlen [] (some (.map es))=some (.i .i64 es.length):=rfl
theorem qF{kk:Cy}{id:Id}{es:List (V×V)}{k v:V}:wrO σ id (.mput kk) [k,v] (some (.map es))=(Bl kk k es 0).map fun r=>match r with
  | some (i,_)=>(upd σ id (.map (es.modify i fun e=>(e.1,v))),.tup [])
  | none=>(upd σ id (.map (es++[(k,v)])),.tup []):=by
 simp only[wrO,ZH,Ath,Option.map_map]
 congr 1
 grind
theorem qW{id:Id}{s:List UInt8}{pos:Nat}:wrO σ id .next [] (some (.it s pos))=if pos<s.length then some (upd σ id (.it s (pos+(Utf8.decode ⟨s.toArray⟩ pos).2)),.tup [.b true,.i .i64 pos,.i .i32 (Utf8.decode ⟨s.toArray⟩ pos).1]) else some (upd σ id (.it s pos),.tup [.b false]):=by
 simp only[wrO,ZH,Ath]
 split<;>rfl
theorem AaG{id:Id}:tA .mkmap id=.arr id:=rfl
theorem AfG{id:Id}:tA .strit id=.arr id:=rfl
theorem rC{t:TypeId}{z:V}{id:Id}:tA (.tnew t z) id=.ref id 0:=rfl
theorem yD{t:TypeId}{id:Id}:tA (.tbx t) id=.ref id 0:=rfl
theorem oE{t:TypeId}{z:V}:Vn (.tnew t z) []=some (.tbox t z):=rfl
theorem wO{t:TypeId}{x:V}:Vn (.tbx t) [x]=if x.ok=true then some (.tbox t x) else none:=rfl
theorem yY:Vn .mkmap []=some (.map []):=rfl
theorem AfW{s:List UInt8}:Vn .strit [.s s]=some (.it s 0):=rfl
theorem dO{k:IntKind}{n:Int}:F9 .itos [.i k n]=some (.s (Utf8.encode n).data.toList):=rfl
theorem nW{es:List V}:F9 .btos [.sl es]=(Ey es).map .s:=rfl
theorem Y0:F9 .btos [.nil]=some (.s []):=rfl
theorem eE{n sz off:Nat}{id:Id}{k:IntKind}{i:Int}:F9 (.aidx n sz) [.ref id off,.i k i]=if 0<=i/\i<(n:Int) then some (.ref id (off+i.toNat*sz)) else none:=rfl
theorem Aqw{d:Option Nat}{op:AE}{s:Nat}{want:Bool}{ap:List X}:J P W0 ep live Q (⟨d,op,some (s,want),ap⟩::l) env σ=Wg P W0 ep live Q (get env s) want d op ap l env σ:=by
 unfold J Wg
 simp only[J,Av,Cp,HZ]
 cases get env s with
 | tup l=>cases l<;>rfl
 | _=>rfl
theorem aB{d:Option Nat}{op:AE}{ap:List X}:Wg P W0 ep live Q (.b true) true d op ap l env σ=J P W0 ep live Q (⟨d,op,none,ap⟩::l) env σ:=by simp[Wg,HZ]
theorem lG{d:Option Nat}{op:AE}{ap:List X}:Wg P W0 ep live Q (.b false) false d op ap l env σ=J P W0 ep live Q (⟨d,op,none,ap⟩::l) env σ:=by simp[Wg,HZ]
theorem gA{d:Option Nat}{op:AE}{ap:List X}:Wg P W0 ep live Q (.b true) false d op ap l env σ=J P W0 ep live Q l (put env d (.tup [])) σ:=by simp[Wg,HZ]
theorem d6{d:Option Nat}{op:AE}{ap:List X}:Wg P W0 ep live Q (.b false) true d op ap l env σ=J P W0 ep live Q l (put env d (.tup [])) σ:=by simp[Wg,HZ]
theorem AlR{d:Option Nat}{op:AE}{ap:List X}{w:Bool}:Wg P W0 ep live Q (.tup []) w d op ap l env σ=J P W0 ep live Q l (put env d (.tup [])) σ:=by simp[Wg,HZ]
theorem Ag{d:Option Nat}{op:AE}{ap:List X}{t:Bool}(h1:t=true->J P W0 ep live Q (⟨d,op,none,ap⟩::l) env σ)(h2:t=false->J P W0 ep live Q l (put env d (.tup [])) σ):Wg P W0 ep live Q (.b t) true d op ap l env σ:=by
 cases t
 ·rw[d6];exact h2 rfl
 ·rw[aB];exact h1 rfl
theorem Af{d:Option Nat}{op:AE}{ap:List X}{t:Bool}(h1:t=false->J P W0 ep live Q (⟨d,op,none,ap⟩::l) env σ)(h2:t=true->J P W0 ep live Q l (put env d (.tup [])) σ):Wg P W0 ep live Q (.b t) false d op ap l env σ:=by
 cases t
 ·rw[lG];exact h1 rfl
 ·rw[gA];exact h2 rfl
theorem VG{g:Nat->V}{ys:List X}:∀{ap:List X},(∀x∈ap,∀y∈ys,∀id,BU (ev g x)=some id->BU (ev g y)≠some id)↔sI (ap.map (ev g)) (ys.map (ev g))
 | []=>by simp[sI]
 | x::ap=>by
  have:=VG (g:=g) (ys:=ys) (ap:=ap)
  simp only[Ait,sI,<-this,Ao9,forall_eq_or_imp,Apq,forall_exists_index,and_imp,forall_apply_eq_imp_iff₂]
theorem Amd{d:Option Nat}{op:AE}{x:X}{ap:List X}(hc:op.cl=false):J P W0 ep live Q (⟨d,op,none,x::ap⟩::l) env σ=JP P W0 ep live Q (sI (DI env (x::ap)) (DI env op.cs)) (⟨d,op,none,[]⟩::l) env σ:=by
 unfold J JP
 refine propext ((Apk hc).trans ?_)
 rw[show Zd ⟨d,op,none,x::ap⟩ (get env)↔sI (DI env (x::ap)) (DI env op.cs) from VG]
 rfl
theorem Ad8{f:FuncId}{args:List X}:J P W0 ep live Q (⟨some d,.call f args,none,[]⟩::l) env σ=QS P W0 ep live Q f (DI env args) l d env σ:=by
 unfold J QS
 refine propext (Ct.trans ?_)
 simp only[E,put,DI]
 exact⟨fun⟨v,_,⟨h1,rfl⟩,h2⟩=>⟨v,h1,h2⟩,fun⟨v,h1,h2⟩=>⟨v,_,⟨h1,rfl⟩,h2⟩⟩
theorem uC{f:FuncId}{args:List X}:J P W0 ep live Q (⟨some d,.calls f args,none,[]⟩::l) env σ=Gl P W0 ep live Q f (DI env args) l d env σ:=by
 unfold J Gl
 refine propext (Ct.trans ?_)
 simp only[E,put,DI]
 exact⟨fun⟨v,_,⟨σi,σo,h1,h3,rfl⟩,h2⟩=>⟨v,σi,σo,h1,h3,h2⟩,fun⟨v,σi,σo,h1,h3,h2⟩=>⟨v,_,⟨σi,σo,h1,h3,rfl⟩,h2⟩⟩
theorem uB{f:FuncId}{args:List X}:J P W0 ep live Q (⟨some d,.callr f args,none,[]⟩::l) env σ=RR P W0 ep live Q f (DI env args) l d env σ:=by
 unfold J RR
 refine propext (Ct.trans ?_)
 simp only[E,put,DI]
 exact⟨fun⟨v,_,⟨⟨σi,h1,h3⟩,rfl⟩,h2⟩=>⟨v,σi,h1,h3,h2⟩,fun⟨v,σi,h1,h3,h2⟩=>⟨v,_,⟨⟨σi,h1,h3⟩,rfl⟩,h2⟩⟩
theorem vT{f:FuncId}{args:List X}:J P W0 ep live Q (⟨some d,.calln f args,none,[]⟩::l) env σ=Sv P W0 ep live Q f (DI env args) l d env σ:=by
 unfold J Sv
 refine propext (Ct.trans ?_)
 simp only[E,put,DI]
 exact⟨fun⟨v,_,⟨dd,σi,σo,x,hd,h1,h3,hv,rfl⟩,h2⟩=>by cases hd;subst hv;exact⟨x,σi,σo,h1,h3,h2⟩,fun⟨x,σi,σo,h1,h3,h2⟩=>⟨_,_,⟨d,σi,σo,x,rfl,h1,h3,rfl,rfl⟩,h2⟩⟩
theorem dU{x:X}{args:List X}:J P W0 ep live Q (⟨some d,.callvs x args,none,[]⟩::l) env σ=KJ P W0 ep live Q (Bc env x) (DI env args) l d env σ:=by
 unfold J
 refine propext (Ct.trans ?_)
 simp only[E,put]
 constructor
 ·rintro⟨v,_,⟨⟨f,first,caps,σi,σo,hx,h1,h3,rfl⟩,h2⟩⟩
  unfold KJ Bc
  rw[hx]
  exact⟨v,σi,σo,h1,h3,h2⟩
 ·intro h
  unfold KJ Bc at h
  split at h
  ·rename_i f first caps hx
   obtain⟨v,σi,σo,h1,h3,h2⟩:=h
   exact⟨v,_,⟨f,first,caps,σi,σo,hx,h1,h3,rfl⟩,h2⟩
  ·cases h
theorem Tl{d:Option Nat}{x y:X}{n:Nat}{z:X}{ap:List X}:J P W0 ep live Q (⟨d,.store x y n,none,z::ap⟩::l) env σ=JP P W0 ep live Q (sI (DI env (z::ap)) (DI env (AE.store x y n).cs)) (⟨d,.store x y n,none,[]⟩::l) env σ:=Amd rfl
theorem X7{d:Option Nat}{x:X}{n:Nat}{b:Bool}{z:X}{ap:List X}:J P W0 ep live Q (⟨d,.load x n b,none,z::ap⟩::l) env σ=JP P W0 ep live Q (sI (DI env (z::ap)) (DI env (AE.load x n b).cs)) (⟨d,.load x n b,none,[]⟩::l) env σ:=Amd rfl
theorem Sd{f:FuncId}{first caps vs avs:List V}:zM P W0 ep live Q (.fn f first caps) vs avs l d env σ=Ug P W0 ep live Q f (first++vs++caps) avs l d env σ:=rfl
theorem X5{f:FuncId}{first caps vs:List V}:AhY P W0 ep live Q (.fn f first caps) vs l d env σ=QS P W0 ep live Q f (first++vs++caps) l d env σ:=rfl
theorem RZ{f:FuncId}{first caps vs:List V}:KJ P W0 ep live Q (.fn f first caps) vs l d env σ=Gl P W0 ep live Q f (first++vs++caps) l d env σ:=rfl
theorem Ab{f:FuncId}{vs:List V}{v:V}(h:Am P W0 f vs [] v [])(hh:J P W0 ep live Q l ((d,v)::env) σ):QS P W0 ep live Q f vs l d env σ:=⟨v,h,hh⟩
theorem wP{f:FuncId}{vs:List V}{v:V}{σi:Ak}(h:Am P W0 f vs σi v σi)(hs:∀id e,lk σi id=some e->lk σ id=some e)(hh:J P W0 ep live Q l ((d,v)::env) σ):RR P W0 ep live Q f vs l d env σ:=⟨v,σi,h,hs,hh⟩
theorem BF{f:FuncId}{vs:List V}{v:V}{σi σo:Ak}(h:Am P W0 f vs σi v σo)(hs:∀id e,lk σi id=some e->lk σ id=some e)(hh:J P W0 ep live Q l ((d,v)::env) (over σi σo σ)):Gl P W0 ep live Q f vs l d env σ:=⟨v,σi,σo,h,hs,hh⟩
theorem NO{f:FuncId}{vs:List V}{x:AC}{σi σo:Ak}(h:JR P W0 f vs σi x σo)(hs:∀id e,lk σi id=some e->lk σ id=some e)(hh:J P W0 ep live Q l ((d,.arr (ep,d))::env) (((ep,d),x)::over σi σo σ)):Sv P W0 ep live Q f vs l d env σ:=⟨x,σi,σo,h,hs,hh⟩
theorem jQ{f:FuncId}{vs:List V}{v:V}(h:Am P W0 f vs [] v [])(hh:J P W0 ep live Q l ((d,v)::env) σ):Gl P W0 ep live Q f vs l d env σ:=by
 refine⟨v,[],[],h,fun id e h=>by simp[lk] at h,?_⟩
 have:over [] [] σ=σ:=by simp[over,lk]
 rw[this];exact hh
end
@[irreducible] def Kg(P:Program)(W0:World)(nt:Nat)(c:IC)(Q:Exit->St->Prop)(st:St):Prop:=Fz P W0 nt (.loop c) Q st
@[irreducible] def Nv(P:Program)(W0:World)(nt:Nat)(d1 d2:Nat)(x:X)(live:List Nat)(Q:Exit->St->Prop)(st:St):Prop:=Fz P W0 nt (.mnext d1 d2 x live) Q st
@[irreducible] def WkW(P:Program)(W0:World)(nt:Nat)(c:IC)(Q:Exit->St->Prop)(st:St):Prop:=Fz P W0 nt c Q st
def G4(P:Program)(W0:World)(n:Nat)(d:Nat)(f:FuncId)(vs:List V)(l2:List I)(live:List Nat)(Q:Exit->St->Prop)(env:AD)(σ:Ak):Prop:=
 Jg P W0 n d f vs env σ fun n2 env σ=>J P W0 n2 live Q l2 env σ
def LZ(P:Program)(W0:World)(d:Nat)(f:FuncId)(args:List X)(l2:List I)(live:List Nat)(Q:Exit->St->Prop):Exit->St->Prop
 | .normal,st=>G4 P W0 st.n d f (DI st.env args) l2 live Q st.env st.σ
 | _,_=>False
def NZ(P:Program)(W0:World)(d g:Nat)(want:Bool)(f:FuncId)(args:List X)(l2:List I)(live:List Nat)(Q:Exit->St->Prop):Exit->St->Prop
 | .normal,st=>gdQ (get st.env g) want (G4 P W0 st.n d f (DI st.env args) l2 live Q st.env st.σ) (J P W0 st.n live Q l2 ((d,.tup [])::st.env) st.σ)
 | _,_=>False
def Sx(P:Program)(W0:World)(n:Nat)(d:Nat)(vs:List V)(l2:List I)(live:List Nat)(Q:Exit->St->Prop)(env:AD)(σ:Ak):Prop:=
 AaS P W0 n d vs env σ fun n2 env σ=>J P W0 n2 live Q l2 env σ
def Hv(P:Program)(W0:World)(n:Nat)(d:Nat)(h:V)(vs:List V)(l2:List I)(live:List Nat)(Q:Exit->St->Prop)(env:AD)(σ:Ak):Prop:=
 match h with
 | .fn f first caps=>G4 P W0 n d f (first++vs++caps) l2 live Q env σ
 | .arr id=>Sx P W0 n d (.arr id::vs) l2 live Q env σ
 | _=>False
def Of(P:Program)(W0:World)(d:Nat)(x:X)(args:List X)(l2:List I)(live:List Nat)(Q:Exit->St->Prop):Exit->St->Prop
 | .normal,st=>Hv P W0 st.n d (Bc st.env x) (DI st.env args) l2 live Q st.env st.σ
 | _,_=>False
def AhJ(P:Program)(W0:World)(nt:Nat)(g:X)(ps:List Nat)(a b:IC)(en live:List Nat)(Q:Exit->St->Prop)(st:St):Prop:=Fz P W0 nt (.rfn g ps a b en live) Q st
def aW(P:Program)(W0:World)(nt:Nat):IC->(Exit->St->Prop)->St->Prop
 | .ops l live _,Q,st=>J P W0 st.n live Q l st.env st.σ
 | .seqr l live,Q,st=>J P W0 st.n live Q l st.env st.σ
 | .seq a b,Q,st=>aW P W0 nt a (fun e s=>match e with|.normal=>aW P W0 nt b Q s|e=>Q e s) st
 | .cond c a b,Q,st=>match Bc st.env c with|.b true=>aW P W0 nt a Q st|.b false=>aW P W0 nt b Q st|.ub=>aW P W0 nt a Q st/\aW P W0 nt b Q st|_=>False
 | .mnext d1 d2 x live,Q,st=>Nv P W0 nt d1 d2 x live Q st
 | .block id a,Q,st=>aW P W0 nt a (Dl id Q) st
 | .loop c,Q,st=>Kg P W0 nt c Q st
 | .wk c,Q,st=>WkW P W0 nt c Q st
 | .opx l1 live1 d f args l2 live,Q,st=>J P W0 st.n live1 (LZ P W0 d f args l2 live Q) l1 st.env st.σ
 | .opxq l1 live1 d g want f args l2 live,Q,st=>J P W0 st.n live1 (NZ P W0 d g want f args l2 live Q) l1 st.env st.σ
 | .opxd l1 live1 d f args live _,Q,st=>J P W0 st.n live1 (LZ P W0 d f args [] live Q) l1 st.env st.σ
 | .opxv l1 live1 d x args l2 live,Q,st=>J P W0 st.n live1 (Of P W0 d x args l2 live Q) l1 st.env st.σ
 | .opxe ..,Q,st=>False
 | .anyr ..,Q,st=>False
 | .scope _,Q,st=>False
 | .rfn g ps a b en live,Q,st=>AhJ P W0 nt g ps a b en live Q st
 | .exit id,Q,st=>Q (.exit id) st
 | .ret,Q,st=>Q .ret st
 | .skip,Q,st=>Q .normal st
def ML(P:Program)(W0:World)(nt:Nat)(b:IC)(Q:Exit->St->Prop)(e:Exit)(s:St):Prop:=match e with|.normal=>aW P W0 nt b Q s|e=>Q e s
def Qa(P:Program)(W0:World)(nt:Nat)(v:V)(a b:IC)(Q:Exit->St->Prop)(env:AD)(σ:Ak)(n:Nat):Prop:=match v with|.b true=>aW P W0 nt a Q ⟨env,σ,n⟩|.b false=>aW P W0 nt b Q ⟨env,σ,n⟩|.ub=>aW P W0 nt a Q ⟨env,σ,n⟩/\aW P W0 nt b Q ⟨env,σ,n⟩|_=>False
section
variable{P:Program}{W0:World}{nt n:Nat}{Q Q':Exit→St→Prop}{env:AD}{σ:Ak}{a b c:IC}{st:St}
theorem AhX{l:List I}{live:List Nat}{paths:List (List Nat)}:aW P W0 nt (.ops l live paths) Q ⟨env,σ,n⟩=J P W0 n live Q l env σ:=rfl
theorem xR{l:List I}{live:List Nat}:aW P W0 nt (.seqr l live) Q ⟨env,σ,n⟩=J P W0 n live Q l env σ:=rfl
theorem Afr:aW P W0 nt (.seq a b) Q ⟨env,σ,n⟩=aW P W0 nt a (ML P W0 nt b Q) ⟨env,σ,n⟩:=rfl
theorem zL{x:X}:aW P W0 nt (.cond x a b) Q ⟨env,σ,n⟩=Qa P W0 nt (Bc env x) a b Q env σ n:=rfl
theorem pD{id:Nat}:aW P W0 nt (.block id a) Q ⟨env,σ,n⟩=aW P W0 nt a (Dl id Q) ⟨env,σ,n⟩:=rfl
theorem zY:aW P W0 nt (.loop c) Q ⟨env,σ,n⟩=Kg P W0 nt c Q ⟨env,σ,n⟩:=rfl
theorem AlE:aW P W0 nt (.wk c) Q ⟨env,σ,n⟩=WkW P W0 nt c Q ⟨env,σ,n⟩:=rfl
theorem tX{id:Nat}:aW P W0 nt (.exit id) Q ⟨env,σ,n⟩=Q (.exit id) ⟨env,σ,n⟩:=rfl
theorem AeS:aW P W0 nt .ret Q ⟨env,σ,n⟩=Q .ret ⟨env,σ,n⟩:=rfl
theorem tS:aW P W0 nt .skip Q ⟨env,σ,n⟩=Q .normal ⟨env,σ,n⟩:=rfl
theorem yC:Qa P W0 nt (.b true) a b Q env σ n=aW P W0 nt a Q ⟨env,σ,n⟩:=rfl
theorem vK:Qa P W0 nt (.b false) a b Q env σ n=aW P W0 nt b Q ⟨env,σ,n⟩:=rfl
theorem ZI:Qa P W0 nt .ub a b Q env σ n=(aW P W0 nt a Q ⟨env,σ,n⟩/\aW P W0 nt b Q ⟨env,σ,n⟩):=rfl
theorem Z6{d1 d2:Nat}{x:X}{live:List Nat}:aW P W0 nt (.mnext d1 d2 x live) Q ⟨env,σ,n⟩=Nv P W0 nt d1 d2 x live Q ⟨env,σ,n⟩:=rfl
theorem Aib{g:X}{ps en live:List Nat}:aW P W0 nt (.rfn g ps a b en live) Q ⟨env,σ,n⟩=AhJ P W0 nt g ps a b en live Q ⟨env,σ,n⟩:=rfl
theorem Ac{t:Bool}(h1:t=true->aW P W0 nt a Q ⟨env,σ,n⟩)(h2:t=false->aW P W0 nt b Q ⟨env,σ,n⟩):Qa P W0 nt (.b t) a b Q env σ n:=by
 cases t
 ·exact h2 rfl
 ·exact h1 rfl
theorem NS{d:Nat}{f:FuncId}{args:List X}{l2:List I}{live:List Nat}:LZ P W0 d f args l2 live Q .normal ⟨env,σ,n⟩=G4 P W0 n d f (DI env args) l2 live Q env σ:=rfl
theorem HL{d g:Nat}{want:Bool}{f:FuncId}{args:List X}{l2:List I}{live:List Nat}:NZ P W0 d g want f args l2 live Q .normal ⟨env,σ,n⟩=gdQ (get env g) want (G4 P W0 n d f (DI env args) l2 live Q env σ) (J P W0 n live Q l2 ((d,.tup [])::env) σ):=rfl
theorem M7{d:Nat}{x:X}{args:List X}{l2:List I}{live:List Nat}:Of P W0 d x args l2 live Q .normal ⟨env,σ,n⟩=Hv P W0 n d (Bc env x) (DI env args) l2 live Q env σ:=rfl
theorem SW{d:Nat}{f:FuncId}{first caps vs:List V}{l2:List I}{live:List Nat}:Hv P W0 n d (.fn f first caps) vs l2 live Q env σ=G4 P W0 n d f (first++vs++caps) l2 live Q env σ:=rfl
theorem QP{d:Nat}{id:Id}{vs:List V}{l2:List I}{live:List Nat}:Hv P W0 n d (.arr id) vs l2 live Q env σ=Sx P W0 n d (.arr id::vs) l2 live Q env σ:=rfl
theorem Aag{d:Nat}{vs:List V}{l2:List I}{live:List Nat}{σi:Ak}{R:Nat->Nat->V->Ak->Prop}(h:Sz P W0 vs σi R)(hs:∀id e,lk σi id=some e->lk σ id=some e)
  (hh:∀n2 v σo,n<=n2->R n n2 v σo->J P W0 n2 live Q l2 ((d,v)::env) (over σi σo σ)):Sx P W0 n d vs l2 live Q env σ:=⟨σi,R,h,hs,hh⟩
theorem AV{d:Nat}{f:FuncId}{vs:List V}{l2:List I}{live:List Nat}{σi:Ak}{R:Nat->Nat->V->Ak->Prop}(h:Ei P W0 f vs σi R)(hs:∀id e,lk σi id=some e->lk σ id=some e)
  (hh:∀n2 v σo,n<=n2->R n n2 v σo->J P W0 n2 live Q l2 ((d,v)::env) (over σi σo σ)):G4 P W0 n d f vs l2 live Q env σ:=⟨σi,R,h,hs,hh⟩
theorem Pa:ML P W0 nt b Q .normal st=aW P W0 nt b Q st:=rfl
theorem SF{k:Nat}:ML P W0 nt b Q (.exit k) st=Q (.exit k) st:=rfl
theorem Xy:ML P W0 nt b Q .ret st=Q .ret st:=rfl
theorem BY:∀{ic:IC} {Q:Exit->St->Prop} {st:St},aW P W0 nt ic Q st->Fz P W0 nt ic Q st
 | .ops l live paths,Q,st,h=>by
  refine TU ?_
  refine BL (fun env σ hh n' hn=>?_) h
  have:=hh (n'-(st.n+1))
  grind
 | .seqr l live,Q,st,h=>by
  refine qV ?_
  refine BL (fun env σ hh n' hn=>?_) h
  have:=hh (n'-(st.n+1))
  grind
 | .seq a b,Q,st,h=>by
  refine Aad (Lu (BY h) fun e s hs=>?_)
  cases e with
  | normal=>exact BY (ic:=b) hs
  | _=>exact hs
 | .cond c a b,Q,st,h=>by
  simp only[aW] at h
  split at h
  ·rename_i hc;exact QI hc (fun _=>BY h) (fun h=>by cases h)
  ·rename_i hc;exact QI hc (fun h=>by cases h) (fun _=>BY h)
  ·rename_i hc;exact XM hc (BY h.1) (BY h.2)
  ·cases h
 | .mnext d1 d2 x live,Q,st,h=>by
  have h:Nv P W0 nt d1 d2 x live Q st:=h
  unfold Nv at h
  exact h
 | .block id a,Q,st,h=>YD (BY (ic:=a) h)
 | .loop c,Q,st,h=>by
  have h:Kg P W0 nt c Q st:=h
  unfold Kg at h
  exact h
 | .scope c,Q,st,h=>False.elim h
 | .rfn g ps a b en live,Q,st,h=>h
 | .wk c,Q,st,h=>by
  have h:WkW P W0 nt c Q st:=h
  unfold WkW at h
  exact AfS h
 | .opx l1 live1 d f args l2 live,Q,st,h=>by
  refine wL ?_
  refine BL (fun env σ hh n1 hn1=>?_) (show J P W0 st.n live1 (LZ P W0 d f args l2 live Q) l1 st.env st.σ from h)
  have h1:=hh (n1-(st.n+1))
  rw[AtK hn1] at h1
  obtain⟨σi,R,h2,h3,h4⟩:=h1
  refine⟨σi,R,h2,h3,fun n2 v σo hle hR=>?_⟩
  refine BL (fun env σ hk n3 hn3=>?_) (h4 n2 v σo hle hR)
  have:=hk (n3-(n2+1))
  grind
 | .opxq l1 live1 d g want f args l2 live,Q,st,h=>by
  refine cX ?_
  refine BL (fun env σ hh n1 hn1=>?_) (show J P W0 st.n live1 (NZ P W0 d g want f args l2 live Q) l1 st.env st.σ from h)
  have h1:=hh (n1-(st.n+1))
  rw[AtK hn1] at h1
  rw[HL] at h1
  unfold gdQ at h1⊢
  have tl:∀{env:AD} {σ:Ak},J P W0 n1 live Q l2 env σ->Av P W0 n1 l2 env σ fun env σ=>∀n3,n1<n3->Q .normal ⟨restrict live env,σ,n3⟩:=fun h=>BL (fun env σ hk n3 hn3=>by
   have:=hk (n3-(n1+1))
   grind) h
  split at h1
  ·rename_i t hg
   refine⟨fun ht=>?_,fun ht=>tl (h1.2 ht)⟩
   obtain⟨σi,R,h2,h3,h4⟩:=h1.1 ht
   refine⟨σi,R,h2,h3,fun n2 v σo hle hR=>?_⟩
   refine BL (fun env σ hk n3 hn3=>?_) (h4 n2 v σo hle hR)
   have:=hk (n3-(n2+1))
   grind
  ·exact tl h1
  ·exact h1.elim
 | .opxd l1 live1 d f args live paths,Q,st,h=>by
  refine dF ?_
  refine BL (fun env σ hh n1 hn1=>?_) (show J P W0 st.n live1 (LZ P W0 d f args [] live Q) l1 st.env st.σ from h)
  have h1:G4 P W0 (st.n+1+(n1-(st.n+1))) d f (DI (restrict live1 env) args) [] live Q (restrict live1 env) σ:=hh (n1-(st.n+1))
  rw[AtK hn1] at h1
  obtain⟨σi,R,h2,h3,h4⟩:=h1
  refine⟨σi,R,h2,h3,fun n2 v σo hle hR n3 hn3=>?_⟩
  have h5:∀k,Q .normal ⟨restrict live ((d,v)::restrict live1 env),over σi σo σ,n2+1+k⟩:=h4 n2 v σo hle hR
  have:=h5 (n3-(n2+1))
  grind
 | .opxv l1 live1 d x args l2 live,Q,st,h=>by
  refine mL ?_
  refine BL (fun env σ hh n1 hn1=>?_) (show J P W0 st.n live1 (Of P W0 d x args l2 live Q) l1 st.env st.σ from h)
  have h1:Hv P W0 (st.n+1+(n1-(st.n+1))) d (Bc (restrict live1 env) x) (DI (restrict live1 env) args) l2 live Q (restrict live1 env) σ:=hh (n1-(st.n+1))
  rw[AtK hn1] at h1
  have tl:∀{n2:Nat} {env:AD} {σ:Ak},J P W0 n2 live Q l2 env σ->Av P W0 n2 l2 env σ fun env σ=>∀n3,n2<n3->Q .normal ⟨restrict live env,σ,n3⟩:=fun{n2} _ _ h=>BL (fun env σ hk n3 hn3=>by
   have:=hk (n3-(n2+1))
   grind) h
  unfold Hv at h1
  split at h1
  ·rename_i f first caps hx
   obtain⟨σi,R,h2,h3,h4⟩:=h1
   exact .inl ⟨f,first,caps,hx,σi,R,h2,h3,fun n2 v σo hle hR=>tl (h4 n2 v σo hle hR)⟩
  ·rename_i id hx
   obtain⟨σi,R,h2,h3,h4⟩:=h1
   exact .inr ⟨id,hx,σi,R,h2,h3,fun n2 v σo hle hR=>tl (h4 n2 v σo hle hR)⟩
  ·exact h1.elim
 | .opxe ..,Q,st,h=>False.elim h
 | .anyr ..,Q,st,h=>False.elim h
 | .exit id,Q,st,h=>bE h
 | .ret,Q,st,h=>zD h
 | .skip,Q,st,h=>kX h
theorem Wc{d1 d2 s:Nat}{live:List Nat}{id mid:Id}{es:List (V×V)}{seen:List Nat}(hx:get env s=.arr id)(hl:lk σ id=some (.mit mid es.length seen es.length))(hlm:lk σ mid=some (.map es))(hd1:d1∉live)(hne:d1≠d2)
  (hmore:∀i kv,es[i]?=some kv->i∉seen->Q .normal ⟨restrict live ((d2,.b true)::env),upd σ id (.mit mid es.length (seen++[i]) es.length),n+1⟩)
  (hend:(∀i,i<es.length->i∈seen)->Q .normal ⟨restrict live ((d2,.b false)::env),σ,n+1⟩):Nv P W0 nt d1 d2 (.t s) live Q ⟨env,σ,n⟩:=by
 unfold Nv
 exact Y6 hx hl hlm hmore hend hd1 hne
def Al(W0:World)(nt:Nat)(st st':St):Prop:=∀B a w,At W0 nt B st a w->At W0 nt B st' a w
theorem Al.refl:Al W0 nt st st:=fun _ _ _ h=>h
theorem Al.trans{s1 s2 s3:St}(h:Al W0 nt s1 s2)(k:Al W0 nt s2 s3):Al W0 nt s1 s3:=fun B a w x=>k B a w (h B a w x)
theorem rO{ic:IC}{st':St}(h:Al W0 nt st st')(k:Fz P W0 nt ic Q st'):Fz P W0 nt ic Q st:=fun code hc B a w hn hat=>k code hc B a w hn (h B a w hat)
def QW(W0:World)(nt:Nat)(Q:Exit->St->Prop)(e:Exit)(st:St):Prop:=∃st',Al W0 nt st st'/\Q e st'
theorem LT{ic:IC}(h:Fz P W0 nt ic (QW W0 nt Q) st):Fz P W0 nt ic Q st:=by
 intro code hc B a w hn hat
 refine AZ (h code hc B a w hn hat) fun e a w hh=>?_
 obtain⟨B',hx,s,⟨s',hle,hq⟩,ha⟩:=hh
 exact⟨B',hx,s',hq,hle B' a w ha⟩
def Pk(W0:World)(nt:Nat)(Inv:Nat->St->Prop)(m:Nat)(Q:Exit->St->Prop):Exit->St->Prop
 | .normal,st=>∃m' st',m'<m/\Al W0 nt st st'/\Inv m' st'
 | e,st=>Q e st
theorem M8{Inv:Nat->St->Prop}{m:Nat}:Pk W0 nt Inv m Q .normal st=∃m' st',m'<m/\Al W0 nt st st'/\Inv m' st':=rfl
theorem PO{Inv:Nat->St->Prop}{m k:Nat}:Pk W0 nt Inv m Q (.exit k) st=Q (.exit k) st:=rfl
theorem S6{Inv:Nat->St->Prop}{m:Nat}:Pk W0 nt Inv m Q .ret st=Q .ret st:=rfl
theorem An{Inv:Nat->St->Prop}(m:Nat)(h:∃st',Al W0 nt st st'/\Inv m st')(round:∀m st,Inv m st->aW P W0 nt c (Pk W0 nt Inv m Q) st):Kg P W0 nt c Q st:=by
 unfold Kg
 obtain⟨st',hle,hinv⟩:=h
 refine rO hle (iH (Inv:=Inv) (fun m st hi=>?_) m hinv)
 refine LT (Lu (BY (round m st hi)) fun e s hs=>?_)
 cases e with
 | normal=>obtain⟨m',s',h1,h2,h3⟩:=hs;exact⟨s',h2,m',h1,h3⟩
 | _=>exact⟨s,Al.refl,hs⟩
theorem LW{st':St}(h:Al W0 nt st st')(k:aW P W0 nt c Q st'):WkW P W0 nt c Q st:=by
 unfold WkW
 exact rO h (BY k)
def TE(W0:World)(nt:Nat)(rs:List R)(vs:List V)(σ':Ak):Exit->St->Prop:=QW W0 nt (Fin rs vs σ')
def Ac4(W0:World)(nt s:Nat)(x:AC)(σ':Ak):Exit->St->Prop:=QW W0 nt (Amt s x σ')
theorem Ai{f:FuncId}{ic:IC}{rs:List R}(hck:Aw P f nt ic rs=true){args:List V}(hargs:args.length<=nt){σ σ':Ak}{vs:List V}(hdom:∀id,lk σ' id≠none->lk σ id≠none)
  (h:∀n,(∀id e,lk σ id=some e->id.1<n)->aW P W0 nt ic (TE W0 nt rs vs σ') ⟨params 0 args,σ,n⟩):Am P W0 f args σ (Lz vs) σ':=
 Aie hck hargs hdom fun n hn=>LT (BY (h n hn))
def AkG(W0:World)(nt:Nat)(rs:List R)(R:Nat->Nat->V->Ak->Prop)(n0:Nat):Exit->St->Prop:=QW W0 nt (AjT rs R n0)
theorem BP{f:FuncId}{ic:IC}{rs:List R}(hck:Aw P f nt ic rs=true){args:List V}(hargs:args.length<=nt){σ:Ak}{R:Nat->Nat->V->Ak->Prop}
  (h:∀n,(∀id e,lk σ id=some e->id.1<n)->aW P W0 nt ic (AkG W0 nt rs R n) ⟨params 0 args,σ,n⟩):Ei P W0 f args σ R:=
 xI hck hargs fun n hn=>LT (BY (h n hn))
theorem Un{f:FuncId}{ic:IC}{s:Nat}(hck:Aw P f nt ic [.t s]=true){args:List V}(hargs:args.length<=nt){σ σ':Ak}{x:AC}(hdom:∀id,lk σ' id≠none->lk σ id≠none)
  (h:∀n,(∀id e,lk σ id=some e->id.1<n)->aW P W0 nt ic (Ac4 W0 nt s x σ') ⟨params 0 args,σ,n⟩):JR P W0 f args σ x σ':=
 AhK hck hargs hdom fun n hn=>LT (BY (h n hn))
theorem Ah{s:Nat}{v:V}(h:get env s=v):TE W0 nt [.t s] [v] [] .ret ⟨env,σ,n⟩:=⟨_,Al.refl,⟨h,trivial⟩,fun id e h=>by simp[lk] at h⟩
theorem AA{s:Nat}{v:V}{σ':Ak}(h:get env s=v)(hs:∀id e,lk σ' id=some e->lk σ id=some e):TE W0 nt [.t s] [v] σ' .ret ⟨env,σ,n⟩:=⟨_,Al.refl,⟨h,trivial⟩,hs⟩
theorem CB(σ:Ak):over σ σ σ=σ:=by
 have:∀(p:Id×AC),p∈σ->(lk σ p.1).isNone=false:=by
  intro p hp
  induction σ with
  | nil=>cases hp
  | cons q σ ih=>
   grind[lk]
 unfold over
 rw[List.filter_eq_nil_iff.2 (fun p hp=>by simp[this p hp]),Aou]
theorem Al.weak(φ:Id->Option (List V)){env':AD}{σ':Ak}{n':Nat}
  (hφ:∀id es,φ id=some es->(∃e sz,lk σ id=some (.arr e sz es))/\lk σ' id=none)
  (henv:∀s,K6 φ (get env s) (get env' s))(hσ:∀id e',lk σ' id=some e'->∃e,lk σ id=some e/\Kz φ e e')(hn:n<=n'):Al W0 nt ⟨env,σ,n⟩ ⟨env',σ',n'⟩:=
 fun B a w hat=>hat.weak φ hφ henv hσ hn
theorem Al.own{s e sz k:Nat}(hs:get env s=.nil):Al W0 nt ⟨env,σ,n⟩ ⟨(s,.arr (n,k))::env,((n,k),.arr e sz [])::σ,n+1⟩:=by
 intro B a w hat
 obtain⟨μ,H,hr,hp,hf,hold,hbn,hds⟩:=hat
 have hnone:μ (n,k)=none:=hp.bd _ (AbG _)
 have hmono:=Bv (v:=.slice none 0 0) hnone
 have hnew:=(hp.more (Ani n)).new_ (n':=n+1) (w':=w) (R:=fun _=>False) ⟨rfl,rfl,rfl,AbG _,fun _ _ _=>rfl⟩ (fun _ h=>h.elim) (σ1:=σ) (fun id e h=>⟨h,fun _ _ h=>h⟩) (id:=(n,k)) (e:=.arr e sz []) (val:=.slice none 0 0) hnone (Acq _) (AbG _) (fun bk hb=>by simp[BI] at hb)
  ⟨.slice none 0 0,[],Ar _ _ _,rfl,AtB w _ e sz,Ajt _,(fun x hx=>by cases hx),AG.nil_⟩
 refine⟨_,H,⟨hr.size,fun s'=>?_⟩,hnew.1,hf.trans hnew.2,fun id hid h0=>?_,Aiw hbn (Ani _),hds⟩
 ·simp only[get]
  split
  ·rename_i h0
   subst h0
   have:=hr.at_ s
   simp only[hs] at this
   rw[this.nil_inv]
   exact .arr _ _ (Ar _ _ _) rfl
  ·exact(hr.at_ s').mono hmono (fun _ _ h=>h)
 ·simp only at hbn
  rw[B9 _ _ (by grind)]
  exact hold id hid h0
theorem Al.drop{σ':Ak}{n':Nat}(h:∀id e,lk σ' id=some e->lk σ id=some e)(hn:n<=n'):Al W0 nt ⟨env,σ,n⟩ ⟨env,σ',n'⟩:=
 Al.weak (fun _=>none) (fun _ _ h=>by cases h) (fun _=>.refl _) (fun id e' hl=>⟨e',h id e' hl,.refl _⟩) hn
end
end Go.Ir
end
section
namespace Go.Ir
variable[F1]
theorem Aan{ys:List V}:sI [] ys=True:=rfl
theorem nQ{x:V}{xs ys:List V}:sI (x::xs) ys=((∀y∈ys,∀id,BU x=some id->BU y≠some id)/\sI xs ys):=rfl
def o1(d:Nat)(op:AE):I:=⟨some d,op,none,[]⟩
def o0(op:AE):I:=⟨none,op,none,[]⟩
def m1(d x:Nat):I:=⟨some d,.mv (.t x),none,[]⟩
def ci(z:Int):X:=.c (.i .i64 z)
def mZ(d:Nat)(z:Int):I:=⟨some d,.mv (.c (.i .i64 z)),none,[]⟩
def mC(d:Nat)(v:V):I:=⟨some d,.mv (.c v),none,[]⟩
def l1(d s:Nat):I:=⟨some d,.load (.t s) 1 false,none,[]⟩
def lA(d s n:Nat):I:=⟨some d,.load (.t s) n true,none,[]⟩
def fA(d s k:Nat):I:=⟨some d,.faddr (.t s) k,none,[]⟩
def xT(d s k:Nat):I:=⟨some d,.ext (.t s) k,none,[]⟩
def bT(d:Nat)(o:BinOp)(a b:Nat):I:=⟨some d,.bin o (.t a) (.t b),none,[]⟩
def bZ(d:Nat)(o:BinOp)(a:Nat)(z:Int):I:=⟨some d,.bin o (.t a) (.c (.i .i64 z)),none,[]⟩
def bC(d:Nat)(o:BinOp)(a:Nat)(v:V):I:=⟨some d,.bin o (.t a) (.c v),none,[]⟩
def q1(d f a:Nat):I:=⟨some d,.call f [.t a],none,[]⟩
def q2(d f a b:Nat):I:=⟨some d,.call f [.t a,.t b],none,[]⟩
def q3(d f a b c:Nat):I:=⟨some d,.call f [.t a,.t b,.t c],none,[]⟩
def pO(d a b:Nat):I:=⟨some d,.pick (.t a) (.c (.b true)) (.t b),none,[]⟩
def pA(d a b:Nat):I:=⟨some d,.pick (.t a) (.t b) (.c (.b false)),none,[]⟩
def nL(d s:Nat):I:=⟨some d,.lenL (.t s),none,[]⟩
def nS(d s:Nat):I:=⟨some d,.lenS (.t s),none,[]⟩
def nT(d s:Nat):I:=⟨some d,.not (.t s),none,[]⟩
def nC(d s:Nat):I:=⟨some d,.nilck (.t s),none,[]⟩
def bX(d s:Nat):I:=⟨some d,.box (.t s),none,[]⟩
def iA(d a b e z:Nat):I:=⟨some d,.iaddr (.t a) (.t b) e z,none,[]⟩
def sT(a b n:Nat):I:=⟨none,.store (.t a) (.t b) n,none,[]⟩
def gT(d g:Nat)(o:AE):I:=⟨some d,o,some (g,true),[]⟩
def gF(d g:Nat)(o:AE):I:=⟨some d,o,some (g,false),[]⟩
def BG(d g s:Nat):I:=⟨some d,.mv (.t s),some (g,true),[]⟩
def BB(d g s:Nat):I:=⟨some d,.mv (.t s),some (g,false),[]⟩
def EQ(d g s:Nat):I:=⟨some d,.load (.t s) 1 false,some (g,true),[]⟩
def Ew(d g s:Nat):I:=⟨some d,.load (.t s) 1 false,some (g,false),[]⟩
def F0(d g s k:Nat):I:=⟨some d,.faddr (.t s) k,some (g,true),[]⟩
def EP(d g s k:Nat):I:=⟨some d,.faddr (.t s) k,some (g,false),[]⟩
def FSz(d g:Nat)(o:BinOp)(a:Nat)(z:Int):I:=⟨some d,.bin o (.t a) (.c (.i .i64 z)),some (g,true),[]⟩
def Er(d g:Nat)(o:BinOp)(a:Nat)(z:Int):I:=⟨some d,.bin o (.t a) (.c (.i .i64 z)),some (g,false),[]⟩
def oP(l:List I)(v:List Nat):IC:=.ops l v []
def oR(l:List I)(v:List Nat):IC:=.seq (.ops l v []) .ret
def oS(l:List I)(v:List Nat)(b:IC):IC:=.seq (.ops l v []) b
def rS(l:List I)(v:List Nat)(b:IC):IC:=.seq (.seqr l v) b
def sQ(a b:IC):IC:=.seq a b
def cD(n:Nat)(a b:IC):IC:=.cond (.t n) a b
theorem bq:(!true)=false/\(!false)=true/\(∀b,(true||b)=true)/\(∀b,(false||b)=b)/\(∀b,(b||true)=true)/\(∀b,(b||false)=b)/\(∀b,(true&&b)=b)/\(∀b,(false&&b)=false)/\(∀b,(b&&true)=b)/\(∀b,(b&&false)=false)/\((false=true)=False):=by simp
theorem AL{c d:IC}(h:c=d)(P:Program)(W0:World)(nt:Nat)(Q:Exit->St->Prop)(env:AD)(σ:Ak)(n:Nat):aW P W0 nt c Q ⟨env,σ,n⟩=aW P W0 nt d Q ⟨env,σ,n⟩:=by rw[h]
theorem As{c d:IC}{p:Prop}(h:c=d)(q:p):(∀P W0 nt Q env σ n,aW P W0 nt c Q ⟨env,σ,n⟩=aW P W0 nt d Q ⟨env,σ,n⟩)/\p:=⟨AL h,q⟩
section
variable{P:Program}{W0:World}{nt n d f:Nat}{Q:Exit→St→Prop}{env:AD}{σ:Ak}{l1 l2:List I}{v1 v:List Nat}{x:X}{args:List X}{ps:List (List Nat)}
theorem AeG:aW P W0 nt (.opx l1 v1 d f args l2 v) Q ⟨env,σ,n⟩=J P W0 n v1 (LZ P W0 d f args l2 v Q) l1 env σ:=rfl
theorem Aay{g:Nat}{want:Bool}:aW P W0 nt (.opxq l1 v1 d g want f args l2 v) Q ⟨env,σ,n⟩=J P W0 n v1 (NZ P W0 d g want f args l2 v Q) l1 env σ:=rfl
theorem uQ:aW P W0 nt (.opxv l1 v1 d x args l2 v) Q ⟨env,σ,n⟩=J P W0 n v1 (Of P W0 d x args l2 v Q) l1 env σ:=rfl
theorem y8:aW P W0 nt (.opxd l1 v1 d f args v ps) Q ⟨env,σ,n⟩=J P W0 n v1 (LZ P W0 d f args [] v Q) l1 env σ:=rfl
end
attribute [push_cast] put params Ait AkV if_true if_false Atk Atj iL kC bB eT G9 lk upd del El De sub R9 AoA AoL Ath AsU and_true true_and Aun Int.natCast_nonneg Int.zero_le_ofNat Ata AsO AhU Aiy cond_true cond_false AcL AsH AsL zQ AlS At2 and_self and_false false_and Are ApP ApB AqF Aoq Akk Aou Aai Ao7 Aam Aph yL Aqb Yo Ag0 eV AkX YH Aff Y7 Agu YX Aew Tn vV dG Ala kQ AiS mV Aje dA AmW qJ AiI w9 Akn Ajz AjD Amh Akr AjV AmC gO Tk v7 Xx Q4 kE tZ Zw AdW AfL Zn SV RO Zu Yt Tu Tt XZ m8 Sa Sc PT T3 AdC bJ AgR Aao Ahx tW qD dN kM jX Sq PJ PE T2 Adk Af9 Ady AhQ mB R8 AfD AkU AlD zV sA Aap rW Yr S1 YZ Ye Xu Tr B6 yP Pw MA Lh OY PN Pd Sm Zq ApK AgP Aly AkH AnD Ai5 yI zH AmX Af0 Aau AlW yQ Aat Agd Afx Al2 Al3 AeH Adt Al0 An2 AdQ Aqy uU Ami wQ vE yK zP uL Aqw aB lG gA d6 AlR Tl X7 Ad8 uC uB vT dU Sd X5 RZ Aqx Akl Alb uM tE Ak1 AeV All Ano xL uR iN oJ qF qW yY AfW AaG AfG rC yD oE wO dO nW Y0 eE dK dY gX AjA Alr AkL Ale Adg Am6 ZA iQ cA yU XL XW YM Zr Zf Zx Aal rF kD aM gD Rq P3 QE Qb QC ZI Z6 At3 List.all_nil Bool.and_self AqV AhX Afr zL pD zY AlE tX AeS tS yC vK NS M7 SW QP Aib Pa SF Xy M8 PO S6 Aee AE.cs Aan nQ o1 o0 m1 ci mZ mC l1 lA fA xT bT bZ bC q1 q2 q3 pO pA nL nS nT nC bX iA sT gT gF BG BB EQ Ew F0 EP FSz Er oP oR oS rS sQ cD AeG Aay HL uQ y8 xR decide_true decide_false
end Go.Ir
end
section
namespace Go.Ir
open Go.Proofs Go.RowKit
section
variable{P:Program}{W0:World}
theorem M4{f0:FuncId}{T:TypeId}{u u':V}{id:Id}{off:Nat}(hcal:callable P f0=true)(hc:(cells u)[off]?=some .np)(hset:De u off 1 (.ref id off)=some u')
  (fresh:∀(b:Nat) (w:World),w.cell? ⟨b,off,none⟩=some (.pointer none)->w.shape? b=some (T,(cells u).length)->w.frozen? ⟨b,off,none⟩=false->off<(cells u).length->
   Calls P f0 #[.pointer (some ⟨b,off,none⟩)] w fun e w'=>e=.returned (.tuple #[])/\w'=w.setCell ⟨b,off,none⟩ (.pointer (some ⟨b,off,none⟩))) :
  Am P W0 f0 [.ref id off] [(id,.tbox T u)] (.tup []) [(id,.tbox T u')] where
 callable:=hcal
 dom:=fun i hi=>by
  simp only[lk] at hi⊢
  grind
 run:=by
  intro n w μ H vals hp hargs
  have hl:lk [(id,AC.tbox T u)] id=some (.tbox T u):=by simp[lk]
  obtain⟨hl1,hfit,hcells⟩:=FY hset
  have hoff:off<(cells u).length:=by omega
  have hund:∀{μ:Id->Option Value} {H:Addr->Option Value},Ap μ H (.tup []) (.tuple #[]):=.tup [] [] rfl (fun k c v hk=>by simp at hk)
  obtain⟨x,rfl,hx⟩:=hargs.one_
  obtain⟨bk,hm,rfl⟩:=hx.ref_inv
  obtain⟨bk',cv,hm',hB,hg,hrel⟩:=hp.ents _ _ hl
  rw[hm] at hm'
  cases hm'
  obtain⟨x0,hx0,hr0⟩:=hrel.toVRels.get hc
  rw[hr0.np_inv'] at hx0
  have hlen:(cells u).length=cv.size:=by rw[hrel.len];simp
  have hk0:off<cv.size:=by omega
  have hcv:cv[off]=.pointer none:=by
   grind
  refine AqY (fresh bk w (by simp[World.cell?,hg,hk0,hcv]) (by simp[World.shape?,hg,hlen]) (by simp[World.frozen?,hg]) hoff) ?_
  rintro e w' ⟨rfl,rfl⟩
  have hset':w.setCell ⟨bk,off,none⟩ (.pointer (some ⟨bk,off,none⟩))=w.setRow bk (cv.setIfInBounds off (.pointer (some ⟨bk,off,none⟩))):=setCell_eq_setRow w bk off cv T (0,0) _ hg
  rw[hset']
  have hrel':AG μ H (cells u') (cv.setIfInBounds off (.pointer (some ⟨bk,off,none⟩))).toList:=by
   have h1:AG μ H (cells (V.ref id off)) [.pointer (some ⟨bk,off,none⟩)]:=⟨VRels.nil_.cons (.ref id off bk hm),fun v hv=>by simp at hv;subst hv;rfl⟩
   have:=Da hrel h1 off (off+1)
   rw[hcells,AtI,Atx,if_pos (by simpa using hk0)]
   simpa using this
  have hnew:=hp.set_ (e:=.tbox T u') hl ((AJ.setRow w bk _).to (fun k hk=>by subst hk;simp[hm,BI])) ⟨bk,_,hm,hB,setRow_heap w bk cv _ T (0,0) hg,hrel'⟩
  have hup:upd [(id,AC.tbox T u)] id (.tbox T u')=[(id,.tbox T u')]:=by simp[upd]
  grind
theorem Pb{f0:FuncId}{T:TypeId}{u:V}{id:Id}{off:Nat}(hcal:callable P f0=true)(hc:(cells u)[off]?=some (.ref id off))
  (used:∀(b:Nat) (w:World),w.cell? ⟨b,off,none⟩=some (.pointer (some ⟨b,off,none⟩))->Calls P f0 #[.pointer (some ⟨b,off,none⟩)] w fun e w'=>e=.returned (.tuple #[])/\w'=w) :
  Am P W0 f0 [.ref id off] [(id,.tbox T u)] (.tup []) [(id,.tbox T u)] where
 callable:=hcal
 dom:=fun i hi=>hi
 run:=by
  intro n w μ H vals hp hargs
  have hl:lk [(id,AC.tbox T u)] id=some (.tbox T u):=by simp[lk]
  have hund:∀{μ:Id->Option Value} {H:Addr->Option Value},Ap μ H (.tup []) (.tuple #[]):=.tup [] [] rfl (fun k c v hk=>by simp at hk)
  obtain⟨x,rfl,hx⟩:=hargs.one_
  obtain⟨bk,hm,rfl⟩:=hx.ref_inv
  obtain⟨bk',cv,hm',hB,hg,hrel⟩:=hp.ents _ _ hl
  rw[hm] at hm'
  cases hm'
  obtain⟨x0,hx0,hr0⟩:=hrel.toVRels.get hc
  obtain⟨bk2,hm2,rfl⟩:=hr0.ref_inv
  rw[hm] at hm2
  cases hm2
  have hk0:off<cv.size:=by
   grind
  have hcv:cv[off]=.pointer (some ⟨bk,off,none⟩):=by
   grind
  refine AqY (used bk w (by simp[World.cell?,hg,hk0,hcv])) ?_
  rintro e w' ⟨rfl,rfl⟩
  exact⟨_,μ,H,n,rfl,hund,hp,AbG _,Fr.refl _ _ _ _,fun _ _ h=>h⟩
theorem Qy{f0:FuncId}{e:TypeId}{T:TypeId}{u:V}{id bid:Id}{off:Nat}{l:List UInt8}(hcal:callable P f0=true)(hc:(cells u)[Nat.succ off]?=some (.arr bid))(hne:bid≠id)(hlim:l.length<=A9)
  (hrun:∀(b:Nat) (v:Value) (B:Nat) (w:World),w.cell? ⟨b,Nat.succ off,none⟩=some v->w.ownsRow B e 1 v l.length (Lib.byteCells l)->
   Calls P f0 #[.pointer (some ⟨b,off,none⟩)] w fun e w'=>e=.returned (.string ⟨l.toArray⟩)/\w.grownBy w' v.ownBlock) :
  Am P W0 f0 [.ref id off] [(id,.tbox T u),(bid,.arr e 1 (Ax l))] (.s l) [(id,.tbox T u)] where
 callable:=hcal
 dom:=fun i hi=>by
  simp only[lk] at hi⊢
  grind
 run:=by
  intro n w μ H vals hp hargs
  have hl:lk [(id,AC.tbox T u),(bid,.arr e 1 (Ax l))] id=some (.tbox T u):=by simp[lk]
  have hlb:lk [(id,AC.tbox T u),(bid,.arr e 1 (Ax l))] bid=some (.arr e 1 (Ax l)):=by simp[lk,Ail hne]
  obtain⟨y,rfl,hy⟩:=hargs.one_
  obtain⟨bk,hm,rfl⟩:=hy.ref_inv
  obtain⟨bk',cv,hm',hB,hg,hrel⟩:=hp.ents _ _ hl
  rw[hm] at hm'
  cases hm'
  obtain⟨val,hx0,hr⟩:=hrel.toVRels.get hc
  have hcell:w.cell? ⟨bk,Nat.succ off,none⟩=some val:=by
   have hk0:=(AlY.1 hx0).1
   have hk0:Nat.succ off<cv.size:=by simpa using hk0
   rw[AsA,ApZ hk0] at hx0
   simp only[World.cell?,hg,ApZ hk0]
   exact hx0
  obtain⟨hmb,h1c⟩:=hr.arr_inv
  obtain⟨bvals,_,hown,hlim',hsz,hrel2⟩:=CO hp hlb hmb
  rw[Iq hrel2,show(Ax l).length=l.length by simp[Ax]] at hown
  refine AqY (hrun bk val W0.heap.size w hcell hown) ?_
  rintro e'' w' ⟨rfl,hgr⟩
  have hob:∀k,some k=val.ownBlock->BI (μ bid)=some k:=by
   intro k hk
   rw[hmb]
   obtain⟨A',cap',hv'⟩:=BN hown
   rw[hv'] at hk⊢
   cases A' with
   | none=>simp[Value.ownBlock] at hk
   | some A'=>simpa[Value.ownBlock,BI] using hk.symm
  have hd:del [(id,AC.tbox T u),(bid,.arr e 1 (Ax l))] bid=[(id,.tbox T u)]:=by simp[del,Ail hne]
  have:=hp.lose (σ1:=del [(id,AC.tbox T u),(bid,.arr e 1 (Ax l))] bid) (AJ.of_grown hgr) (fun k hk=>⟨bid,_,hlb,hob k hk⟩) (fun id' e' h=>by
   rw[C7] at h
   split at h
   ·cases h
   ·rename_i hne
    exact⟨h,fun b hb hb'=>hne (hp.sep _ _ _ _ b hlb h (hob b hb') hb)⟩)
  rw[hd] at this
  exact⟨_,μ,H,n,rfl,.s l hlim,this.1,AbG _,this.2,fun _ _ h=>h⟩
end
variable(W0:World)
theorem TI{T:TypeId}{id:Id}{r:List V}(hlies:liesAt Tryz.prog Tryz.prog.depth T ((r.length+1) / Tryz.prog.cellsOf T) 0 98 1=true) :
  Am Tryz.prog W0 180 [.ref id 0] [(id,.tbox T (.agg (.np::r)))] (.tup []) [(id,.tbox T (.agg (.ref id 0::r)))]:=
 M4 (by kernel_rfl) rfl (by simp[De,cells,R9,P0,V.one]) fun b w h0 hsh hfz hoff=>Ln T (r.length+1) 0 hlies b w h0 hsh hfz hoff
theorem Xg{T:TypeId}{id:Id}{r:List V}:Am Tryz.prog W0 180 [.ref id 0] [(id,.tbox T (.agg (.ref id 0::r)))] (.tup []) [(id,.tbox T (.agg (.ref id 0::r)))]:=
 Pb (by kernel_rfl) rfl fun b w h0=>Nm b 0 w h0
theorem NE{T:TypeId}{id bid:Id}{l:List UInt8}{a:V}{r:List V}(hne:bid≠id)(hl:l.length<=A9) :
  Am Tryz.prog W0 45 [.ref id 0] [(id,.tbox T (.agg (a :: .arr bid::r))),(bid,.arr 5 1 (Ax l))] (.s l) [(id,.tbox T (.agg (a :: .arr bid::r)))]:=
 Qy (by kernel_rfl) rfl hne hl fun b v B w h0 ho=>Ko b 0 l v B w h0 ho
end Go.Ir
end
section
namespace Go.Ir
abbrev Aa:=List UInt8
structure Aj where
 kind:Int
 text:Aa
 name:Aa
 style:Aa
 cases:List (Aa×List Aj)
 parts:List Aj
abbrev AQ:=Aa×List Aj
mutual
def Aj.enc:Aj->V
 | ⟨k,t,n,s,cs,ps⟩=>.agg [.i .i64 k,.s t,.s n,.s s,.sl (Je cs),.sl (GN ps)]
def GN:List Aj->List V
 | []=>[]
 | p::ps=>p.enc::GN ps
def Je:List (Aa×List Aj)->List V
 | []=>[]
 | (k,ps)::cs=>.agg [.s k,.sl (GN ps)]::Je cs
end
mutual
def Aj.wt:Aj->Nat
 | ⟨_,t,n,s,cs,ps⟩=>1+t.length+n.length+s.length+EB cs+Bd ps
def Bd:List Aj->Nat
 | []=>0
 | p::ps=>p.wt+Bd ps
def EB:List (Aa×List Aj)->Nat
 | []=>0
 | (k,ps)::cs=>1+k.length+Bd ps+EB cs
end
def AQ.enc(c:AQ):V:=.agg [.s c.1,.sl (GN c.2)]
theorem Hn:∀ps,GN ps=ps.map Aj.enc
 | []=>by simp[GN]
 | p::ps=>by simp[GN,Hn ps]
theorem MK:∀cs,Je cs=cs.map AQ.enc
 | []=>by simp[Je]
 | (k,ps)::cs=>by simp[Je,MK cs,AQ.enc]
@[push_cast] theorem Aj.enc_eq(p:Aj):p.enc=.agg [.i .i64 p.kind,.s p.text,.s p.name,.s p.style,.sl (p.cases.map AQ.enc),.sl (p.parts.map Aj.enc)]:=by
 cases p;simp[Aj.enc,Hn,MK]
@[push_cast] theorem AQ.enc_eq(c:AQ):AQ.enc c=.agg [.s c.1,.sl (c.2.map Aj.enc)]:=by simp[AQ.enc,Hn]
theorem Aj.wt_eq(p:Aj):p.wt=1+p.text.length+p.name.length+p.style.length+EB p.cases+Bd p.parts:=by cases p;simp[Aj.wt]
theorem Bu(p:Aj)(ps:List Aj):Bd (p::ps)=p.wt+Bd ps:=by simp[Bd]
theorem BX(c:AQ)(cs:List AQ):EB (c::cs)=1+c.1.length+Bd c.2+EB cs:=by obtain⟨k,ps⟩:=c;simp[EB]
theorem PR:Bd []=0:=by simp[Bd]
theorem gG:EB []=0:=by simp[EB]
theorem GV{ps:List Aj}{p:Aj}(h:p∈ps):p.wt<=Bd ps:=by
 induction ps with
 | nil=>cases h
 | cons d ps ih=>
  rw[Bu]
  grind
theorem DO{cs:List AQ}{c:AQ}(h:c∈cs):1+c.1.length+Bd c.2<=EB cs:=by
 induction cs with
 | nil=>cases h
 | cons d cs ih=>
  rw[BX]
  grind
theorem EE(ps:List Aj):ps.length<=Bd ps:=by
 induction ps with
 | nil=>simp
 | cons p ps ih=>rw[Bu,AhU,p.wt_eq];omega
theorem FL(cs:List AQ):cs.length<=EB cs:=by
 induction cs with
 | nil=>simp
 | cons p ps ih=>rw[BX,AhU];omega
section zip
variable{α β:Type}{f:α→β}{done rest:List α}{x:α}
@[push_cast] theorem Aqc:decide ((done.length:Int)<((done++x::rest).length:Int))=true:=by simp;omega
@[push_cast] theorem Aos:(List.map f (done++x::rest))[done.length]?=some (f x):=by simp
@[push_cast] theorem Ajn:(done++x::rest)[done.length]?=some x:=by simp
@[push_cast] theorem Aoa(n:Int):decide (n<n)=false:=by simp
theorem Ad(x:α){done:List α}(h:done.length<2^62):IntKind.i64.wrap ((done.length:Int)+1)=((done++[x]).length:Int):=by
 rw[wrap64 (by omega) (by omega)];simp
theorem AN{xs:List α}(h:xs=done++x::rest):done.length<xs.length:=by rw[h];simp
end zip
attribute [push_cast] Ae5
@[push_cast] theorem Aiz{c:UInt8}{r:List UInt8}:(c::r==[])=false:=rfl
@[push_cast] theorem Aiu:(([]:List UInt8)==[])=true:=rfl
@[push_cast] theorem ep1(a k:Nat):(a+1+k=a)=False:=by simp;omega
@[push_cast] theorem AsR(a k:Nat):(a=a+1+k)=False:=by simp;omega
@[push_cast] theorem ep2(a k j:Nat):(a+1+k+1+j=a)=False:=by simp;omega
@[push_cast] theorem As5(a k j:Nat):(a=a+1+k+1+j)=False:=by simp;omega
@[push_cast] theorem ep3(a k j i:Nat):(a+1+k+1+j+1+i=a)=False:=by simp;omega
@[push_cast] theorem Atf(a k j i:Nat):(a=a+1+k+1+j+1+i)=False:=by simp;omega
@[push_cast] theorem ep4(a k j i h:Nat):(a+1+k+1+j+1+i+1+h=a)=False:=by simp;omega
@[push_cast] theorem Asw(a k j i h:Nat):(a=a+1+k+1+j+1+i+1+h)=False:=by simp;omega
@[push_cast] theorem ep5(a k j i h g:Nat):(a+1+k+1+j+1+i+1+h+1+g=a)=False:=by simp;omega
@[push_cast] theorem Atq(a k j i h g:Nat):(a=a+1+k+1+j+1+i+1+h+1+g)=False:=by simp;omega
@[push_cast] theorem AjF(l:List V):BU (.sl l)=none:=rfl
@[push_cast] theorem Aix:BU .nil=none:=rfl
@[push_cast] theorem AmO(v:V)(k:Nat):BU (v.ep k)=none:=rfl
@[push_cast] theorem Aoc(l:Aa):BU (.s l)=none:=rfl
@[push_cast] theorem Aor(l:Bool):BU (.b l)=none:=rfl
@[push_cast] theorem AnY(k:IntKind)(l:Int):BU (.i k l)=none:=rfl
@[push_cast] theorem Ais(l:List V):BU (.agg l)=none:=rfl
@[push_cast] theorem Aim(id:Id)(o:Nat):BU (.ref id o)=some id:=rfl
@[push_cast] theorem Air(id:Id):BU (.arr id)=some id:=rfl
attribute [push_cast] List.forall_mem_cons Asm false_imp_iff implies_true Aiq forall_eq' ne_eq not_false_eq_true
def Aj.v(p:Aj):V:=.agg [.i .i64 p.kind,.s p.text,.s p.name,.s p.style,.sl (p.cases.map AQ.enc),.sl (p.parts.map Aj.enc)]
def AQ.v(c:AQ):V:=.agg [.s c.1,.sl (c.2.map Aj.enc)]
theorem Hx(x:UInt8){done:List UInt8}(h:done.length<A9):IntKind.i64.wrap ((done.length:Int)+1)=((done++[x]).length:Int):=Ad x (by unfold A9 at h;omega)
@[push_cast] theorem Aqv(w r:Aa):(if 0<=w.length/\w.length<=(w++r).length then some (V.s (List.take w.length (w++r))) else none)=some (V.s w):=by
 grind
@[push_cast] theorem Aow(w r:Aa):(if w.length<=(w++r).length/\(w++r).length<=(w++r).length then some (V.s (List.drop w.length (List.take (w++r).length (w++r)))) else none)=some (V.s r):=by
 grind
@[push_cast] theorem Aof(w r:Aa)(c:UInt8):(if(w++[c]).length<=(w++c::r).length/\(w++c::r).length<=(w++c::r).length then some (V.s (List.drop (w++[c]).length (List.take (w++c::r).length (w++c::r)))) else none)=some (V.s r):=by
 rw[if_pos ⟨by simp,AbG _⟩,Aip,show w++c::r=(w++[c])++r by simp];simp only[Auh]
@[push_cast] theorem Aom(w:Aa):(if 0<=w.length/\w.length<=w.length then some (V.s (List.take w.length w)) else none)=some (V.s w):=by
 grind
@[push_cast] theorem Ap3{α:Type}(f:α->V)(w r:List α):(if 0<=w.length/\w.length<=(w++r).length then some (V.sl (List.take w.length (List.map f (w++r)))) else none)=some (V.sl (List.map f w)):=by
 grind
end Go.Ir
end
namespace Go.Ir
open Go.Proofs
variable{P:Program}{W0:World}{nt n:Nat}{Q:Exit→St→Prop}{env:AD}{σ:Ak}
def pQ:IC:=sQ (.block 3 (oP [m1 31 3,m1 32 0,m1 33 4,iA 34 32 33 116 6,fA 35 34 4,l1 36 35,m1 37 5,iA 38 36 37 118 2,fA 39 38 1,l1 40 39,q1 41 69 40,o1 42 (.bin .add (ci 1) (.t 41)),o1 43 (.mx false (.t 31) [.t 42]),m1 3 43] [0,3,4,5])) (oP [m1 29 5,bZ 30 .add 29 1,m1 5 30] [0,3,4,5])
def dQ:IC:=sQ (oS [m1 21 5,m1 22 0,m1 23 4,iA 24 22 23 116 6,fA 25 24 4,l1 26 25,nL 27 26,bT 28 .lss 21 27] [0,3,4,5,28] (cD 28 .skip (.exit 2))) pQ
def oN:IC:=sQ (.block 1 (oS [m1 12 3,m1 13 0,m1 14 4,iA 15 13 14 116 6,fA 16 15 5,l1 17 16,q1 18 69 17,o1 19 (.bin .add (ci 1) (.t 18)),o1 20 (.mx false (.t 12) [ci 1,.t 19]),m1 3 20] [0,3,4] (oS [mZ 5 0] [0,3,4,5] (.block 2 (.loop dQ))))) (oP [m1 10 4,bZ 11 .add 10 1,m1 4 11] [0,3,4])
def Aby:IC:=sQ (oS [mZ 4 0] [0,3,4] (.block 0 (.loop (sQ (oS [m1 6 4,m1 7 0,nL 8 7,bT 9 .lss 6 8] [0,3,4,9] (cD 9 .skip (.exit 0))) oN)))) (oR [m1 44 3,m1 2 44] [2])
def Ab2:IC:=oS [mZ 2 0] [0] (oS [mZ 3 0] [0,3] Aby)
@[push_cast]def Apz:List R:=[.t 2]
@[push_cast]def AsX:=As pQ.eq_1<|As dQ.eq_1<|As oN.eq_1<|As Aby.eq_1<|AL Ab2.eq_1
theorem An9:Aw Tryz.prog 69 45 Ab2 Apz=true:=by kernel_rfl
def jA:IC:=sQ (.block 3 (oP [m1 39 3,m1 40 0,m1 41 4,iA 42 40 41 116 6,fA 43 42 4,l1 44 43,m1 45 5,iA 46 44 45 118 2,fA 47 46 1,l1 48 47,q1 49 70 48,o1 50 (.bin .add (ci 1) (.t 49)),bT 51 .add 39 50,m1 3 51] [0,3,4,5])) (oP [m1 37 5,bZ 38 .add 37 1,m1 5 38] [0,3,4,5])
def cO:IC:=sQ (oS [m1 29 5,m1 30 0,m1 31 4,iA 32 30 31 116 6,fA 33 32 4,l1 34 33,nL 35 34,bT 36 .lss 29 35] [0,3,4,5,36] (cD 36 .skip (.exit 2))) jA
def oY:IC:=sQ (.block 1 (sQ (.ops [m1 12 3,m1 13 0,m1 14 4,iA 15 13 14 116 6,fA 16 15 5,l1 17 16,q1 18 70 17,o1 19 (.bin .add (ci 1) (.t 18)),m1 20 0,m1 21 4,iA 22 20 21 116 6,fA 23 22 1,l1 24 23,nS 25 24,bZ 26 .quo 25 20,bT 27 .add 19 26,bT 28 .add 12 27,m1 3 28] [0,3,4] [[1,3],[2,3],[3,4],[4,5],[5,6],[6,7],[8,10],[9,10],[10,11],[11,12],[12,13],[13,14],[7,15],[14,15],[0,16],[15,16],[0,17],[16,17]]) (oS [mZ 5 0] [0,3,4,5] (.block 2 (.loop cO))))) (oP [m1 10 4,bZ 11 .add 10 1,m1 4 11] [0,3,4])
def AcF:IC:=sQ (oS [mZ 4 0] [0,3,4] (.block 0 (.loop (sQ (oS [m1 6 4,m1 7 0,nL 8 7,bT 9 .lss 6 8] [0,3,4,9] (cD 9 .skip (.exit 0))) oY)))) (oR [m1 52 3,m1 2 52] [2])
def AcS:IC:=oS [mZ 2 0] [0] (oS [mZ 3 0] [0,3] AcF)
@[push_cast]def ApM:List R:=[.t 2]
@[push_cast]def Ate:=As jA.eq_1<|As cO.eq_1<|As oY.eq_1<|As AcF.eq_1<|AL AcS.eq_1
theorem AjQ:Aw Tryz.prog 70 53 AcS ApM=true:=by kernel_rfl
def mE:IC:=sQ (.block 3 (oS [m1 46 0,m1 47 3,iA 48 46 47 116 6,fA 49 48 4,l1 50 49,m1 51 4,iA 52 50 51 118 2,fA 53 52 0,l1 54 53,nS 55 54,bZ 56 .gtr 55 60,m1 57 56,BB 58 57 0,BB 59 57 3,gF 60 57 (.iaddr (.t 58) (.t 59) 116 6),EP 61 57 60 4,Ew 62 57 61,BB 63 57 4,gF 64 57 (.iaddr (.t 62) (.t 63) 118 2),EP 65 57 64 1,Ew 66 57 65,gF 67 57 (.call 71 [.t 66]),gF 68 57 (.not (.t 67)),pO 69 57 68] [0,3,4,69] (cD 69 (oR [mC 2 (.b false)] [2]) .skip))) (oP [m1 44 4,bZ 45 .add 44 1,m1 4 45] [0,3,4])
def aR:IC:=sQ (.block 1 (sQ (oS [m1 11 0,m1 12 3,iA 13 11 12 116 6,fA 14 13 2,l1 15 14,nS 16 15,bZ 17 .gtr 16 60,m1 18 17,BB 19 18 0,BB 20 18 3,gF 21 18 (.iaddr (.t 19) (.t 20) 116 6),EP 22 18 21 3,Ew 23 18 22,gF 24 18 (.lenS (.t 23)),Er 25 18 .gtr 24 60,pO 26 18 25,m1 27 26,BB 28 27 0,BB 29 27 3,gF 30 27 (.iaddr (.t 28) (.t 29) 116 6),EP 31 27 30 5,Ew 32 27 31,gF 33 27 (.call 71 [.t 32]),gF 34 27 (.not (.t 33)),pO 35 27 34] [0,3,35] (cD 35 (oR [mC 2 (.b false)] [2]) .skip)) (oS [mZ 4 0] [0,3,4] (.block 2 (.loop (sQ (oS [m1 36 4,m1 37 0,m1 38 3,iA 39 37 38 116 6,fA 40 39 4,l1 41 40,nL 42 41,bT 43 .lss 36 42] [0,3,4,43] (cD 43 .skip (.exit 2))) mE)))))) (oP [m1 9 3,bZ 10 .add 9 1,m1 3 10] [0,3])
def AbC:IC:=sQ (oS [mZ 3 0] [0,3] (.block 0 (.loop (sQ (oS [m1 5 3,m1 6 0,nL 7 6,bT 8 .lss 5 7] [0,3,8] (cD 8 .skip (.exit 0))) aR)))) (oR [mC 2 (.b true)] [2])
def Aco:IC:=oS [mC 2 (.b false)] [0] AbC
@[push_cast]def Apo:List R:=[.t 2]
@[push_cast]def Atr:=As mE.eq_1<|As aR.eq_1<|As AbC.eq_1<|AL Aco.eq_1
theorem AkE:Aw Tryz.prog 71 70 Aco Apo=true:=by kernel_rfl
def Ace:IC:=oR [m1 3 0,q1 4 69 3,bZ 5 .leq 4 12,m1 6 5,BG 7 6 0,gT 8 6 (.call 70 [.t 7]),FSz 9 6 .leq 8 300,pA 10 6 9,m1 11 10,BG 12 11 0,gT 13 11 (.call 71 [.t 12]),pA 14 11 13,m1 2 14] [2]
def Abp:IC:=oS [mC 2 (.b false)] [0] Ace
@[push_cast]def Ao2:List R:=[.t 2]
@[push_cast]def AsF:=As Ace.eq_1<|AL Abp.eq_1
theorem Am5:Aw Tryz.prog 43 15 Abp Ao2=true:=by kernel_rfl
end Go.Ir
section
namespace Go.Ir
open Go.Proofs
mutual
def Aj.shortB:Aj->Bool
 | ⟨_,_,n,s,cs,ps⟩=>!(decide ((n.length:Int)>60)||decide ((s.length:Int)>60)||!Cw ps)&&EY cs
def Cw:List Aj->Bool
 | []=>true
 | p::ps=>p.shortB&&Cw ps
def EY:List (Aa×List Aj)->Bool
 | []=>true
 | (k,ps)::cs=>!(decide ((k.length:Int)>60)||!Cw ps)&&EY cs
end
theorem Aj.shortB_eq(p:Aj):p.shortB=(!(decide ((p.name.length:Int)>60)||decide ((p.style.length:Int)>60)||!Cw p.parts)&&EY p.cases):=by cases p;simp only[Aj.shortB]
theorem OK(p:Aj)(ps:List Aj):Cw (p::ps)=(p.shortB&&Cw ps):=by simp only[Cw]
theorem NJ(c:AQ)(ps:List AQ):EY (c::ps)=(!(decide ((c.1.length:Int)>60)||!Cw c.2)&&EY ps):=by obtain⟨k,q⟩:=c;simp only[EY]
theorem XO(W0:World):∀(N:Nat) (ps:List Aj),Bd ps<N->Bd ps<=2^24->Am Tryz.prog W0 71 [.sl (ps.map Aj.enc)] [] (.b (Cw ps)) []:=by
 intro N
 induction N with
 | zero=>intro ps h;omega
 | succ N ih=>
 intro ps hN hb
 generalize hS:Cw ps=S
 refine Ai (vs:=[.b S]) AkE (by simp) (by simp) fun n hn=>?_
 clear hn
 simp only[push_cast,seval,reduceEqDiff]
 intro _ _
 refine An ps.length (Inv:=fun m st=>∃done rest n,ps=done++rest/\m=rest.length/\Cw rest=S/\st=⟨[(0,.sl (ps.map Aj.enc)),(3,.i .i64 done.length)],[],n⟩) ⟨_,Al.refl,[],ps,_,rfl,rfl,hS,rfl⟩ ?_
 clear hS
 rintro m _ ⟨done,rest,n,rfl,rfl,hd,rfl⟩
 have hlen:=EE (done++rest)
 cases rest with
 | nil=>
  simp only[push_cast,seval,reduceEqDiff]
  intro _ _
  exact Ah (by rw[<-hd];rfl)
 | cons p rest=>
  have hw:=GV (ps:=done++p::rest) (p:=p) (by simp)
  rw[p.wt_eq] at hw
  rw[OK,p.shortB_eq] at hd
  simp only[push_cast,seval,reduceEqDiff]
  have _h:=trivial;repeat' (first|(first|((first|apply Ac|apply Ag|apply Af)<;>intro _h)|refine Ab (ih p.parts (by omega) (by omega)) ?_)<;>(simp only[push_cast,seval,reduceEqDiff,_h];try (have _g:=_h;simp at _g))|intro _)
  all_goals (try exact Ah (by simp[get,<-hd, *];done))
  have hd2:(EY p.cases&&Cw rest)=S:=by rw[<-hd];simp[*]
  refine An p.cases.length (Inv:=fun m st=>∃cd cr n,p.cases=cd++cr/\m=cr.length/\(EY cr&&Cw rest)=S/\st=⟨[(0,.sl ((done++p::rest).map Aj.enc)),(3,.i .i64 done.length),(4,.i .i64 cd.length)],[],n⟩) ⟨_,Al.refl,[],p.cases,_,rfl,rfl,hd2,rfl⟩ ?_
  clear hd hd2
  rintro m _ ⟨cd,cr,n,hcs,rfl,hd,rfl⟩
  have hcl:=FL p.cases
  cases cr with
  | nil=>
   simp only[push_cast,seval,reduceEqDiff,hcs,Ad p (done:=done) (by simp at hlen;omega)]
   intro _ _
   exact⟨_,_,Acq _,Al.refl,done++[p],rest,_,by simp,rfl,by rw[<-hd];rfl,rfl⟩
  | cons c cr=>
   have hwc:=DO (cs:=p.cases) (c:=c) (by simp[hcs])
   have hcb:=AN hcs
   rw[NJ] at hd
   simp only[push_cast,seval,reduceEqDiff,hcs,Ad c (done:=cd) (by omega)]
   have _h:=trivial;repeat' (first|(first|((first|apply Ac|apply Ag|apply Af)<;>intro _h)|refine Ab (ih c.2 (by omega) (by omega)) ?_)<;>(simp only[push_cast,seval,reduceEqDiff,_h,hcs,Ad c (done:=cd) (by omega)];try (have _g:=_h;simp at _g))|intro _)
   all_goals (try exact Ah (by simp[get,<-hd, *];done))
   exact⟨_,_,Acq _,Al.refl,cd++[c],cr,_,by simp[hcs],rfl,by rw[<-hd];simp[*],rfl⟩
end Go.Ir
end
namespace Go.Ir
open Go.Proofs
variable{P:Program}{W0:World}{nt n:Nat}{Q:Exit→St→Prop}{env:AD}{σ:Ak}
def Acp:IC:=oR [m1 3 0,bC 4 .geq 3 (.i .u8 97),m1 5 4,BG 6 5 0,gT 7 5 (.bin .leq (.t 6) (.c (.i .u8 122))),pA 8 5 7,m1 9 8,BB 10 9 0,gF 11 9 (.bin .geq (.t 10) (.c (.i .u8 65))),BB 12 9 11,BG 13 12 0,gT 14 12 (.bin .leq (.t 13) (.c (.i .u8 90))),gF 15 9 (.pick (.t 12) (.t 14) (.c (.b false))),pO 16 9 15,m1 17 16,BB 18 17 0,gF 19 17 (.bin .geq (.t 18) (.c (.i .u8 48))),BB 20 17 19,BG 21 20 0,gT 22 20 (.bin .leq (.t 21) (.c (.i .u8 57))),gF 23 17 (.pick (.t 20) (.t 22) (.c (.b false))),pO 24 17 23,m1 2 24] [2]
def Ab4:IC:=oS [mC 2 (.b false)] [0] Acp
@[push_cast]def AoH:List R:=[.t 2]
@[push_cast]def AsT:=As Acp.eq_1<|AL Ab4.eq_1
theorem AiC:Aw Tryz.prog 97 25 Ab4 AoH=true:=by kernel_rfl
def dV:IC:=oS [m1 26 0,m1 27 3,o1 28 (.idx (.t 26) (.t 27)),q1 29 97 28,nT 30 29,m1 31 30,BG 32 31 0,BG 33 31 3,gT 34 31 (.idx (.t 32) (.t 33)),gT 35 31 (.bin .neq (.t 34) (.c (.i .u8 95))),pA 36 31 35,m1 37 36,BG 38 37 0,BG 39 37 3,gT 40 37 (.idx (.t 38) (.t 39)),gT 41 37 (.bin .neq (.t 40) (.c (.i .u8 45))),pA 42 37 41] [0,22,23,42] (cD 42 (oR [mC 2 (.b false)] [2]) .skip)
def dZ:IC:=oS [bT 24 .lss 23 22] [0,22,23,24] (sQ (cD 24 .skip (.exit 0)) (sQ (.block 1 (oS [m1 25 23,m1 3 25] [0,3,22,23] dV)) (oP [bZ 43 .add 23 1,m1 23 43] [0,22,23])))
def Acg:IC:=sQ (oS [m1 4 0,bC 5 .eql 4 (.s []),m1 6 5,BB 7 6 0,gF 8 6 (.lenS (.t 7)),Er 9 6 .gtr 8 40,pO 10 6 9,m1 11 10,BB 12 11 0,gF 13 11 (.idx (.t 12) (ci 0)),gF 14 11 (.bin .lss (.t 13) (.c (.i .u8 97))),pO 15 11 14,m1 16 15,BB 17 16 0,gF 18 16 (.idx (.t 17) (ci 0)),gF 19 16 (.bin .gtr (.t 18) (.c (.i .u8 122))),pO 20 16 19] [0,20] (cD 20 (oR [mC 2 (.b false)] [2]) .skip)) (sQ (oS [m1 21 0,nS 22 21,mZ 23 0] [0,22,23] (.block 0 (.loop dZ))) (oR [mC 2 (.b true)] [2]))
def Acx:IC:=oS [mC 2 (.b false)] [0] Acg
@[push_cast]def Aq7:List R:=[.t 2]
@[push_cast]def Atp:=As dV.eq_1<|As dZ.eq_1<|As Acg.eq_1<|AL Acx.eq_1
theorem AjB:Aw Tryz.prog 62 44 Acx Aq7=true:=by kernel_rfl
def Xi:IC:=cD 4 .skip (oS [bC 8 .eql 3 (.s [102,101,119]),m1 4 8] [3,4] (cD 4 .skip (oS [bC 9 .eql 3 (.s [109,97,110,121]),m1 4 9] [3,4] (cD 4 .skip (oP [bC 10 .eql 3 (.s [111,116,104,101,114]),m1 4 10] [4])))))
def qQ:IC:=.block 0 (sQ (oS [bC 5 .eql 3 (.s [122,101,114,111]),m1 4 5] [3,4] (cD 4 .skip (oS [bC 6 .eql 3 (.s [111,110,101]),m1 4 6] [3,4] (cD 4 .skip (oS [bC 7 .eql 3 (.s [116,119,111]),m1 4 7] [3,4] Xi))))) (cD 4 (oR [mC 2 (.b true)] [2]) .skip))
def dJ:IC:=oS [mC 2 (.b false)] [0] (sQ (oS [m1 3 0] [3] qQ) (oR [mC 2 (.b false)] [2]))
@[push_cast]def Ak0:List R:=[.t 2]
@[push_cast]def AqA:=As Xi.eq_1<|As qQ.eq_1<|AL dJ.eq_1
theorem Adj:Aw Tryz.prog 242 11 dJ Ak0=true:=by kernel_rfl
def UZ:IC:=oS [m1 13 4,bC 14 .lss 13 (.i .u8 97),m1 15 14,BB 16 15 4,gF 17 15 (.bin .gtr (.t 16) (.c (.i .u8 122))),pO 18 15 17,m1 19 18,BG 20 19 4,gT 21 19 (.bin .lss (.t 20) (.c (.i .u8 65))),BG 22 19 21,BB 23 22 4,gF 24 22 (.bin .gtr (.t 23) (.c (.i .u8 90))),gT 25 19 (.pick (.t 22) (.c (.b true)) (.t 24)),pA 26 19 25] [0,6,7,26] (cD 26 (oR [mC 2 (.b false)] [2]) .skip)
def Uk:IC:=sQ (.block 1 (oS [m1 9 7,m1 3 9] [0,3,6,7] (oS [m1 10 0,m1 11 3,o1 12 (.idx (.t 10) (.t 11)),m1 4 12] [0,4,6,7] UZ))) (oP [bZ 27 .add 7 1,m1 7 27] [0,6,7])
def eU:IC:=sQ (oS [m1 5 0,nS 6 5,mZ 7 0] [0,6,7] (.block 0 (.loop (oS [bT 8 .lss 7 6] [0,6,7,8] (sQ (cD 8 .skip (.exit 0)) Uk))))) (oR [m1 28 0,bC 29 .neq 28 (.s []),m1 30 29,BG 31 30 0,gT 32 30 (.lenS (.t 31)),FSz 33 30 .leq 32 40,pA 34 30 33,m1 2 34] [2])
def ZY:IC:=oS [mC 2 (.b false)] [0] eU
@[push_cast]def AlN:List R:=[.t 2]
@[push_cast]def Asc:=As UZ.eq_1<|As Uk.eq_1<|As eU.eq_1<|AL ZY.eq_1
theorem AeJ:Aw Tryz.prog 184 35 ZY AlN=true:=by kernel_rfl
def Abg:IC:=oS [mC 2 (.b false)] [0] (oR [m1 3 0,bZ 4 .geq 3 7,m1 5 4,BG 6 5 0,FSz 7 5 .leq 6 9,pA 8 5 7,m1 2 8] [2])
@[push_cast]def Aqu:List R:=[.t 2]
@[push_cast]def Asy:=AL Abg.eq_1
theorem AnJ:Aw Tryz.prog 79 9 Abg Aqu=true:=by kernel_rfl
end Go.Ir

namespace Go.Ir
theorem Ae{W0:World}{nt n:Nat}{rs:List R}{vs:List V}{env:AD}{σ:Ak}(h:Dj ⟨env,σ,n⟩ rs vs):TE W0 nt rs vs [] .ret ⟨env,σ,n⟩:=
 ⟨_,Al.refl,h,fun id e h=>by simp[lk] at h⟩
def yA(o:Option AC)(off k:Nat)(ag:Bool)(v:V):Prop:=∃u,o=some (.box u)/\sub u off k ag=some v
def Ahv(x:V)(σ:Ak)(k:Nat)(ag:Bool)(v:V):Prop:=∃id off u,x=.ref id off/\lk σ id=some (.box u)/\sub u off k ag=some v
@[push_cast] theorem Am3{u v:V}{off k:Nat}{ag:Bool}:yA (some (.box u)) off k ag v=(sub u off k ag=some v):=by simp[yA]
@[push_cast] theorem AiU{id:Id}{off k:Nat}{σ:Ak}{ag:Bool}{v:V}:Ahv (.ref id off) σ k ag v=yA (lk σ id) off k ag v:=by
 unfold Ahv yA
 grind
@[push_cast] theorem Ald{env:AD}{σ:Ak}{n s k:Nat}{ag:Bool}{rs:List R}{v:V}{vs:List V}:Dj ⟨env,σ,n⟩ (.c s k ag::rs) (v::vs)=(Ahv (get env s) σ k ag v/\Dj ⟨env,σ,n⟩ rs vs):=rfl
@[push_cast] theorem AlK{env:AD}{σ:Ak}{n s:Nat}{rs:List R}{v:V}{vs:List V}:Dj ⟨env,σ,n⟩ (.t s::rs) (v::vs)=(get env s=v/\Dj ⟨env,σ,n⟩ rs vs):=rfl
@[push_cast] theorem Agn{st:St}:Dj st [] []=True:=rfl
theorem Al.drop1{W0:World}{nt n n':Nat}{env:AD}{σ:Ak}{id:Id}{x:AC}(h:lk σ id=none)(hn:n<=n'):Al W0 nt ⟨env,(id,x)::σ,n⟩ ⟨env,σ,n'⟩:=by
 refine Al.drop (fun id' e h'=>?_) hn
 simp only[lk]
 rw[if_neg]
 ·exact h'
 grind
theorem Co{σ:Ak}{id0:Id}{x:AC}(h:lk σ id0=none):∀id e,lk σ id=some e->lk ((id0,x)::σ) id=some e:=by
 intro id e h'
 simp only[lk]
 rw[if_neg]
 ·exact h'
 grind
end Go.Ir
section
namespace Go.Ir
theorem Al.dropM{W0:World}{nt n n':Nat}{env:AD}{a m:Id×AC}{σ:Ak}(h:lk σ m.1=none)(hn:n<=n'):Al W0 nt ⟨env,a::m::σ,n⟩ ⟨env,a::σ,n'⟩:=by
 obtain⟨ai,ae⟩:=a
 refine Al.drop (fun i e h'=>?_) hn
 simp only[lk] at h'⊢
 grind
theorem Aq{P:Program}{W0:World}{ep:Nat}{live:List Nat}{Q:Exit->St->Prop}{p:Prop}{l:List I}{env:AD}{σ:Ak}(h:p)(k:J P W0 ep live Q l env σ):JP P W0 ep live Q p l env σ:=⟨h,k⟩
section
variable{P:Program}{W0:World}{ep d:Nat}{live:List Nat}{Q:Exit→St→Prop}{l:List I}{env:AD}{σ:Ak}
theorem Hh{id:Id}{e e':AC}(h:∀p∈σ,p.1≠id):over [(id,e)] [(id,e')] ((id,e)::σ)=(id,e')::σ:=by
 have:List.filter (fun p:Id×AC=>(lk [(id,e)] p.1).isNone) σ=σ:=by
  rw[AtL]
  intro p hp
  have:=h p hp
  simp[lk,Ail this]
 unfold over
 rw[List.filter_cons_of_neg (by simp[lk]),this];rfl
theorem Mk{f:FuncId}{vs:List V}{v:V}{id:Id}{e e':AC}(h:Am P W0 f vs [(id,e)] v [(id,e')])(hne:∀p∈σ,p.1≠id)
  (hh:J P W0 ep live Q l ((d,v)::env) ((id,e')::σ)):Gl P W0 ep live Q f vs l d env ((id,e)::σ):=by
 refine BF h (fun i y hi=>?_) (by rw[Hh hne];exact hh)
 simp only[lk] at hi⊢
 grind
theorem Yy{f:FuncId}{vs:List V}{v:V}{id:Id}{e e':AC}{a:Id×AC}(h:Am P W0 f vs [(id,e)] v [(id,e')])(hne:∀p∈a::σ,p.1≠id)
  (hh:J P W0 ep live Q l ((d,v)::env) ((id,e')::a::σ)):Gl P W0 ep live Q f vs l d env (a::(id,e)::σ):=by
 have ha:a.1≠id:=hne a (by simp)
 refine BF h (fun i y hi=>?_) ?_
 ·obtain⟨j,x⟩:=a
  simp only[lk] at hi⊢
  grind
 ·have:over [(id,e)] [(id,e')] (a::(id,e)::σ)=(id,e')::a::σ:=by
   have h2:=Hh (e:=e) (e':=e') (fun p hp=>hne p (Abt a hp))
   have h3:(lk [(id,e)] a.1).isNone=true:=by simp[lk,Ail ha]
   simp only[over,List.filter_cons,h3,if_true,AtU,List.cons.injEq,true_and] at h2⊢
   simpa[lk] using h2
  rw[this];exact hh
end
end Go.Ir
end
namespace Go.Ir
open Go.Proofs
variable(W0:World)
def I3(n:Int):Bool:=decide (n>=97)&&decide (n<=122)||decide (n>=65)&&decide (n<=90)||decide (n>=48)&&decide (n<=57)
theorem X8(n:Int):Am Tryz.prog W0 97 [.i .u8 n] [] (.b (I3 n)) []:=by
 refine Ai (vs:=[.b (I3 n)]) AiC (by simp) (by simp) fun n0 hn0=>?_
 clear hn0
 simp only[push_cast,seval,reduceEqDiff]
 repeat' (first|(((first|apply Ac|apply Ag|apply Af)<;>intro _h)<;>(simp only[push_cast,seval,reduceEqDiff,_h];try (have _g:=_h;simp at _g)))|intro _)
 all_goals (first|(refine Ah ?_;simp[get,I3, *]<;>(intros;omega);done)|(refine Ae ?_;simp[push_cast,get,I3, *];done)|skip)
def Bx(n:Int):Bool:=decide (n>=7)&&decide (n<=9)
theorem Dh(n:Int):Am Tryz.prog W0 79 [.i .i64 n] [] (.b (Bx n)) []:=by
 refine Ai (vs:=[.b (Bx n)]) AnJ (by simp) (by simp) fun n0 hn0=>?_
 clear hn0
 simp only[push_cast,seval,reduceEqDiff]
 repeat' (first|(((first|apply Ac|apply Ag|apply Af)<;>intro _h)<;>(simp only[push_cast,seval,reduceEqDiff,_h];try (have _g:=_h;simp at _g)))|intro _)
 all_goals (first|(refine Ah ?_;simp[get,Bx, *]<;>(intros;omega);done)|(refine Ae ?_;simp[push_cast,get,Bx, *];done)|skip)
def PD(n:Int):Bool:=n==123||n==125||n==60||n==62||n==35||n==92
def JN(s:Aa):Bool:=s==[122,101,114,111]||s==[111,110,101]||s==[116,119,111]||s==[102,101,119]||s==[109,97,110,121]||s==[111,116,104,101,114]
theorem mN(s:Aa):Am Tryz.prog W0 242 [.s s] [] (.b (JN s)) []:=by
 refine Ai (vs:=[.b (JN s)]) Adj (by simp) (by simp) fun n0 hn0=>?_
 clear hn0
 simp only[push_cast,seval,reduceEqDiff]
 repeat' (first|(((first|apply Ac|apply Ag|apply Af)<;>intro _h)<;>(simp only[push_cast,seval,reduceEqDiff,_h];try (have _g:=_h;simp at _g)))|intro _)
 all_goals (first|(refine Ah ?_;simp[get,JN, *]<;>(intros;omega);done)|(refine Ae ?_;simp[push_cast,get,JN, *];done)|skip)
def LF(n:Int):Bool:=decide (n>=97)&&decide (n<=122)
def Aeo(n:Int):Bool:=n==7||n==8
def LS(n:Int):Bool:=I3 n||n==95||n==45
def J7(f:Int->Bool):Aa->Bool
 | []=>true
 | c::r=>f c.toNat&&J7 f r
def Ca:Aa->Bool
 | []=>false
 | c::r=>decide (((c::r).length:Int)<=40)&&LF c.toNat&&J7 LS (c::r)
theorem CP(s:Aa)(hs:s.length<A9):Am Tryz.prog W0 62 [.s s] [] (.b (Ca s)) []:=by
 generalize hS:Ca s=S
 refine Ai (vs:=[.b S]) AjB (by simp) (by simp) fun n0 hn0=>?_
 clear hn0
 simp only[push_cast,seval,reduceEqDiff]
 cases s with
 | nil=>
  simp only[push_cast,seval,reduceEqDiff]
  repeat' (first|(((first|apply Ac|apply Ag|apply Af)<;>intro _h)<;>(simp only[push_cast,seval,reduceEqDiff,_h];try (have _g:=_h;simp at _g)))|intro _)
  all_goals exact Ah (by simp[get,<-hS,Ca])
 | cons c0 r0=>
  unfold Ca at hS
  simp only at hS
  simp only[push_cast,seval,reduceEqDiff]
  repeat' (first|(((first|apply Ac|apply Ag|apply Af)<;>intro _h)<;>(simp only[push_cast,seval,reduceEqDiff,_h];try (have _g:=_h;simp at _g)))|intro _)
  all_goals (first|(refine Ah ?_;simp[get,<-hS,LF, *]<;>(intros;omega);done)|(refine Ae ?_;simp[push_cast,get,<-hS,LF, *];done)|skip)
  have hA:(decide (((c0::r0).length:Int)<=40)&&LF c0.toNat)=true:=by simp[LF];omega
  rw[hA,Arn] at hS
  refine An (c0::r0).length (Inv:=fun m st=>∃done rest n,c0::r0=done++rest/\m=rest.length/\J7 LS rest=S/\st=⟨[(0,.s (c0::r0)),(22,.i .i64 (c0::r0).length),(23,.i .i64 done.length)],[],n⟩) ⟨_,Al.refl,[],_,_,rfl,rfl,hS,by simp;rfl⟩ ?_
  clear hS
  rintro m _ ⟨done,rest,n,hz,rfl,hd,rfl⟩
  cases rest with
  | nil=>
   simp only[push_cast,seval,reduceEqDiff,hz]
   repeat' (first|(((first|apply Ac|apply Ag|apply Af)<;>intro _h)<;>(simp only[push_cast,seval,reduceEqDiff,_h];try (have _g:=_h;simp at _g)))|intro _)
   all_goals (first|(refine Ah ?_;simp[get,<-hd,J7, *]<;>(intros;omega);done)|(refine Ae ?_;simp[push_cast,get,<-hd,J7, *];done)|skip)
  | cons c rest=>
   have hb:=AN hz
   simp only[push_cast,seval,reduceEqDiff,hz,Hx c (done:=done) (by omega)]
   have _h:=trivial;repeat' (first|(first|((first|apply Ac|apply Ag|apply Af)<;>intro _h)|refine Ab (X8 W0 _) ?_)<;>(simp only[push_cast,seval,reduceEqDiff,_h,hz,Hx c (done:=done) (by omega)];try (have _g:=_h;simp at _g))|intro _)
   all_goals (first|(refine Ah ?_;simp[get,<-hd,J7,LS, *]<;>(intros;omega);done)|(refine Ae ?_;simp[push_cast,get,<-hd,J7,LS, *];done)|skip)
   all_goals (first|(refine⟨_,_,Acq _,Al.refl,done++[c],rest,_,?_,rfl,?_,rfl⟩<;>first|rfl|assumption|(simp[*];done)|(simp[<-hd,J7,LS, *]<;>(intros;omega);done))|skip)
def P8(n:Int):Bool:=decide (n>=97)&&decide (n<=122)||decide (n>=65)&&decide (n<=90)
def Eu(s:Aa):Bool:=J7 P8 s&&(decide ((s.length:Int)>=1)&&decide ((s.length:Int)<=40))
theorem R7(s:Aa)(hs:s.length<A9):Am Tryz.prog W0 184 [.s s] [] (.b (Eu s)) []:=by
 generalize hS:Eu s=S
 unfold Eu at hS
 generalize hT:(decide ((s.length:Int)>=1)&&decide ((s.length:Int)<=40))=T at hS
 refine Ai (vs:=[.b S]) AeJ (by simp) (by simp) fun n0 hn0=>?_
 clear hn0
 simp only[push_cast,seval,reduceEqDiff]
 intro _ _
 refine An s.length (Inv:=fun m st=>∃done rest n,s=done++rest/\m=rest.length/\(J7 P8 rest&&T)=S/\st=⟨[(0,.s s),(6,.i .i64 s.length),(7,.i .i64 done.length)],[],n⟩) ⟨_,Al.refl,[],_,_,rfl,rfl,hS,rfl⟩ ?_
 clear hS
 rintro m _ ⟨done,rest,n,hz,rfl,hd,rfl⟩
 cases rest with
 | nil=>
  have hd:T=S:=by rw[<-hd];rfl
  rw[Aou] at hz
  subst hz
  cases s with
  | nil=>
   simp only[push_cast,seval,reduceEqDiff]
   repeat' (first|(((first|apply Ac|apply Ag|apply Af)<;>intro _h)<;>(simp only[push_cast,seval,reduceEqDiff,_h];try (have _g:=_h;simp at _g)))|intro _)
   all_goals (first|(refine Ah ?_;simp[get,<-hd,<-hT, *]<;>(intros;omega);done)|(refine Ae ?_;simp[push_cast,get,<-hd,<-hT, *];done)|skip)
  | cons c0 r0=>
   simp only[push_cast,seval,reduceEqDiff]
   repeat' (first|(((first|apply Ac|apply Ag|apply Af)<;>intro _h)<;>(simp only[push_cast,seval,reduceEqDiff,_h];try (have _g:=_h;simp at _g)))|intro _)
   all_goals (first|(refine Ah ?_;simp[get,<-hd,<-hT, *]<;>(intros;omega);done)|(refine Ae ?_;simp[push_cast,get,<-hd,<-hT, *];done)|skip)
 | cons c rest=>
  have hb:=AN hz
  simp only[push_cast,seval,reduceEqDiff,hz,Hx c (done:=done) (by omega)]
  repeat' (first|(((first|apply Ac|apply Ag|apply Af)<;>intro _h)<;>(simp only[push_cast,seval,reduceEqDiff,_h,hz,Hx c (done:=done) (by omega)];try (have _g:=_h;simp at _g)))|intro _)
  all_goals (first|(refine Ah ?_;simp[get,<-hd,J7,P8, *]<;>(intros;omega);done)|(refine Ae ?_;simp[push_cast,get,<-hd,J7,P8, *];done)|skip)
  all_goals (first|(refine⟨_,_,Acq _,Al.refl,done++[c],rest,_,?_,rfl,?_,rfl⟩<;>first|rfl|assumption|(simp[*];done)|(simp[<-hd,J7,P8, *]<;>(intros;omega);done))|skip)
end Go.Ir

namespace Go.Ir
variable{P:Program}{W0:World}{nt n:Nat}{Q:Exit→St→Prop}{env:AD}{σ:Ak}
def AbJ(e sz:Nat)(ag:Bool):IC:=.ops [o1 4 (.mv (ci 0))] [0,1] []
def AaX(e sz:Nat)(ag:Bool):IC:=.ops [m1 6 0,o1 7 (.lenL (.t 6)),o1 8 (.mv (ci 0))] [0,1,7,8] []
def AbS(e sz:Nat)(ag:Bool):IC:=.ops [o1 9 (.bin .lss (.t 8) (.t 7))] [0,1,7,8,9] []
def eK(e sz:Nat)(ag:Bool):IC:=.cond (.t 9) .skip (.exit 0)
def aG(e sz:Nat)(ag:Bool):IC:=.ops [m1 10 8,m1 5 10] [0,1,5,7,8] []
def kU(e sz:Nat)(ag:Bool):IC:=.ops [m1 11 1,m1 12 0,m1 13 5,o1 14 (.iaddr (.t 12) (.t 13) e sz),o1 15 (.load (.t 14) sz ag),o1 16 (.callvs (.t 11) [(.t 15)])] [0,1,5,7,8,16] []
def sN(e sz:Nat)(ag:Bool):IC:=.ops [m1 17 5,m1 4 17] [4] []
def nY(e sz:Nat)(ag:Bool):IC:=.seq (sN e sz ag) .ret
def pI(e sz:Nat)(ag:Bool):IC:=.cond (.t 16) (nY e sz ag) .skip
def ZT(e sz:Nat)(ag:Bool):IC:=.seq (kU e sz ag) (pI e sz ag)
def sL(e sz:Nat)(ag:Bool):IC:=.seq (aG e sz ag) (ZT e sz ag)
def sE(e sz:Nat)(ag:Bool):IC:=.block 1 (sL e sz ag)
def cB(e sz:Nat)(ag:Bool):IC:=.ops [o1 18 (.bin .add (.t 8) (ci 1)),m1 8 18] [0,1,7,8] []
def Z9(e sz:Nat)(ag:Bool):IC:=.seq (sE e sz ag) (cB e sz ag)
def AaQ(e sz:Nat)(ag:Bool):IC:=.seq (eK e sz ag) (Z9 e sz ag)
def AbH(e sz:Nat)(ag:Bool):IC:=.seq (AbS e sz ag) (AaQ e sz ag)
def AcR(e sz:Nat)(ag:Bool):IC:=.loop (AbH e sz ag)
def Ack(e sz:Nat)(ag:Bool):IC:=.block 0 (AcR e sz ag)
def Acb(e sz:Nat)(ag:Bool):IC:=.seq (AaX e sz ag) (Ack e sz ag)
def m3(e sz:Nat)(ag:Bool):IC:=.ops [o1 4 (.mv (ci (-1)))] [4] []
def nU(e sz:Nat)(ag:Bool):IC:=.seq (m3 e sz ag) .ret
def Ab0(e sz:Nat)(ag:Bool):IC:=.seq (Acb e sz ag) (nU e sz ag)
def L9(e sz:Nat)(ag:Bool):IC:=.seq (AbJ e sz ag) (Ab0 e sz ag)
def Yw:List R:=[.t 4]
@[push_cast]def Aq1(e sz:Nat)(ag:Bool):=AL (AbJ.eq_1 e sz ag)
@[push_cast]def AoV(e sz:Nat)(ag:Bool):=AL (AaX.eq_1 e sz ag)
@[push_cast]def Ao5(e sz:Nat)(ag:Bool):=AL (AbS.eq_1 e sz ag)
@[push_cast]def AnX(e sz:Nat)(ag:Bool):=AL (eK.eq_1 e sz ag)
@[push_cast]def Aod(e sz:Nat)(ag:Bool):=AL (aG.eq_1 e sz ag)
@[push_cast]def Aoj(e sz:Nat)(ag:Bool):=AL (kU.eq_1 e sz ag)
@[push_cast]def AnW(e sz:Nat)(ag:Bool):=AL (sN.eq_1 e sz ag)
@[push_cast]def AnO(e sz:Nat)(ag:Bool):=AL (nY.eq_1 e sz ag)
@[push_cast]def Aop(e sz:Nat)(ag:Bool):=AL (pI.eq_1 e sz ag)
@[push_cast]def AnR(e sz:Nat)(ag:Bool):=AL (ZT.eq_1 e sz ag)
@[push_cast]def Aok(e sz:Nat)(ag:Bool):=AL (sL.eq_1 e sz ag)
@[push_cast]def AnP(e sz:Nat)(ag:Bool):=AL (sE.eq_1 e sz ag)
@[push_cast]def AnL(e sz:Nat)(ag:Bool):=AL (cB.eq_1 e sz ag)
@[push_cast]def AnN(e sz:Nat)(ag:Bool):=AL (Z9.eq_1 e sz ag)
@[push_cast]def AoK(e sz:Nat)(ag:Bool):=AL (AaQ.eq_1 e sz ag)
@[push_cast]def AoQ(e sz:Nat)(ag:Bool):=AL (AbH.eq_1 e sz ag)
@[push_cast]def AoT(e sz:Nat)(ag:Bool):=AL (AcR.eq_1 e sz ag)
@[push_cast]def AoY(e sz:Nat)(ag:Bool):=AL (Ack.eq_1 e sz ag)
@[push_cast]def AoI(e sz:Nat)(ag:Bool):=AL (Acb.eq_1 e sz ag)
@[push_cast]def AnT(e sz:Nat)(ag:Bool):=AL (m3.eq_1 e sz ag)
@[push_cast]def AnV(e sz:Nat)(ag:Bool):=AL (nU.eq_1 e sz ag)
@[push_cast]def Apw(e sz:Nat)(ag:Bool):=AL (Ab0.eq_1 e sz ag)
@[push_cast]def ApS(e sz:Nat)(ag:Bool):=AL (L9.eq_1 e sz ag)
def AbQ(g:Nat):IC:=.ops [o1 4 (.mv (.c (.b false)))] [0,1] []
def Ach(g:Nat):IC:=.ops [m1 5 0,m1 6 1,o1 7 (.calls g [(.t 5),(.t 6)]),o1 8 (.bin .geq (.t 7) (ci 0)),m1 4 8] [4] []
def Acn(g:Nat):IC:=.seq (Ach g) .ret
def Nx(g:Nat):IC:=.seq (AbQ g) (Acn g)
def jY:List R:=[.t 4]
@[push_cast]def Aqa(g:Nat):=AL (AbQ.eq_1 g)
@[push_cast]def Aq0(g:Nat):=AL (Ach.eq_1 g)
@[push_cast]def Aqp(g:Nat):=AL (Acn.eq_1 g)
@[push_cast]def Apt(g:Nat):=AL (Nx.eq_1 g)
def AcM(e:Nat):IC:=.ops [o1 4 (.mv (ci 0))] [0,1] []
def Abk(e:Nat):IC:=.ops [m1 6 0,o1 7 (.lenL (.t 6)),o1 8 (.mv (ci 0))] [0,1,7,8] []
def AcQ(e:Nat):IC:=.ops [o1 9 (.bin .lss (.t 8) (.t 7))] [0,1,7,8,9] []
def a6(e:Nat):IC:=.cond (.t 9) .skip (.exit 0)
def gK(e:Nat):IC:=.ops [m1 10 8,m1 5 10] [0,1,5,7,8] []
def jB(e:Nat):IC:=.ops [m1 11 1,m1 12 0,m1 13 5,o1 14 (.iaddr (.t 12) (.t 13) e 1),o1 15 (.load (.t 14) 1 false),o1 16 (.bin .eql (.t 11) (.t 15))] [0,1,5,7,8,16] []
def fD(e:Nat):IC:=.ops [m1 17 5,m1 4 17] [4] []
def qE(e:Nat):IC:=.seq (fD e) .ret
def iS(e:Nat):IC:=.cond (.t 16) (qE e) .skip
def cM(e:Nat):IC:=.seq (jB e) (iS e)
def rE(e:Nat):IC:=.seq (gK e) (cM e)
def sG(e:Nat):IC:=.block 1 (rE e)
def bQ(e:Nat):IC:=.ops [o1 18 (.bin .add (.t 8) (ci 1)),m1 8 18] [0,1,7,8] []
def bF(e:Nat):IC:=.seq (sG e) (bQ e)
def AbN(e:Nat):IC:=.seq (a6 e) (bF e)
def AcE(e:Nat):IC:=.seq (AcQ e) (AbN e)
def AcT(e:Nat):IC:=.loop (AcE e)
def AcG(e:Nat):IC:=.block 0 (AcT e)
def Abz(e:Nat):IC:=.seq (Abk e) (AcG e)
def bG(e:Nat):IC:=.ops [o1 4 (.mv (ci (-1)))] [4] []
def aY(e:Nat):IC:=.seq (bG e) .ret
def Abm(e:Nat):IC:=.seq (Abz e) (aY e)
def Qo(e:Nat):IC:=.seq (AcM e) (Abm e)
def xQ:List R:=[.t 4]
@[push_cast]def Ao1(e:Nat):=AL (AcM.eq_1 e)
@[push_cast]def Aqh(e:Nat):=AL (Abk.eq_1 e)
@[push_cast]def Apn(e:Nat):=AL (AcQ.eq_1 e)
@[push_cast]def Aoe(e:Nat):=AL (a6.eq_1 e)
@[push_cast]def Aot(e:Nat):=AL (gK.eq_1 e)
@[push_cast]def Aog(e:Nat):=AL (jB.eq_1 e)
@[push_cast]def Aoh(e:Nat):=AL (fD.eq_1 e)
@[push_cast]def Aob(e:Nat):=AL (qE.eq_1 e)
@[push_cast]def Aoi(e:Nat):=AL (iS.eq_1 e)
@[push_cast]def AnM(e:Nat):=AL (cM.eq_1 e)
@[push_cast]def Aol(e:Nat):=AL (rE.eq_1 e)
@[push_cast]def Aon(e:Nat):=AL (sG.eq_1 e)
@[push_cast]def Aoo(e:Nat):=AL (bQ.eq_1 e)
@[push_cast]def AnQ(e:Nat):=AL (bF.eq_1 e)
@[push_cast]def Ao3(e:Nat):=AL (AbN.eq_1 e)
@[push_cast]def ApI(e:Nat):=AL (AcE.eq_1 e)
@[push_cast]def Aqj(e:Nat):=AL (AcT.eq_1 e)
@[push_cast]def Apl(e:Nat):=AL (AcG.eq_1 e)
@[push_cast]def AoG(e:Nat):=AL (Abz.eq_1 e)
@[push_cast]def AnU(e:Nat):=AL (bG.eq_1 e)
@[push_cast]def AnZ(e:Nat):=AL (aY.eq_1 e)
@[push_cast]def AoC(e:Nat):=AL (Abm.eq_1 e)
@[push_cast]def AoZ(e:Nat):=AL (Qo.eq_1 e)
def Ab1(g:Nat):IC:=.ops [o1 4 (.mv (.c (.b false)))] [0,1] []
def Acl(g:Nat):IC:=.ops [m1 5 0,m1 6 1,o1 7 (.call g [(.t 5),(.t 6)]),o1 8 (.bin .geq (.t 7) (ci 0)),m1 4 8] [4] []
def Abv(g:Nat):IC:=.seq (Acl g) .ret
def Ww(g:Nat):IC:=.seq (Ab1 g) (Abv g)
def AeF:List R:=[.t 4]
@[push_cast]def App(g:Nat):=AL (Ab1.eq_1 g)
@[push_cast]def Aov(g:Nat):=AL (Acl.eq_1 g)
@[push_cast]def AoM(g:Nat):=AL (Abv.eq_1 g)
@[push_cast]def AoE(g:Nat):=AL (Ww.eq_1 g)
end Go.Ir

namespace Go.Ir
open Go.Proofs
variable{P:Program}(W0:World){α:Type}
def BQ(p:α->Bool):List α->Int
 | []=>-1
 | x::xs=>bif p x then 0 else if BQ p xs<0 then -1 else BQ p xs+1
theorem Gd(p:α->Bool):∀xs,decide (BQ p xs>=0)=xs.any p
 | []=>by simp[BQ]
 | x::xs=>by
  have ih:=Gd p xs
  rw[AtR,<-ih]
  rcases Ary (p x) with hp|hp
  ·simp[BQ,hp]
  ·simp only[BQ,hp,cond_false,AsV]
   grind
theorem Ge(p:α->Bool):∀xs,-1<=BQ p xs
 | []=>by simp[BQ]
 | x::xs=>by
  have ih:=Ge p xs
  simp only[BQ]
  cases p x<;>simp
  split<;>omega
def QJ(ag:Bool)(sz:Nat)(v:V):Prop:=(cells v).length=sz/\sub v 0 sz ag=some v
theorem Qzz{sz:Nat}{cs:List V}(h:cs.length=sz):QJ true sz (.agg cs):=by
 subst h;simp[QJ,cells,sub,R9]
theorem QJ.get{ag:Bool}{sz:Nat}{v:V}(h:QJ ag sz v):(if ag=true then some (V.agg (cells v)) else(cells v)[0]?)=some v:=by
 have:=h.2
 unfold sub at this
 simpa[h.1,R9] using this
theorem nK{v:V}(h:cells v=[v]):QJ false 1 v:=by simp[QJ,h,sub]
theorem CK{f e sz:Nat}{ag:Bool}(hck:Aw P f 19 (L9 e sz ag) Yw=true)(enc:α->V)(xs:List α)(p:α->Bool)(g:FuncId)(first caps:List V)(σ:Ak)
  (hc:∀x∈xs,QJ ag sz (enc x))(hg:∀x∈xs,Am P W0 g (first++[enc x]++caps) σ (.b (p x)) σ)(hlen:xs.length<2^62) :
  Am P W0 f [.sl (xs.map enc),.fn g first caps] σ (.i .i64 (BQ p xs)) σ:=by
 generalize hS:BQ p xs=S
 refine Ai (vs:=[.i .i64 S]) hck (by simp) (fun _ h=>h) fun n0 hn0=>?_
 simp only[push_cast,seval,reduceEqDiff]
 intro _ _
 refine An xs.length (Inv:=fun m st=>∃done rest n,xs=done++rest/\m=rest.length/\(if BQ p rest<0 then -1 else BQ p rest+done.length)=S/\st=⟨[(0,.sl (xs.map enc)),(1,.fn g first caps),(7,.i .i64 xs.length),(8,.i .i64 done.length)],σ,n⟩) ⟨_,Al.refl,[],_,_,rfl,rfl,?_,rfl⟩ ?_
 ·have:=Ge p xs
  rw[<-hS];simp;omega
 clear hS
 rintro m _ ⟨done,rest,n,hz,rfl,hd,rfl⟩
 cases rest with
 | nil=>
  simp only[push_cast,seval,reduceEqDiff,hz]
  intro _ _
  refine AA ?_ (fun _ _ h=>h)
  rw[<-hd];simp[BQ,get]
 | cons x rest=>
  have hb:=AN hz
  have hx:x∈xs:=by rw[hz];simp
  have h1:=(hc x hx).1
  have h2:=(hc x hx).get
  simp only[push_cast,seval,reduceEqDiff,hz,h1,h2,Ad x (done:=done) (by omega)]
  intro _ _
  refine BF (σi:=σ) (σo:=σ) (hg x hx) (fun _ _ h=>h) ?_
  rw[CB]
  simp only[push_cast,seval,reduceEqDiff,hz,h1,h2,Ad x (done:=done) (by omega)]
  intro _
  ((first|apply Ac|apply Ag|apply Af)<;>intro hp)<;>simp only[push_cast,seval,reduceEqDiff,hp,hz,h1,h2,Ad x (done:=done) (by omega)]
  ·intro _
   refine AA ?_ (fun _ _ h=>h)
   rw[<-hd]
   simp[BQ,hp,get]
  ·intro _
   refine⟨_,_,Acq _,Al.refl,done++[x],rest,_,by simp[hz],rfl,?_,rfl⟩
   rw[<-hd]
   have hlo:=Ge p rest
   simp only[BQ,hp,cond_false]
   grind
theorem CD{f f':Nat}(hck:Aw P f 9 (Nx f') jY=true)(v w:V)(i:Int)(σ:Ak)(h:Am P W0 f' [v,w] σ (.i .i64 i) σ):Am P W0 f [v,w] σ (.b (decide (i>=0))) σ:=by
 refine Ai (vs:=[.b (decide (i>=0))]) hck (by simp) (fun _ h=>h) fun n0 hn0=>?_
 simp only[push_cast,seval,reduceEqDiff]
 intro _
 refine BF (σi:=σ) (σo:=σ) h (fun _ _ h=>h) ?_
 rw[CB]
 simp only[push_cast,seval,reduceEqDiff]
 intro _
 exact AA (by simp[get]) (fun _ _ h=>h)
theorem sJ{n d:Nat}{e x:AC}{id:Id}{σ:Ak}(hn:id.1<n)(h:lk σ id=some e):lk (((n,d),x)::σ) id=some e:=by
 simp only[lk]
 grind
theorem Le{f e:Nat}(hck:Aw P f 19 (Qo e) xQ=true)(xs:List Aa)(v:Aa)(hlen:xs.length<2^62):Am P W0 f [.sl (xs.map V.s),.s v] [] (.i .i64 (BQ (fun x=>v==x) xs)) []:=by
 generalize hS:BQ (fun x=>v==x) xs=S
 refine Ai (vs:=[.i .i64 S]) hck (by simp) (by simp) fun n0 hn0=>?_
 simp only[push_cast,seval,reduceEqDiff]
 intro _ _
 refine An xs.length (Inv:=fun m st=>∃done rest n,xs=done++rest/\m=rest.length/\(if BQ (fun x=>v==x) rest<0 then -1 else BQ (fun x=>v==x) rest+done.length)=S/\st=⟨[(0,.sl (xs.map V.s)),(1,.s v),(7,.i .i64 xs.length),(8,.i .i64 done.length)],[],n⟩) ⟨_,Al.refl,[],_,_,rfl,rfl,?_,rfl⟩ ?_
 ·have:=Ge (fun x=>v==x) xs
  rw[<-hS];simp;omega
 clear hS
 rintro m _ ⟨done,rest,n,hz,rfl,hd,rfl⟩
 cases rest with
 | nil=>
  simp only[push_cast,seval,reduceEqDiff,hz]
  intro _ _
  refine Ah ?_
  rw[<-hd];simp[BQ,get]
 | cons x rest=>
  have hb:=AN hz
  simp only[push_cast,seval,reduceEqDiff,hz,Ad x (done:=done) (by omega)]
  intro _ _ _
  ((first|apply Ac|apply Ag|apply Af)<;>intro hp)<;>simp only[push_cast,seval,reduceEqDiff,hp,hz,Ad x (done:=done) (by omega)]
  ·intro _
   refine Ah ?_
   rw[<-hd]
   simp[BQ,hp,get]
  ·intro _
   refine⟨_,_,Acq _,Al.refl,done++[x],rest,_,by simp[hz],rfl,?_,rfl⟩
   rw[<-hd]
   have hlo:=Ge (fun x=>v==x) rest
   simp only[BQ,hp,cond_false]
   grind
theorem Tz{f e:Nat}(hck:Aw P f 19 (Qo e) xQ=true)(xs:List Int)(v:Int)(hlen:xs.length<2^62):Am P W0 f [.sl (xs.map (V.i .i64)),.i .i64 v] [] (.i .i64 (BQ (fun x=>v==x) xs)) []:=by
 generalize hS:BQ (fun x=>v==x) xs=S
 refine Ai (vs:=[.i .i64 S]) hck (by simp) (by simp) fun n0 hn0=>?_
 simp only[push_cast,seval,reduceEqDiff]
 intro _ _
 refine An xs.length (Inv:=fun m st=>∃done rest n,xs=done++rest/\m=rest.length/\(if BQ (fun x=>v==x) rest<0 then -1 else BQ (fun x=>v==x) rest+done.length)=S/\st=⟨[(0,.sl (xs.map (V.i .i64))),(1,.i .i64 v),(7,.i .i64 xs.length),(8,.i .i64 done.length)],[],n⟩) ⟨_,Al.refl,[],_,_,rfl,rfl,?_,rfl⟩ ?_
 ·have:=Ge (fun x=>v==x) xs
  rw[<-hS];simp;omega
 clear hS
 rintro m _ ⟨done,rest,n,hz,rfl,hd,rfl⟩
 cases rest with
 | nil=>
  simp only[push_cast,seval,reduceEqDiff,hz]
  intro _ _
  refine Ah ?_
  rw[<-hd];simp[BQ,get]
 | cons x rest=>
  have hb:=AN hz
  simp only[push_cast,seval,reduceEqDiff,hz,Ad x (done:=done) (by omega)]
  intro _ _ _
  ((first|apply Ac|apply Ag|apply Af)<;>intro hp)<;>simp only[push_cast,seval,reduceEqDiff,hp,hz,Ad x (done:=done) (by omega)]
  ·intro _
   refine Ah ?_
   rw[<-hd]
   simp[BQ,hp,get]
  ·intro _
   refine⟨_,_,Acq _,Al.refl,done++[x],rest,_,by simp[hz],rfl,?_,rfl⟩
   rw[<-hd]
   have hlo:=Ge (fun x=>v==x) rest
   simp only[BQ,hp,cond_false]
   grind
theorem HG{f f':Nat}(hck:Aw P f 9 (Ww f') AeF=true)(v w:V)(i:Int)(h:Am P W0 f' [v,w] [] (.i .i64 i) []):Am P W0 f [v,w] [] (.b (decide (i>=0))) []:=by
 refine Ai (vs:=[.b (decide (i>=0))]) hck (by simp) (by simp) fun n0 hn0=>?_
 simp only[push_cast,seval,reduceEqDiff]
 have _h:=trivial;repeat' (first|(first|((first|apply Ac|apply Ag|apply Af)<;>intro _h)|refine Ab h ?_)<;>(simp only[push_cast,seval,reduceEqDiff,_h];try (have _g:=_h;simp at _g))|intro _)
 all_goals (first|(refine Ah ?_;simp[get]<;>(intros;omega);done)|(refine Ae ?_;simp[push_cast,get];done)|skip)
end Go.Ir
section
namespace Go.Ir
open Go.Proofs
variable{P:Program}(W0:World){α:Type}
section
variable{P:Program}{W0:World}{nt n:Nat}{Q:Exit→St→Prop}{env:AD}{σ:Ak}
@[push_cast] def Acr(g:Nat):List I:=[⟨some 4,.mv (.c (.b false)),none,[]⟩]
def fY(g:Nat):IC:=.ops (Acr g) [0,1] []
@[push_cast] theorem Aq2{g:Nat}:aW P W0 nt (fY g) Q ⟨env,σ,n⟩=J P W0 n [0,1] Q (Acr g) env σ:=rfl
@[push_cast] def Ada(g:Nat):List I:=[⟨some 5,.mv (.t 0),none,[]⟩,
 ⟨some 6,.mv (.t 1),none,[]⟩,
 ⟨some 7,.calls g [(.t 5),(.t 6)],none,[]⟩,
 ⟨some 8,.bin .geq (.t 7) (.c (.i .i64 0)),none,[]⟩,
 ⟨some 4,.mv (.t 8),none,[]⟩]
def gB(g:Nat):IC:=.ops (Ada g) [4] []
@[push_cast] theorem ApJ{g:Nat}:aW P W0 nt (gB g) Q ⟨env,σ,n⟩=J P W0 n [4] Q (Ada g) env σ:=rfl
def l8(g:Nat):IC:=.seq (gB g) .ret
@[push_cast] theorem ApW{g:Nat}:aW P W0 nt (l8 g) Q ⟨env,σ,n⟩=aW P W0 nt (gB g) (ML P W0 nt .ret Q) ⟨env,σ,n⟩:=rfl
def Anx(g:Nat):IC:=.seq (fY g) (l8 g)
@[push_cast] theorem AoS{g:Nat}:aW P W0 nt (Anx g) Q ⟨env,σ,n⟩=aW P W0 nt (fY g) (ML P W0 nt (l8 g) Q) ⟨env,σ,n⟩:=rfl
end
end Go.Ir
end
namespace Go.Ir
open Go.Proofs
variable{P:Program}{W0:World}{nt n:Nat}{Q:Exit→St→Prop}{env:AD}{σ:Ak}
def qX:IC:=sQ (.block 3 (oP [m1 21 3,m1 22 0,m1 23 4,iA 24 22 23 172 1,l1 25 24,m1 26 5,iA 27 25 26 175 4,fA 28 27 3,l1 29 28,nL 30 29,o1 31 (.bin .add (ci 1) (.t 30)),bT 32 .add 21 31,m1 3 32] [0,3,4,5])) (oP [m1 19 5,bZ 20 .add 19 1,m1 5 20] [0,3,4,5])
def o8:IC:=sQ (.block 1 (sQ (oS [mZ 5 0] [0,3,4,5] (.block 2 (.loop (sQ (oS [m1 12 5,m1 13 0,m1 14 4,iA 15 13 14 172 1,l1 16 15,nL 17 16,bT 18 .lss 12 17] [0,3,4,5,18] (cD 18 .skip (.exit 2))) qX)))) (oS [m1 33 3,bZ 34 .gtr 33 80] [0,3,4,34] (cD 34 (oR [mC 2 (.b false)] [2]) .skip)))) (oP [m1 10 4,bZ 11 .add 10 1,m1 4 11] [0,3,4])
def AaW:IC:=oS [mZ 3 0] [0,3] (sQ (oS [mZ 4 0] [0,3,4] (.block 0 (.loop (sQ (oS [m1 6 4,m1 7 0,nL 8 7,bT 9 .lss 6 8] [0,3,4,9] (cD 9 .skip (.exit 0))) o8)))) (oR [m1 35 0,nL 36 35,bZ 37 .leq 36 30,m1 2 37] [2]))
def Abw:IC:=oS [mC 2 (.b false)] [0] AaW
@[push_cast]def ApA:List R:=[.t 2]
@[push_cast]def AsJ:=As qX.eq_1<|As o8.eq_1<|As AaW.eq_1<|AL Abw.eq_1
theorem Alp:Aw Tryz.prog 53 38 Abw ApA=true:=by kernel_rfl
end Go.Ir
section
namespace Go.Ir
open Go.Proofs
variable(W0:World)
mutual
def Aj.solid:Aj->Bool
 | ⟨k,_,_,_,cs,ps⟩=>!Bx k&&KI ps&&TO cs
def KI:List Aj->Bool
 | []=>true
 | p::ps=>p.solid&&KI ps
def TO:List (Aa×List Aj)->Bool
 | []=>true
 | (_,ps)::cs=>KI ps&&TO cs
end
end Go.Ir
end
namespace Go.Ir
open Go.Proofs
variable(W0:World)
end Go.Ir
section
namespace Go.Ir
open Go.Proofs
variable(W0:World)
mutual
def Aj.depth:Aj->Nat
 | ⟨_,_,_,_,cs,ps⟩=>max (max 1 (1+Bn ps)) (Dn cs)
def Bn:List Aj->Nat
 | []=>0
 | p::ps=>max p.depth (Bn ps)
def Dn:List (Aa×List Aj)->Nat
 | []=>0
 | (_,ps)::cs=>max (1+Bn ps) (Dn cs)
end
theorem Aj.depth_eq(p:Aj):p.depth=max (max 1 (1+Bn p.parts)) (Dn p.cases):=by cases p;simp[Aj.depth]
theorem Eo(p:Aj)(ps:List Aj):Bn (p::ps)=max p.depth (Bn ps):=by simp[Bn]
theorem Js(c:AQ)(ps:List AQ):Dn (c::ps)=max (1+Bn c.2) (Dn ps):=by obtain⟨k,q⟩:=c;simp[Dn]
theorem oF:(∀p:Aj,p.depth<=p.wt):=by
 have key:∀N:Nat,(∀ps:List Aj,Bd ps<N->Bn ps<=Bd ps):=by
  intro N
  induction N with
  | zero=>intro ps h;omega
  | succ N ih=>
   have hcs:∀cs:List AQ,EB cs<N->Dn cs<=EB cs:=by
    intro cs
    induction cs with
    | nil=>intro _;simp[Dn]
    | cons c cs ih2=>intro h;rw[BX] at h;rw[Js,BX];grind
   intro ps
   induction ps with
   | nil=>intro _;simp[Bn]
   | cons p ps ih2=>
    intro h;rw[Bu] at h;rw[Eo,Bu];have:=ih2 (by omega)
    rw[p.wt_eq] at *;rw[p.depth_eq];grind
 intro p
 have:=key _ [p] (Acq _)
 rw[Eo,Bu,PR] at this
 omega
theorem KY(ps:List Aj):Bn ps<=Bd ps:=by
 induction ps with
 | nil=>simp[Bn]
 | cons p ps ih=>rw[Eo,Bu];have:=oF p;omega
theorem tU:∀(N:Nat) (ps:List Aj),Bd ps<N->Bd ps<=2^24->Am Tryz.prog W0 69 [.sl (ps.map Aj.enc)] [] (.i .i64 (Bn ps)) []:=by
 intro N
 induction N with
 | zero=>intro ps h;omega
 | succ N ih=>
 intro ps hN hb
 generalize hS:(Bn ps:Int)=S
 refine Ai (vs:=[.i .i64 S]) An9 (by simp) (by simp) fun n0 hn0=>?_
 clear hn0
 simp only[push_cast,seval,reduceEqDiff]
 intros
 have hlen:=EE ps
 refine An ps.length (Inv:=fun m st=>∃done rest n d,ps=done++rest/\m=rest.length/\max d (Bn rest:Int)=S/\0<=d/\st=⟨[(0,.sl (ps.map Aj.enc)),(3,.i .i64 d),(4,.i .i64 done.length)],[],n⟩) ⟨_,Al.refl,[],ps,_,0,rfl,rfl,by rw[<-hS];omega,by omega,rfl⟩ ?_
 clear hS
 rintro m _ ⟨done,rest,n,d,hz,rfl,hd,hd0,rfl⟩
 cases rest with
 | nil=>
  rw[Bn] at hd
  simp only[push_cast,seval,reduceEqDiff,hz]
  repeat' (first|(((first|apply Ac|apply Ag|apply Af)<;>intro _h)<;>(simp only[push_cast,seval,reduceEqDiff,_h];try (have _g:=_h;simp at _g)))|intro _)
  have:d=S:=by omega
  subst this
  all_goals (first|(refine Ah ?_;simp[get]<;>(intros;omega);done)|(refine Ae ?_;simp[push_cast,get];done)|skip)
 | cons p rest=>
  have hbd:=AN hz
  have hw:=GV (ps:=ps) (p:=p) (by rw[hz];simp)
  rw[p.wt_eq] at hw
  have hlc:=FL p.cases
  have hpd:=KY p.parts
  rw[Eo,p.depth_eq] at hd
  simp only[push_cast,seval,reduceEqDiff,hz,Ad p (done:=done) (by omega)]
  have _h:=trivial;repeat' (first|(first|((first|apply Ac|apply Ag|apply Af)<;>intro _h)|refine Ab (ih p.parts (by omega) (by omega)) ?_)<;>(simp only[push_cast,seval,reduceEqDiff,_h,hz,Ad p (done:=done) (by omega)];try (have _g:=_h;simp at _g))|intro _)
  have e1:IntKind.i64.wrap (1+(Bn p.parts:Int))=1+(Bn p.parts:Int):=wrap64 (by omega) (by omega)
  simp only[push_cast,seval,reduceEqDiff,hz,Ad p (done:=done) (by omega),e1]
  have hd2:max (max (max (max d 1) (1+(Bn p.parts:Int))) (Dn p.cases)) (Bn rest)=S:=by omega
  refine An p.cases.length (Inv:=fun m st=>∃cd cr n d,p.cases=cd++cr/\m=cr.length/\max (max d (Dn cr:Int)) (Bn rest:Int)=S/\0<=d/\st=⟨[(0,.sl (ps.map Aj.enc)),(3,.i .i64 d),(4,.i .i64 done.length),(5,.i .i64 cd.length)],[],n⟩) ⟨_,Al.refl,[],p.cases,_,_,rfl,rfl,hd2,by omega,by rw[hz];rfl⟩ ?_
  clear hd hd2 hd0 d
  rintro m _ ⟨cd,cr,n,d,hcs,rfl,hd,hd0,rfl⟩
  cases cr with
  | nil=>
   rw[Dn] at hd
   simp only[push_cast,seval,reduceEqDiff,hz,Ad p (done:=done) (by omega),hcs]
   intros
   exact⟨_,_,Acq _,Al.refl,done++[p],rest,_,d,by simp,rfl,by omega,hd0,rfl⟩
  | cons c cr=>
   have hwc:=DO (cs:=p.cases) (c:=c) (by simp[hcs])
   have hcb:=AN hcs
   have hcd:=KY c.2
   rw[Js] at hd
   have e2:IntKind.i64.wrap (1+(Bn c.2:Int))=1+(Bn c.2:Int):=wrap64 (by omega) (by omega)
   simp only[push_cast,seval,reduceEqDiff,hz,hcs,Ad c (done:=cd) (by omega),e2]
   have _h:=trivial;repeat' (first|(first|((first|apply Ac|apply Ag|apply Af)<;>intro _h)|refine Ab (ih c.2 (by omega) (by omega)) ?_)<;>(simp only[push_cast,seval,reduceEqDiff,_h,hz,hcs,Ad c (done:=cd) (by omega),e2];try (have _g:=_h;simp at _g))|intro _)
   exact⟨_,_,Acq _,Al.refl,cd++[c],cr,_,_,by simp[hcs],rfl,by omega,by omega,rfl⟩
mutual
def Aj.size:Aj->Nat
 | ⟨_,t,_,_,cs,ps⟩=>1+Bs ps+t.length / 20+EJ cs
def Bs:List Aj->Nat
 | []=>0
 | p::ps=>p.size+Bs ps
def EJ:List (Aa×List Aj)->Nat
 | []=>0
 | (_,ps)::cs=>1+Bs ps+EJ cs
end
theorem Aj.size_eq(p:Aj):p.size=1+Bs p.parts+p.text.length / 20+EJ p.cases:=by cases p;simp[Aj.size]
theorem Kt(p:Aj)(ps:List Aj):Bs (p::ps)=p.size+Bs ps:=by simp[Bs]
theorem Kk(c:AQ)(ps:List AQ):EJ (c::ps)=1+Bs c.2+EJ ps:=by obtain⟨k,q⟩:=c;simp[EJ]
theorem wD:∀N:Nat,(∀ps:List Aj,Bd ps<N->Bs ps<=Bd ps):=by
 intro N
 induction N with
 | zero=>intro ps h;omega
 | succ N ih=>
  have hcs:∀cs:List AQ,EB cs<N->EJ cs<=EB cs:=by
   intro cs
   induction cs with
   | nil=>intro _;simp[EJ]
   | cons c cs ih2=>intro h;rw[BX] at h;rw[Kk,BX];grind
  intro ps
  induction ps with
  | nil=>intro _;simp[Bs]
  | cons p ps ih2=>
   intro h;rw[Bu] at h;rw[Kt,Bu];have:=ih2 (by omega)
   rw[p.wt_eq] at *;rw[p.size_eq];grind
theorem JA(ps:List Aj):Bs ps<=Bd ps:=wD _ ps (Acq _)
theorem AfM:∀(N:Nat) (ps:List Aj),Bd ps<N->Bd ps<=2^24->Am Tryz.prog W0 70 [.sl (ps.map Aj.enc)] [] (.i .i64 (Bs ps)) []:=by
 intro N
 induction N with
 | zero=>intro ps h;omega
 | succ N ih=>
 intro ps hN hb
 generalize hS:(Bs ps:Int)=S
 refine Ai (vs:=[.i .i64 S]) AjQ (by simp) (by simp) fun n0 hn0=>?_
 clear hn0
 simp only[push_cast,seval,reduceEqDiff]
 intros
 have hlen:=EE ps
 have hwd:=JA ps
 have hSb:S<=2^24:=by omega
 refine An ps.length (Inv:=fun m st=>∃done rest n d,ps=done++rest/\m=rest.length/\d+(Bs rest:Int)=S/\0<=d/\st=⟨[(0,.sl (ps.map Aj.enc)),(3,.i .i64 d),(4,.i .i64 done.length)],[],n⟩) ⟨_,Al.refl,[],ps,_,0,rfl,rfl,by rw[<-hS];omega,by omega,rfl⟩ ?_
 clear hS
 rintro m _ ⟨done,rest,n,d,hz,rfl,hd,hd0,rfl⟩
 cases rest with
 | nil=>
  rw[Bs] at hd
  simp only[push_cast,seval,reduceEqDiff,hz]
  repeat' (first|(((first|apply Ac|apply Ag|apply Af)<;>intro _h)<;>(simp only[push_cast,seval,reduceEqDiff,_h];try (have _g:=_h;simp at _g)))|intro _)
  have:d=S:=by omega
  subst this
  all_goals (first|(refine Ah ?_;simp[get]<;>(intros;omega);done)|(refine Ae ?_;simp[push_cast,get];done)|skip)
 | cons p rest=>
  have hbd:=AN hz
  have hw:=GV (ps:=ps) (p:=p) (by rw[hz];simp)
  rw[p.wt_eq] at hw
  have hlc:=FL p.cases
  have hpd:=JA p.parts
  rw[Kt,p.size_eq] at hd
  simp only[push_cast,seval,reduceEqDiff,hz,Ad p (done:=done) (by omega)]
  have _h:=trivial;repeat' (first|(first|((first|apply Ac|apply Ag|apply Af)<;>intro _h)|refine Ab (ih p.parts (by omega) (by omega)) ?_)<;>(simp only[push_cast,seval,reduceEqDiff,_h,hz,Ad p (done:=done) (by omega)];try (have _g:=_h;simp at _g))|intro _)
  have e0:IntKind.i64.wrap ((p.text.length:Int).tdiv 20)=(p.text.length:Int) / 20:=by
   rw[Int.tdiv_eq_ediv_of_nonneg (by omega),wrap64 (by omega) (by omega)]
  have e1:IntKind.i64.wrap (1+(Bs p.parts:Int))=1+(Bs p.parts:Int):=wrap64 (by omega) (by omega)
  have e3:IntKind.i64.wrap (1+(Bs p.parts:Int)+(p.text.length:Int) / 20)=1+(Bs p.parts:Int)+(p.text.length:Int) / 20:=wrap64 (by omega) (by omega)
  have e4:IntKind.i64.wrap (d+(1+(Bs p.parts:Int)+(p.text.length:Int) / 20))=d+(1+(Bs p.parts:Int)+(p.text.length:Int) / 20):=wrap64 (by omega) (by omega)
  simp only[push_cast,seval,reduceEqDiff,hz,Ad p (done:=done) (by omega),e0,e1,e3,e4]
  have hd2:d+(1+(Bs p.parts:Int)+(p.text.length:Int) / 20)+EJ p.cases+Bs rest=S:=by omega
  refine An p.cases.length (Inv:=fun m st=>∃cd cr n d,p.cases=cd++cr/\m=cr.length/\d+(EJ cr:Int)+(Bs rest:Int)=S/\0<=d/\st=⟨[(0,.sl (ps.map Aj.enc)),(3,.i .i64 d),(4,.i .i64 done.length),(5,.i .i64 cd.length)],[],n⟩) ⟨_,Al.refl,[],p.cases,_,_,rfl,rfl,hd2,by omega,by rw[hz];rfl⟩ ?_
  clear hd hd2 hd0 e4 d
  rintro m _ ⟨cd,cr,n,d,hcs,rfl,hd,hd0,rfl⟩
  cases cr with
  | nil=>
   rw[EJ] at hd
   simp only[push_cast,seval,reduceEqDiff,hz,Ad p (done:=done) (by omega),hcs]
   intros
   exact⟨_,_,Acq _,Al.refl,done++[p],rest,_,d,by simp,rfl,by omega,hd0,rfl⟩
  | cons c cr=>
   have hwc:=DO (cs:=p.cases) (c:=c) (by simp[hcs])
   have hcb:=AN hcs
   have hcd:=JA c.2
   rw[Kk] at hd
   have e2:IntKind.i64.wrap (1+(Bs c.2:Int))=1+(Bs c.2:Int):=wrap64 (by omega) (by omega)
   have e5:IntKind.i64.wrap (d+(1+(Bs c.2:Int)))=d+(1+(Bs c.2:Int)):=wrap64 (by omega) (by omega)
   simp only[push_cast,seval,reduceEqDiff,hz,hcs,Ad c (done:=cd) (by omega),e2,e5]
   have _h:=trivial;repeat' (first|(first|((first|apply Ac|apply Ag|apply Af)<;>intro _h)|refine Ab (ih c.2 (by omega) (by omega)) ?_)<;>(simp only[push_cast,seval,reduceEqDiff,_h,hz,hcs,Ad c (done:=cd) (by omega),e2,e5];try (have _g:=_h;simp at _g))|intro _)
   exact⟨_,_,Acq _,Al.refl,cd++[c],cr,_,_,by simp[hcs],rfl,by omega,by omega,rfl⟩
def Jv(ps:List Aj):Bool:=decide ((Bn ps:Int)<=12)&&decide ((Bs ps:Int)<=300)&&Cw ps
theorem AlQ(ps:List Aj)(hb:Bd ps<=2^24):Am Tryz.prog W0 43 [.sl (ps.map Aj.enc)] [] (.b (Jv ps)) []:=by
 refine Ai (vs:=[.b (Jv ps)]) Am5 (by simp) (by simp) fun n0 hn0=>?_
 clear hn0
 simp only[push_cast,seval,reduceEqDiff]
 have _h:=trivial;repeat' (first|(first|((first|apply Ac|apply Ag|apply Af)<;>intro _h)|refine Ab (tU W0 _ ps (Acq _) hb) ?_|refine Ab (AfM W0 _ ps (Acq _) hb) ?_|refine Ab (XO W0 _ ps (Acq _) hb) ?_)<;>(simp only[push_cast,seval,reduceEqDiff,_h];try (have _g:=_h;simp at _g))|intro _)
 all_goals (first|(refine Ah ?_;simp[get,Jv, *]<;>(intros;omega);done)|(refine Ae ?_;simp[push_cast,get,Jv, *];done)|skip)
end Go.Ir
end
namespace Go.Ir
open Go.Proofs
variable(W0:World)
end Go.Ir

namespace Go.Ir
structure FT where
 lo:Int
 hi:Int
structure CM where
 op:Int
 mod:Int
 neg:Bool
 spans:List FT
structure AH where
 cls:Aa
 cond:List (List CM)
def FT.enc(s:FT):V:=.agg [.i .i64 s.lo,.i .i64 s.hi]
def CM.enc(r:CM):V:=.agg [.i .i64 r.op,.i .i64 r.mod,.b r.neg,.sl (r.spans.map FT.enc)]
def EN(l:List CM):V:=.sl (l.map CM.enc)
def AH.enc(r:AH):V:=.agg [.s r.cls,.sl (r.cond.map EN)]
@[push_cast] theorem FT.enc_eq(s:FT):s.enc=.agg [.i .i64 s.lo,.i .i64 s.hi]:=rfl
@[push_cast] theorem CM.enc_eq(r:CM):r.enc=.agg [.i .i64 r.op,.i .i64 r.mod,.b r.neg,.sl (r.spans.map FT.enc)]:=rfl
@[push_cast] theorem PF(l:List CM):EN l=.sl (l.map CM.enc):=rfl
@[push_cast] theorem AH.enc_eq(r:AH):r.enc=.agg [.s r.cls,.sl (r.cond.map EN)]:=rfl
def CM.wt(r:CM):Nat:=1+r.spans.length
def C8:List CM->Nat
 | []=>1
 | r::rs=>r.wt+C8 rs
def CY:List (List CM)->Nat
 | []=>0
 | r::rs=>C8 r+CY rs
def AH.wt(r:AH):Nat:=1+r.cls.length+CY r.cond
def A7:List AH->Nat
 | []=>0
 | r::rs=>r.wt+A7 rs
theorem HV{l:List CM}{r:CM}(h:r∈l):r.wt<=C8 l:=by
 induction l with
 | nil=>cases h
 | cons d l ih=>
  rw[C8]
  grind
theorem Iu{l:List (List CM)}{r:List CM}(h:r∈l):C8 r<=CY l:=by
 induction l with
 | nil=>cases h
 | cons d l ih=>
  rw[CY]
  grind
theorem Fj{l:List AH}{r:AH}(h:r∈l):r.wt<=A7 l:=by
 induction l with
 | nil=>cases h
 | cons d l ih=>
  rw[A7]
  grind
theorem E9(l:List CM):l.length<C8 l:=by
 induction l with
 | nil=>simp[C8]
 | cons d l ih=>rw[C8,AhU,CM.wt];omega
theorem HY(l:List (List CM)):l.length<=CY l:=by
 induction l with
 | nil=>simp
 | cons d l ih=>rw[CY,AhU];have:=E9 d;omega
theorem Fg(l:List AH):l.length<=A7 l:=by
 induction l with
 | nil=>simp
 | cons d l ih=>rw[A7,AhU,AH.wt];omega
structure vM where
 tag:Aa
 parent:Aa
 dir:Aa
 card:List AH
 ord:List AH
 rest:List V
def vM.enc(l:vM):V:=.agg (.s l.tag :: .s l.parent :: .s l.dir :: .sl (l.card.map AH.enc) :: .sl (l.ord.map AH.enc)::l.rest)
@[push_cast] theorem vM.enc_eq(l:vM):l.enc=.agg (.s l.tag :: .s l.parent :: .s l.dir :: .sl (l.card.map AH.enc) :: .sl (l.ord.map AH.enc)::l.rest):=rfl
end Go.Ir
section
namespace Go.Ir
structure Dc where
 style:Aa
 two:Aa
 start:Aa
 mid:Aa
 fin:Aa
structure Eb where
 unit:Aa
 cls:Aa
 pat:Aa
structure Dg where
 skel:Aa
 pat:Aa
structure BV where
 tag:Aa
 parent:Aa
 dir:Aa
 card:List AH
 ord:List AH
 dec:Aa
 grp:Aa
 minus:Aa
 perc:Aa
 prim:Int
 sec:Int
 lists:List Dc
 units:List Eb
 dates:List Dg
 months:List Aa
 days:List Aa
def Dc.enc(x:Dc):V:=.agg [.s x.style,.s x.two,.s x.start,.s x.mid,.s x.fin]
def Eb.enc(x:Eb):V:=.agg [.s x.unit,.s x.cls,.s x.pat]
def Dg.enc(x:Dg):V:=.agg [.s x.skel,.s x.pat]
@[push_cast] theorem Dc.enc_eq(x:Dc):x.enc=.agg [.s x.style,.s x.two,.s x.start,.s x.mid,.s x.fin]:=rfl
@[push_cast] theorem Eb.enc_eq(x:Eb):x.enc=.agg [.s x.unit,.s x.cls,.s x.pat]:=rfl
@[push_cast] theorem Dg.enc_eq(x:Dg):x.enc=.agg [.s x.skel,.s x.pat]:=rfl
def BV.enc(l:BV):V:=.agg [.s l.tag,.s l.parent,.s l.dir,.sl (l.card.map AH.enc),.sl (l.ord.map AH.enc),.s l.dec,.s l.grp,.s l.minus,.s l.perc,.i .i64 l.prim,.i .i64 l.sec,.sl (l.lists.map Dc.enc),.sl (l.units.map Eb.enc),.sl (l.dates.map Dg.enc),.sl (l.months.map V.s),.sl (l.days.map V.s)]
@[push_cast] theorem BV.enc_eq(l:BV):l.enc=.agg [.s l.tag,.s l.parent,.s l.dir,.sl (l.card.map AH.enc),.sl (l.ord.map AH.enc),.s l.dec,.s l.grp,.s l.minus,.s l.perc,.i .i64 l.prim,.i .i64 l.sec,.sl (l.lists.map Dc.enc),.sl (l.units.map Eb.enc),.sl (l.dates.map Dg.enc),.sl (l.months.map V.s),.sl (l.days.map V.s)]:=rfl
def Dc.wt(x:Dc):Nat:=1+x.style.length+x.two.length+x.start.length+x.mid.length+x.fin.length
def Eb.wt(x:Eb):Nat:=1+x.unit.length+x.cls.length+x.pat.length
def Dg.wt(x:Dg):Nat:=1+x.skel.length+x.pat.length
def Bz{α:Type}(f:α->Nat):List α->Nat
 | []=>0
 | x::l=>f x+Bz f l
theorem EH{α:Type}{f:α->Nat}(hf:∀x,1<=f x)(l:List α):l.length<=Bz f l:=by
 induction l with
 | nil=>simp
 | cons d l ih=>rw[Bz,AhU];have:=hf d;omega
def swt(s:Aa):Nat:=1+s.length
def BV.wt(l:BV):Nat:=1+l.tag.length+l.parent.length+l.dir.length+A7 l.card+A7 l.ord+l.dec.length+l.grp.length+l.minus.length+l.perc.length+Bz Dc.wt l.lists+Bz Eb.wt l.units+Bz Dg.wt l.dates+Bz swt l.months+Bz swt l.days
mutual
def Aj.bare:Aj->Bool
 | ⟨k,_,_,_,_,ps⟩=>(k==1||k==11)&&iE ps
def iE:List Aj->Bool
 | []=>true
 | p::ps=>p.bare&&iE ps
end
mutual
def Aj.out:Aj->Aa
 | ⟨k,t,nm,_,_,ps⟩=>if k==1 then t else([60]++nm++[62])++Ac7 ps++([60,47]++nm++[62])
def Ac7:List Aj->Aa
 | []=>[]
 | p::ps=>p.out++Ac7 ps
end
end Go.Ir
end
