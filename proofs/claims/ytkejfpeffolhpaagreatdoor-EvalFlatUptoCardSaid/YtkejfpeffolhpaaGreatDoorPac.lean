/- A part of the proof that the law EvalFlat answers true at every input of a bulk of at most 2^20. -/
import Derived.Test.YtkejfpeffolhpaaGreatDoorPab
import Derived.Lib.SlTrimSet
import Derived.Lib.Bytealg
import Derived.Lib.Atoi
import Derived.Lib.IndexMore
import Derived.Lib.Replace
import Derived.Lib.IndexAny
import Derived.Lib.Join
import Derived.Lib.SlicesCompact
import Derived.Lib.ItoaNum
import Derived.Shelf.Small.Wraps
import Derived.Shelf.Strconv.Itoa3
import Derived.Shelf.Strconv.Atoi
import Derived.Shelf.Strings.Search2
import Derived.Shelf.Strings.SlTrimAscii
import Derived.Deep.Draws
import Derived.Lib.AtoiErrMem
set_option linter.all false
open Nat renaming reduceEqDiff→rq
section
namespace Go.Ir
open Go.RowKit
def IX(sz:Nat):List V->Prop
 | []=>True
 | x::xs=>(x.ok=true/\(cells x).length=sz)/\IX sz xs
theorem LI{sz}:∀{xs},(∀x∈xs,x.ok=true/\(cells x).length=sz)↔IX sz xs
 | []=>by simp[IX]
 | x::xs=>by simp[IX,LI (xs:=xs)]
def gL(g:Nat->V):List (Nat×Nat×X)->Prop
 | []=>True
 | p::ps=>(ev g p.2.2).ok=true/\gL g ps
theorem Td{g}:∀{ps},(∀p∈ps,(ev g p.2.2).ok=true)↔gL g ps
 | []=>by simp[gL]
 | p::ps=>by have:=Td (g:=g) (ps:=ps);simp only[gL,Ahk,forall_eq_or_imp,this]
def Ma(g:Nat->V)(h e:Option X):V->Option V
 | .s l=>(GV g 0 h).bind λa=>(GV g l.length e).bind λb=>if a<=b/\b<=l.length then some (.s ((l.take b).drop a)) else none
 | _=>none
def IQ(g:Nat->V)(h e:Option X)(es:List V):Option V:=
 (GV g 0 h).bind λa=>(GV g es.length e).bind λb=>if a<=b/\b<=es.length then some (.sl ((es.take b).drop a)) else none
def isL(sz:Nat):V->Prop
 | .sl es=>∀y∈es,(cells y).length=sz
 | .nil=>True
 | _=>False
def toL:V->List V
 | .sl es=>es
 | _=>[]
def O6(σ:Aq)(id:Id)(e sz:Nat)(xs:List V):V->Option Aq
 | .nil=>if xs.length<=AJ then some ((id,.arr e sz xs)::σ) else none
 | .arr g=>match lk σ g with
  | some (.arr e' h es)=>if e'=e/\h=sz/\es.length+xs.length<=AJ then some ((id,.arr e sz (es++xs))::del σ g) else none
  | _=>none
 | _=>none
def Wo(k:Nat):V->Option V
 | .tup vs=>vs[k]?
 | _=>none
def isN:V->Prop
 | .ref _ _|.aref _ _ _ _|.ep _ _|.fn _ _ _=>True
 | _=>False
section
variable{P:Program}{O:World}{ep:Nat}{l:List I}{env:BB}{σ:Aq}{K:BB→Aq→Prop}
theorem Ahq{d e C val o}(h:∀v σ',E P O ep d e (get env) σ v σ'↔C/\v=val/\o=some σ') :
  Ay P O ep (⟨d,e,none,[]⟩::l) env σ K↔C/\o.isSome=true/\Ay P O ep l (put env d val) (o.getD []) K:=by
 rw[Do];constructor
 .grind
 .rintro⟨j,g,i⟩;cases o with
  | none=>cases g
  | some τ=>grind
theorem AdX{a x n}:Ay P O ep (⟨none,.store a x n,none,[]⟩::l) env σ K↔(ev (get env) x).ok=true/\(F0 σ n (ev (get env) x) (ev (get env) a)).isSome=true/\Ay P O ep l env ((F0 σ n (ev (get env) x) (ev (get env) a)).getD []) K:=
 Ahq λv σ'=>by
  simp only[E];refine and_congr_right λ_=>and_congr_right λ_=>?_;cases ev (get env) a<;>(try (simp[F0];done))
  .rename_i id i;simp only[F0];cases z:lk σ id with
   | none=>simp
   | some en=>
    cases en with
    | arr e sz es=>simp[eJ]
    | map _=>simp[eJ]
    | it _ _=>simp[eJ]
    | mit _ _ _ _=>simp[eJ]
    | box u=>
     constructor
     .rintro⟨en,p,j,h,rfl⟩;cases j;simp only[eJ] at h;cases g:Ef u i n (ev (get env) x) with
      | none=>rw[g] at h;cases h
      | some w=>rw[g] at h;cases h;simp only[g,Azw]
     .intro h;cases g:Ef u i n (ev (get env) x) with
      | none=>simp only[g] at h;cases h
      | some w=>simp only[g] at h;cases h;exact⟨_,_,rfl,by simp only[eJ,g];rfl,rfl⟩
    | tbox t u=>
     constructor
     .rintro⟨en,p,j,h,rfl⟩;cases j;simp only[eJ] at h;cases g:Ef u i n (ev (get env) x) with
      | none=>rw[g] at h;cases h
      | some w=>rw[g] at h;cases h;simp only[g,Azw]
     .intro h;cases g:Ef u i n (ev (get env) x) with
      | none=>simp only[g] at h;cases h
      | some w=>simp only[g] at h;cases h;exact⟨_,_,rfl,by simp only[eJ,g];rfl,rfl⟩
  .rename_i id A sz i;simp only[F0];cases z:lk σ id with
   | none=>simp
   | some en=>
    cases en with
    | box u=>simp
    | tbox _ _=>simp
    | map _=>simp
    | it _ _=>simp
    | mit _ _ _ _=>simp
    | arr e B es=>
     simp only[Ao3,AP.arr.injEq];constructor
     .rintro⟨e',es',o,s,⟨rfl,rfl,rfl⟩,j,y,rfl⟩;simp[j,y]
     .intro h;split at h
      .rename_i r;subst r;cases q:es[A]? with
       | none=>rw[q] at h;cases h
       | some o=>
        rw[q] at h;simp only[A1c] at h;cases g:Ef o i n (ev (get env) x) with
        | none=>rw[g] at h;cases h
        | some w=>rw[g] at h;cases h;exact⟨e,es,o,w,⟨rfl,rfl,rfl⟩,q,g,rfl⟩
      .cases h
variable{d:Nat}
theorem AsA{x}:Ay P O ep (⟨some d,.box x,none,[]⟩::l) env σ K↔(ev (get env) x).ok=true/\Ay P O ep l ((d,.ref (ep,d) 0)::env) (((ep,d),.box (ev (get env) x))::σ) K:=
 Jz λv σ'=>by simp only[E,Ao3];grind
theorem Aco{z}:Ay P O ep (⟨some d,.alloc z,none,[]⟩::l) env σ K↔True/\Ay P O ep l ((d,.ref (ep,d) 0)::env) (((ep,d),.box z)::σ) K:=
 Jz λv σ'=>by simp only[E,Ao3,A03];grind
theorem AdG{z ps}:Ay P O ep (⟨some d,.build z ps,none,[]⟩::l) env σ K↔gL (get env) ps/\(((FC z (ps.map λp=>(p.1,p.2.1,ev (get env) p.2.2))).map V.agg).isSome=true)/\Ay P O ep l ((d,((FC z (ps.map λp=>(p.1,p.2.1,ev (get env) p.2.2))).map V.agg).getD .any)::env) σ K:=
 Mr λv σ'=>by
  simp only[E,Td];refine and_congr_right λ_=>and_congr_left λ_=>?_;cases FC z (ps.map λp=>(p.1,p.2.1,ev (get env) p.2.2)) with
  | none=>simp
  | some cs=>simp[eq_comm]
theorem AkM{e sz xs}:Ay P O ep (⟨some d,.msl true e sz xs,none,[]⟩::l) env σ K↔IX sz (xs.map (ev (get env)))/\Ay P O ep l ((d,.arr (ep,d))::env) (((ep,d),.arr e sz (xs.map (ev (get env))))::σ) K:=
 Jz λv σ'=>by simp only[E,LI,AbA,Ao3];grind
theorem And{e sz xs}:Ay P O ep (⟨some d,.msl false e sz xs,none,[]⟩::l) env σ K↔IX sz (xs.map (ev (get env)))/\Ay P O ep l ((d,.sl (xs.map (ev (get env))))::env) σ K:=
 Jz λv σ'=>by simp only[E,LI,Ab7,Ab9]
theorem Aud{x i g}:Ay P O ep (⟨some d,.slS x i g,none,[]⟩::l) env σ K↔True/\(Ma (get env) i g (ev (get env) x)).isSome=true/\Ay P O ep l ((d,(Ma (get env) i g (ev (get env) x)).getD .any)::env) σ K:=
 Mr λv σ'=>by
  simp only[E,A03];constructor
  .rintro⟨l,a,b,e,j,o,p,q,rfl,rfl⟩;simp[Ma,e,j,o,p,q]
  .rintro⟨h,rfl⟩;cases r:ev (get env) x<;>rw[r] at h<;>simp only[Ma] at h<;>(try (cases h;done));rename_i l;cases e:GV (get env) 0 i with
   | none=>rw[e] at h;cases h
   | some a=>
    cases j:GV (get env) l.length g with
    | none=>rw[e,j] at h;cases h
    | some b=>simp_all
theorem Atf{x i g sz}:Ay P O ep (⟨some d,.slL x i g sz,none,[]⟩::l) env σ K↔isL sz (ev (get env) x)/\(IQ (get env) i g (toL (ev (get env) x))).isSome=true/\Ay P O ep l ((d,(IQ (get env) i g (toL (ev (get env) x))).getD .any)::env) σ K:=
 Mr λv σ'=>by
  simp only[E];constructor
  .rintro⟨es,a,b,e,j,r,s,u,w,rfl,rfl⟩;rcases e with e|⟨e,rfl⟩
   .rw[e];exact⟨w,by simp[IQ,toL,j,r,s,u],rfl⟩
   .rw[e];exact⟨trivial,(by simp only[IQ,j,r,A1c];exact Amm ⟨s,u⟩:IQ (get env) i g []=_),rfl⟩
  .rintro⟨p,h,rfl⟩;have q:∀es:List V,(ev (get env) x=.sl es\/ev (get env) x=.nil/\es=[])->IQ (get env) i g es=some v->(∀y∈es,(cells y).length=sz)->∃es a b,(ev (get env) x=.sl es\/ev (get env) x=.nil/\es=[])/\GV (get env) 0 i=some a/\GV (get env) es.length g=some b/\a<=b/\b<=es.length/\(∀y∈es,(cells y).length=sz)/\v=.sl ((es.take b).drop a)/\σ'=σ':=by
    intro es z h A;unfold IQ at h;cases e:GV (get env) 0 i with
    | none=>rw[e] at h;cases h
    | some a=>
     cases j:GV (get env) es.length g with
     | none=>rw[e,j] at h;cases h
     | some b=>
      simp only[e,j,A1c] at h;split at h
      .grind
      .cases h
   cases o:ev (get env) x<;>rw[o] at p h<;>simp only[isL] at p
   .have:=q [] (.inr ⟨o,rfl⟩) h (by simp);rw[o] at this;exact this
   .rename_i es;have:=q es (.inl o) h p;rw[o] at this;exact this
theorem Al2{x}:Ay P O ep (⟨some d,.lenS x,none,[]⟩::l) env σ K↔isS (ev (get env) x)/\Ay P O ep l ((d,.i .i64 ((toS (ev (get env) x)).length:Nat))::env) σ K:=
 Jz λv σ'=>by simp only[E];cases ev (get env) x<;>simp[isS,toS]
theorem Ajh{x}:Ay P O ep (⟨some d,.lenL x,none,[]⟩::l) env σ K↔(AE σ (ev (get env) x)).isSome=true/\Ay P O ep l ((d,.i .i64 (((AE σ (ev (get env) x)).getD []).length:Nat))::env) σ K:=
 Jz λv σ'=>by simp only[E];cases AE σ (ev (get env) x)<;>simp
theorem ApX{s x e sz}:Ay P O ep (⟨some d,.app s x e sz,none,[]⟩::l) env σ K↔((AE σ (ev (get env) x)).isSome=true/\∀y∈(AE σ (ev (get env) x)).getD [],(cells y).length=sz)/\(O6 σ (ep,d) e sz ((AE σ (ev (get env) x)).getD []) (ev (get env) s)).isSome=true/\Ay P O ep l ((d,.arr (ep,d))::env) ((O6 σ (ep,d) e sz ((AE σ (ev (get env) x)).getD []) (ev (get env) s)).getD []) K:=
 Ahq λv σ'=>by
  simp only[E,Ao3];cases AE σ (ev (get env) x) with
  | none=>simp
  | some xs=>
   simp only[Ao3,AwY,Option.getD_some,A03];constructor
   .rintro⟨q,p,rfl,rfl,h,rfl,g⟩;refine⟨h,rfl,?_⟩;cases i:ev (get env) s<;>rw[i] at g<;>simp only at g<;>(try (exact g.elim))
    .simp[O6,g]
    .obtain⟨es,j,o,rfl⟩:=g;simp[O6,j,o]
   .rintro⟨h,rfl,g⟩;refine⟨d,xs,rfl,rfl,h,rfl,?_⟩;cases i:ev (get env) s<;>rw[i] at g<;>simp only[O6] at g<;>(try (cases g;done))
    .grind
    grind
theorem Ary{x k}:Ay P O ep (⟨some d,.ext x k,none,[]⟩::l) env σ K↔True/\(Wo k (ev (get env) x)).isSome=true/\Ay P O ep l ((d,(Wo k (ev (get env) x)).getD .any)::env) σ K:=
 Mr λv σ'=>by simp only[E];cases ev (get env) x<;>simp[Wo]
theorem AnW{f first caps}:Ay P O ep (⟨some d,.mkfn f first caps,none,[]⟩::l) env σ K↔True/\Ay P O ep l ((d,.fn f (first.map (ev (get env))) (caps.map (ev (get env))))::env) σ K:=
 Jz λv σ'=>by simp[E]
theorem AwL{e x xs}:Ay P O ep (⟨some d,.mx e x xs,none,[]⟩::l) env σ K↔True/\(RJ e (ev (get env) x) (xs.map (ev (get env)))).isSome=true/\Ay P O ep l ((d,(RJ e (ev (get env) x) (xs.map (ev (get env)))).getD .any)::env) σ K:=
 Mr λv σ'=>by simp[E]
theorem AeV{x}:Ay P O ep (⟨some d,.nilck x,none,[]⟩::l) env σ K↔isN (ev (get env) x)/\Ay P O ep l ((d,ev (get env) x)::env) σ K:=
 Jz λv σ'=>Iff.rfl
theorem Aoa{a c z e sz}:Ay P O ep (⟨some d,.mksl a c z e sz,none,[]⟩::l) env σ K↔(V3 (ev (get env) a)/\V3 (ev (get env) c)/\0<=Nz (ev (get env) a)/\Nz (ev (get env) a)<=Nz (ev (get env) c)/\Nz (ev (get env) c)<=AJ)/\Ay P O ep l ((d,.arr (ep,d))::env) (((ep,d),.arr e sz (List.replicate (Nz (ev (get env) a)).toNat z))::σ) K:=
 Jz λv σ'=>by
  simp only[E,Ao3];constructor
  .rintro⟨r,k,k',n,m,rfl,g,h,j,i,rfl,rfl⟩;rw[g,h];simp only[V3,Nz,A03,A19,A1i];grind
  .rintro⟨⟨g,h,j,i,o⟩,rfl,rfl⟩;cases p:ev (get env) a<;>rw[p] at g j i<;>simp only[V3] at g;cases q:ev (get env) c<;>rw[q] at h i o<;>simp only[V3] at h;simp only[Nz] at *;rename_i k n k' m;exact⟨d,k,k',n.toNat,m.toNat,rfl,by grind,by grind,by omega,by omega,rfl,rfl⟩
end
theorem wrap64{n}(e:-9223372036854775808<=n)(g:n<9223372036854775808):IntKind.i64.wrap n=n:=by simp only[IntKind.wrap,IntKind.bits,IntKind.signed] at *;simp;omega
theorem Afj{e v}:RJ e v []=some v:=by cases v<;>rfl
theorem AtG{e k a b r}:RJ e (.i k a) (.i k b::r)=RJ e (.i k (if e=true then min a b else max a b)) r:=by simp[RJ]
end Go.Ir
end
namespace Go.Ir
open Go.RowKit
def WM(o:Option AP)(id:Id)(sz:Nat)(n:Int):Option V:=
 match o with|some (.arr _ e es)=>if e=sz/\n.toNat<es.length then some (.aref id n.toNat sz 0) else none|_=>none
def ZR(en:Option AP)(e n:Nat)(ag:Bool):Option V:=match en with|some (.box u)=>sub u e n ag|some (.tbox _ u)=>sub u e n ag|_=>none
def Aby(en:Option AP)(i sz e n:Nat)(ag:Bool):Option V:=match en with|some (.arr _ g es)=>if g=sz then(es[i]?).bind λh=>sub h e n ag else none|_=>none
def Sw(en:Option AP)(σ:Aq)(n:Nat)(x:V)(id:Id)(e:Nat):Option Aq:=match en with|some (.box u)=>(Ef u e n x).map λg=>upd σ id (.box g)|some (.tbox t u)=>(Ef u e n x).map λg=>upd σ id (.tbox t g)|_=>none
def Xc(en:Option AP)(σ:Aq)(n:Nat)(x:V)(id:Id)(j sz h:Nat):Option Aq:=match en with|some (.arr e i es)=>if i=sz then(es[j]?).bind λo=>(Ef o h n x).map λg=>upd σ id (.arr e sz (es.set j g)) else none|_=>none
def Aj5(en:Option AP)(σ:Aq)(id g:Id)(e sz:Nat)(xs:List V):Option Aq:=match en with|some (.arr e' h es)=>if e'=e/\h=sz/\es.length+xs.length<=AJ then some ((id,.arr e sz (es++xs))::del σ g) else none|_=>none
def Vw:Option AP->Option (List V)|some (.arr _ _ es)=>some es|_=>none
def AcP:V->Option Nat|.i _ n=>if 0<=n then some n.toNat else none|_=>none
theorem Afm{x}:cells (.b x)=[(.b x)]:=rfl
theorem Axv{x}:V.ok (.b x)=true:=rfl
theorem Ad5{k n}:cells (.i k n)=[(.i k n)]:=rfl
theorem AvS{k n}:V.ok (.i k n)=true:=rfl
theorem AcZ{l}:cells (.s l)=[(.s l)]:=rfl
theorem Axi{l}:V.ok (.s l)=true:=rfl
theorem cR:cells .nil=[.nil]:=rfl
theorem AjN:V.ok .nil=true:=rfl
theorem tF{es}:cells (.sl es)=[(.sl es)]:=rfl
theorem AtQ{es}:V.ok (.sl es)=true:=rfl
theorem cO{cs}:cells (.agg cs)=cs:=rfl
theorem Aj9{cs}:V.ok (.agg cs)=true:=rfl
theorem bB{id o}:cells (.ref id o)=[(.ref id o)]:=rfl
theorem Al3{id o}:V.ok (.ref id o)=true:=rfl
theorem gR{id}:cells (.arr id)=[(.arr id)]:=rfl
theorem Aon{id}:V.ok (.arr id)=true:=rfl
theorem W7{id e sz o}:cells (.aref id e sz o)=[(.aref id e sz o)]:=rfl
theorem AeJ{id e sz o}:V.ok (.aref id e sz o)=true:=rfl
theorem AaB{e o}:cells (.ep e o)=[(.ep e o)]:=rfl
theorem ApU{e o}:V.ok (.ep e o)=true:=rfl
theorem qH{f a c}:cells (.fn f a c)=[(.fn f a c)]:=rfl
theorem Aun{f a c}:V.ok (.fn f a c)=true:=rfl
theorem rP:cells .np=[.np]:=rfl
theorem Arf:V.ok .np=true:=rfl
theorem zE:cells .nf=[.nf]:=rfl
theorem Apf:V.ok .nf=true:=rfl
theorem nF:cells .ni=[.ni]:=rfl
theorem Ats:V.ok .ni=true:=rfl
theorem AdF{cs}:UX (.agg cs)=true:=rfl
theorem AoL{x}:Va (.b x)=True:=rfl
theorem Ate{x}:Pb (.b x)=x:=rfl
theorem Arb{k n}:V3 (.i k n)=True:=rfl
theorem AqE{k n}:Nz (.i k n)=n:=rfl
theorem AsW{k n}:kiI (.i k n)=k:=rfl
theorem ApY{l}:isS (.s l)=True:=rfl
theorem AoA{l}:toS (.s l)=l:=rfl
theorem tU{id o}:Ww (.ref id o)=True:=rfl
theorem V6{id o m}:Km (.ref id o) m=.ref id (o+m):=rfl
theorem AdK{id o}:isN (.ref id o)=True:=rfl
theorem dS{id e sz o}:Ww (.aref id e sz o)=True:=rfl
theorem Uu{id e sz o m}:Km (.aref id e sz o) m=.aref id e sz (o+m):=rfl
theorem uA{id e sz o}:isN (.aref id e sz o)=True:=rfl
theorem AeM{e o}:Ww (.ep e o)=True:=rfl
theorem dV{e o m}:Km (.ep e o) m=.ep e (o+m):=rfl
theorem AlP{e o}:isN (.ep e o)=True:=rfl
theorem AlU{f a c}:isN (.fn f a c)=True:=rfl
theorem bR{σ sz es k n}:Fw σ sz (.sl es) (.i k n)=if 0<=n then(es[n.toNat]?).bind λe=>if(cells e).length=sz then some (.ep e 0) else none else none:=rfl
theorem Xi{σ sz id k n}:Fw σ sz (.arr id) (.i k n)=if 0<=n then WM (lk σ id) id sz n else none:=by unfold Fw WM;rfl
theorem Vj{e g:Nat}{es id sz n}:WM (some (.arr e g es)) id sz n=if g=sz/\n.toNat<es.length then some (.aref id n.toNat sz 0) else none:=rfl
theorem bU{σ n ag id o}:Ht σ n ag (.ref id o)=ZR (lk σ id) o n ag:=by unfold Ht ZR;rfl
theorem bW{u o n ag}:ZR (some (.box u)) o n ag=sub u o n ag:=rfl
theorem Wv{t u o n ag}:ZR (some (.tbox t u)) o n ag=sub u o n ag:=rfl
theorem Vk{σ n ag id e sz o}:Ht σ n ag (.aref id e sz o)=Aby (lk σ id) e sz o n ag:=by unfold Ht Aby;rfl
theorem bM{e g:Nat}{es h sz o n ag}:Aby (some (.arr e g es)) h sz o n ag=if g=sz then(es[h]?).bind λi=>sub i o n ag else none:=rfl
theorem oI{σ n ag e o}:Ht σ n ag (.ep e o)=sub e o n ag:=rfl
theorem WH{σ n x id o}:F0 σ n x (.ref id o)=Sw (lk σ id) σ n x id o:=by unfold F0 Sw;rfl
theorem VE{u σ n x id o}:Sw (some (.box u)) σ n x id o=(Ef u o n x).map λe=>upd σ id (.box e):=rfl
theorem Ti{t u σ n x id o}:Sw (some (.tbox t u)) σ n x id o=(Ef u o n x).map λe=>upd σ id (.tbox t e):=rfl
theorem Ud{σ n x id e sz o}:F0 σ n x (.aref id e sz o)=Xc (lk σ id) σ n x id e sz o:=by unfold F0 Xc;rfl
theorem Xf{e g:Nat}{es σ n x id i sz o}:Xc (some (.arr e g es)) σ n x id i sz o=if g=sz then(es[i]?).bind λj=>(Ef j o n x).map λh=>upd σ id (.arr e sz (es.set i h)) else none:=rfl
theorem Amj{l k n}:Rb (.s l) (.i k n)=if 0<=n then(l[n.toNat]?).map λc=>.i .u8 c.toNat else none:=rfl
theorem vC{g h e l}:Ma g h e (.s l)=(GV g 0 h).bind λa=>(GV g l.length e).bind λb=>if a<=b/\b<=l.length then some (.s ((l.take b).drop a)) else none:=rfl
theorem Ak1{sz es}:isL sz (.sl es)=∀y∈es,(cells y).length=sz:=rfl
theorem AcQ{sz}:isL sz .nil=True:=rfl
theorem Aj1{es}:toL (.sl es)=es:=rfl
theorem AdB:toL .nil=[]:=rfl
theorem Aal{σ id e sz xs}:O6 σ id e sz xs .nil=if xs.length<=AJ then some ((id,.arr e sz xs)::σ) else none:=rfl
theorem mO{σ id g e sz xs}:O6 σ id e sz xs (.arr g)=Aj5 (lk σ g) σ id g e sz xs:=by unfold O6 Aj5;rfl
theorem oD{e' h:Nat}{es σ id g e sz xs}:Aj5 (some (.arr e' h es)) σ id g e sz xs=if e'=e/\h=sz/\es.length+xs.length<=AJ then some ((id,.arr e sz (es++xs))::del σ g) else none:=rfl
theorem iV{k vs}:Wo k (.tup vs)=vs[k]?:=rfl
theorem Wx{σ es}:AE σ (.sl es)=some es:=rfl
theorem SG{σ}:AE σ .nil=some []:=rfl
theorem U2{σ id}:AE σ (.arr id)=Vw (lk σ id):=by unfold AE Vw;rfl
theorem Xe{e sz:Nat}{es}:Vw (some (.arr e sz es))=some es:=rfl
theorem An1{e k k' a b}:Pq e (.i k a) (.i k' b)=(k=k'/\Ab3 e b):=rfl
theorem AkY{e a b}:Pq e (.s a) (.s b)=s9 e a b:=rfl
theorem AnU{e k k' a b}:Tp e (.i k a) (.i k' b)=xC e k a b:=rfl
theorem Ani{e a b}:Tp e (.s a) (.s b)=uU e a b:=rfl
theorem yP{g m}:GV g m none=some m:=rfl
theorem ST{g m x}:GV g m (some x)=AcP (ev g x):=by unfold GV AcP;rfl
theorem AnT{k n}:AcP (.i k n)=if 0<=n then some n.toNat else none:=rfl
end Go.Ir
section
namespace Go.Ir
open Go.RowKit
def Bm(env:BB)(x:X):V:=ev (get env) x
def EN(env:BB)(xs:List X):List V:=xs.map (ev (get env))
def psE(env:BB)(ps:List (Nat×Nat×X)):List (Nat×Nat×V):=ps.map λp=>(p.1,p.2.1,ev (get env) p.2.2)
def Ug(env:BB)(ps:List (Nat×Nat×X)):Prop:=gL (get env) ps
def Xg(env:BB)(m:Nat)(x:Option X):Option Nat:=GV (get env) m x
def MS(env:BB)(g e:Option X)(v:V):Option V:=Ma (get env) g e v
def MZ(env:BB)(g e:Option X)(es:List V):Option V:=IQ (get env) g e es
theorem Apg{env s}:Bm env (.t s)=get env s:=rfl
theorem Ape{env v}:Bm env (.c v)=v:=rfl
theorem AeB{env}:EN env []=[]:=rfl
theorem mV{env x xs}:EN env (x::xs)=Bm env x::EN env xs:=rfl
theorem AeA{env}:psE env []=[]:=rfl
theorem iZ{env a b x ps}:psE env ((a,b,x)::ps)=(a,b,Bm env x)::psE env ps:=rfl
theorem iH{env}:Ug env []=True:=rfl
theorem WQ{env a b x ps}:Ug env ((a,b,x)::ps)=((Bm env x).ok=true/\Ug env ps):=rfl
theorem iI{env m}:Xg env m none=some m:=rfl
theorem gO{env m x}:Xg env m (some x)=AcP (Bm env x):=by unfold Xg Bm;exact ST
theorem gJ{env g e l}:MS env g e (.s l)=(Xg env 0 g).bind λa=>(Xg env l.length e).bind λb=>if a<=b/\b<=l.length then some (.s ((l.take b).drop a)) else none:=rfl
theorem W9{env g e es}:MZ env g e es=(Xg env 0 g).bind λa=>(Xg env es.length e).bind λb=>if a<=b/\b<=es.length then some (.sl ((es.take b).drop a)) else none:=rfl
theorem Cd{k s v}{r:BB}:get ((k,v)::r) s=if k=s then v else get r s:=rfl
theorem AbQ{s}:get [] s=.any:=rfl
theorem Sh{env}:restrict [] env=[]:=rfl
theorem Pi{s l env}:restrict (s::l) env=(s,get env s)::restrict l env:=rfl
section
variable{P:Program}{O:World}{ep d:Nat}{l:List I}{env:BB}{σ:Aq}{K:BB→Aq→Prop}
theorem AvP{x}:Ay P O ep (⟨some d,.mv x,none,[]⟩::l) env σ K↔Ay P O ep l ((d,Bm env x)::env) σ K:=AvX
theorem Ajm{c a b}:Ay P O ep (⟨some d,.pick c a b,none,[]⟩::l) env σ K↔Va (Bm env c)/\Ay P O ep l ((d,bif Pb (Bm env c) then Bm env a else Bm env b)::env) σ K:=Alp
theorem AoQ{e x y}:Ay P O ep (⟨some d,.bin e x y,none,[]⟩::l) env σ K↔Pq e (Bm env x) (Bm env y)/\Ay P O ep l ((d,Tp e (Bm env x) (Bm env y))::env) σ K:=Arv
theorem AqC{e x y}:Ay P O ep (⟨some d,.eqb e x y,none,[]⟩::l) env σ K↔(Va (Bm env x)/\Va (Bm env y))/\Ay P O ep l ((d,.b (if e then !(Pb (Bm env x)==Pb (Bm env y)) else Pb (Bm env x)==Pb (Bm env y)))::env) σ K:=AsY
theorem As2{x}:Ay P O ep (⟨some d,.not x,none,[]⟩::l) env σ K↔Va (Bm env x)/\Ay P O ep l ((d,.b (!(Pb (Bm env x))))::env) σ K:=Asd
theorem Apn{k x}:Ay P O ep (⟨some d,.cvi k x,none,[]⟩::l) env σ K↔V3 (Bm env x)/\Ay P O ep l ((d,.i k (k.wrap (Nz (Bm env x))))::env) σ K:=Aso
theorem Acj{x e}:Ay P O ep (⟨some d,.faddr x e,none,[]⟩::l) env σ K↔Ww (Bm env x)/\Ay P O ep l ((d,Km (Bm env x) e)::env) σ K:=AcD
theorem AbW{x i e sz}:Ay P O ep (⟨some d,.iaddr x i e sz,none,[]⟩::l) env σ K↔True/\(Fw σ sz (Bm env x) (Bm env i)).isSome=true/\Ay P O ep l ((d,(Fw σ sz (Bm env x) (Bm env i)).getD .any)::env) σ K:=Adv
theorem AsP{x i}:Ay P O ep (⟨some d,.idx x i,none,[]⟩::l) env σ K↔True/\(Rb (Bm env x) (Bm env i)).isSome=true/\Ay P O ep l ((d,(Rb (Bm env x) (Bm env i)).getD .any)::env) σ K:=Atd
theorem AnP{x n ag}:Ay P O ep (⟨some d,.load x n ag,none,[]⟩::l) env σ K↔True/\(Ht σ n ag (Bm env x)).isSome=true/\Ay P O ep l ((d,(Ht σ n ag (Bm env x)).getD .any)::env) σ K:=AmB
theorem Aef{a x n}:Ay P O ep (⟨none,.store a x n,none,[]⟩::l) env σ K↔(Bm env x).ok=true/\(F0 σ n (Bm env x) (Bm env a)).isSome=true/\Ay P O ep l env ((F0 σ n (Bm env x) (Bm env a)).getD []) K:=AdX
theorem Aqk{x}:Ay P O ep (⟨some d,.box x,none,[]⟩::l) env σ K↔(Bm env x).ok=true/\Ay P O ep l ((d,.ref (ep,d) 0)::env) (((ep,d),.box (Bm env x))::σ) K:=AsA
theorem AeP{z}:Ay P O ep (⟨some d,.alloc z,none,[]⟩::l) env σ K↔True/\Ay P O ep l ((d,.ref (ep,d) 0)::env) (((ep,d),.box z)::σ) K:=Aco
theorem Aer{z ps}:Ay P O ep (⟨some d,.build z ps,none,[]⟩::l) env σ K↔Ug env ps/\(((FC z (psE env ps)).map V.agg).isSome=true)/\Ay P O ep l ((d,((FC z (psE env ps)).map V.agg).getD .any)::env) σ K:=AdG
theorem AlM{e sz xs}:Ay P O ep (⟨some d,.msl true e sz xs,none,[]⟩::l) env σ K↔IX sz (EN env xs)/\Ay P O ep l ((d,.arr (ep,d))::env) (((ep,d),.arr e sz (EN env xs))::σ) K:=AkM
theorem Ams{e sz xs}:Ay P O ep (⟨some d,.msl false e sz xs,none,[]⟩::l) env σ K↔IX sz (EN env xs)/\Ay P O ep l ((d,.sl (EN env xs))::env) σ K:=And
theorem Aq1{x g e}:Ay P O ep (⟨some d,.slS x g e,none,[]⟩::l) env σ K↔True/\(MS env g e (Bm env x)).isSome=true/\Ay P O ep l ((d,(MS env g e (Bm env x)).getD .any)::env) σ K:=Aud
theorem AsE{x g e sz}:Ay P O ep (⟨some d,.slL x g e sz,none,[]⟩::l) env σ K↔isL sz (Bm env x)/\(MZ env g e (toL (Bm env x))).isSome=true/\Ay P O ep l ((d,(MZ env g e (toL (Bm env x))).getD .any)::env) σ K:=Atf
theorem Am5{x}:Ay P O ep (⟨some d,.lenS x,none,[]⟩::l) env σ K↔isS (Bm env x)/\Ay P O ep l ((d,.i .i64 ((toS (Bm env x)).length:Nat))::env) σ K:=Al2
theorem AmD{x}:Ay P O ep (⟨some d,.lenL x,none,[]⟩::l) env σ K↔(AE σ (Bm env x)).isSome=true/\Ay P O ep l ((d,.i .i64 (((AE σ (Bm env x)).getD []).length:Nat))::env) σ K:=Ajh
theorem Att{s x e sz}:Ay P O ep (⟨some d,.app s x e sz,none,[]⟩::l) env σ K↔((AE σ (Bm env x)).isSome=true/\∀y∈(AE σ (Bm env x)).getD [],(cells y).length=sz)/\(O6 σ (ep,d) e sz ((AE σ (Bm env x)).getD []) (Bm env s)).isSome=true/\Ay P O ep l ((d,.arr (ep,d))::env) ((O6 σ (ep,d) e sz ((AE σ (Bm env x)).getD []) (Bm env s)).getD []) K:=ApX
theorem Aqm{x k}:Ay P O ep (⟨some d,.ext x k,none,[]⟩::l) env σ K↔True/\(Wo k (Bm env x)).isSome=true/\Ay P O ep l ((d,(Wo k (Bm env x)).getD .any)::env) σ K:=Ary
theorem Aoj{f first caps}:Ay P O ep (⟨some d,.mkfn f first caps,none,[]⟩::l) env σ K↔True/\Ay P O ep l ((d,.fn f (EN env first) (EN env caps))::env) σ K:=AnW
theorem Axg{e x xs}:Ay P O ep (⟨some d,.mx e x xs,none,[]⟩::l) env σ K↔True/\(RJ e (Bm env x) (EN env xs)).isSome=true/\Ay P O ep l ((d,(RJ e (Bm env x) (EN env xs)).getD .any)::env) σ K:=AwL
theorem AbC{x}:Ay P O ep (⟨some d,.nilck x,none,[]⟩::l) env σ K↔isN (Bm env x)/\Ay P O ep l ((d,Bm env x)::env) σ K:=AeV
theorem AmH{a c z e sz}:Ay P O ep (⟨some d,.mksl a c z e sz,none,[]⟩::l) env σ K↔(V3 (Bm env a)/\V3 (Bm env c)/\0<=Nz (Bm env a)/\Nz (Bm env a)<=Nz (Bm env c)/\Nz (Bm env c)<=AJ)/\Ay P O ep l ((d,.arr (ep,d))::env) (((ep,d),.arr e sz (List.replicate (Nz (Bm env a)).toNat z))::σ) K:=Aoa
variable{nt:Nat}{b:IC}{Q:Exit→St→Prop}{st:St}{Inv:Nat→St→Prop}{m k k':Nat}
theorem Oe:Ek k Q .normal st=Q .normal st:=rfl
theorem RW:Ek k Q (.exit k') st=if k'=k then Q .normal st else Q (.exit k') st:=rfl
theorem Tq:Ek k Q .ret st=Q .ret st:=rfl
theorem Sl:Zn Inv m Q .normal st=∃e,e<m/\Inv e st:=rfl
theorem VN:Zn Inv m Q (.exit k) st=Q (.exit k) st:=rfl
theorem fK:Zn Inv m Q .ret st=Q .ret st:=rfl
end
end Go.Ir
end
section
namespace Go.Ir
open Go.RowKit
def J(P:Program)(O:World)(ep:Nat)(live:List Nat)(Q:Exit->St->Prop)(l:List I)(env:BB)(σ:Aq):Prop:=
 Ay P O ep l env σ λenv σ=>∀k,Q .normal ⟨restrict live env,σ,ep+1+k⟩
def JP(P:Program)(O:World)(ep:Nat)(live:List Nat)(Q:Exit->St->Prop)(p:Prop)(l:List I)(env:BB)(σ:Aq):Prop:=p/\J P O ep live Q l env σ
def JL(P:Program)(O:World)(ep:Nat)(live:List Nat)(Q:Exit->St->Prop)(p:Prop)(o:Option V)(l:List I)(d:Nat)(env:BB)(σ:Aq):Prop:=p/\o.isSome=true/\J P O ep live Q l ((d,o.getD .any)::env) σ
def JT(P:Program)(O:World)(ep:Nat)(live:List Nat)(Q:Exit->St->Prop)(p:Prop)(o:Option Aq)(l:List I)(env:BB):Prop:=p/\o.isSome=true/\J P O ep live Q l env (o.getD [])
def UZ(P:Program)(O:World)(ep:Nat)(live:List Nat)(Q:Exit->St->Prop)(v:V)(e:Bool)(d:Option Nat)(g:Bh)(ap:List X)(l:List I)(env:BB)(σ:Aq):Prop:=
 JQ e v (J P O ep live Q (⟨d,g,none,ap⟩::l) env σ) (J P O ep live Q l (put env d (.tup [])) σ)
def Uh(P:Program)(O:World)(ep:Nat)(live:List Nat)(Q:Exit->St->Prop)(f:FuncId)(vs:List V)(l:List I)(d:Nat)(env:BB)(σ:Aq):Prop:=
 ∃v,Ak P O f vs [] v []/\J P O ep live Q l ((d,v)::env) σ
def VM(P:Program)(O:World)(ep:Nat)(live:List Nat)(Q:Exit->St->Prop)(f:FuncId)(vs:List V)(l:List I)(d:Nat)(env:BB)(σ:Aq):Prop:=
 ∃v σi,Ak P O f vs σi v σi/\(∀id e,lk σi id=some e->lk σ id=some e)/\J P O ep live Q l ((d,v)::env) σ
def HP(P:Program)(O:World)(ep:Nat)(live:List Nat)(Q:Exit->St->Prop)(f:FuncId)(vs:List V)(l:List I)(d:Nat)(env:BB)(σ:Aq):Prop:=
 ∃v σi σo,Ak P O f vs σi v σo/\(∀id e,lk σi id=some e->lk σ id=some e)/\J P O ep live Q l ((d,v)::env) (over σi σo σ)
def Wq(P:Program)(O:World)(ep:Nat)(live:List Nat)(Q:Exit->St->Prop)(f:FuncId)(vs:List V)(l:List I)(d:Nat)(env:BB)(σ:Aq):Prop:=
 ∃x σi σo,Kk P O f vs σi x σo/\(∀id e,lk σi id=some e->lk σ id=some e)/\J P O ep live Q l ((d,.arr (ep,d))::env) (((ep,d),x)::over σi σo σ)
def Aol(P:Program)(O:World)(ep:Nat)(live:List Nat)(Q:Exit->St->Prop)(h:V)(vs:List V)(l:List I)(d:Nat)(env:BB)(σ:Aq):Prop:=
 match h with
 | .fn f first caps=>Uh P O ep live Q f (first++vs++caps) l d env σ
 | _=>False
def MU(P:Program)(O:World)(ep:Nat)(live:List Nat)(Q:Exit->St->Prop)(h:V)(vs:List V)(l:List I)(d:Nat)(env:BB)(σ:Aq):Prop:=
 match h with
 | .fn f first caps=>HP P O ep live Q f (first++vs++caps) l d env σ
 | _=>False
def ZX(P:Program)(O:World)(ep:Nat)(live:List Nat)(Q:Exit->St->Prop)(f:FuncId)(vs g:List V)(l:List I)(d:Nat)(env:BB)(σ:Aq):Prop:=
 ∃v σi σo,Ak P O f vs σi v σo/\(∀id e,lk σi id=some e->lk σ id=some e)/\(∀y∈g,∀id,C3 y=some id->lk σ id≠none->lk (over σi σo σ) id=lk σ id)/\J P O ep live Q l ((d,v)::env) (over σi σo σ)
def Adj(P:Program)(O:World)(ep:Nat)(live:List Nat)(Q:Exit->St->Prop)(h:V)(vs e:List V)(l:List I)(d:Nat)(env:BB)(σ:Aq):Prop:=
 match h with
 | .fn f first caps=>ZX P O ep live Q f (first++vs++caps) e l d env σ
 | _=>False
def JW(P:Program)(O:World)(ep:Nat)(live:List Nat)(Q:Exit->St->Prop)(o:Option (Aq×V))(l:List I)(d:Nat)(env:BB):Prop:=∃p,o=some p/\J P O ep live Q l ((d,p.2)::env) p.1
def JM(P:Program)(O:World)(ep:Nat)(live:List Nat)(Q:Exit->St->Prop)(k:MkK)(o:Option AP)(l:List I)(d:Nat)(env:BB)(σ:Aq):Prop:=∃e,o=some e/\J P O ep live Q l ((d,mkV k (ep,d))::env) (((ep,d),e)::σ)
def gQ(k:RdK)(xs:List V)(e:Option AP):Option V:=e.bind λe=>rdF k e xs
def rdV(σ:Aq)(k:RdK)(xs:List V):V->Option V
 | .arr id=>gQ k xs (lk σ id)
 | _=>none
def wrO(σ:Aq)(id:Id)(k:WrK)(xs:List V)(e:Option AP):Option (Aq×V):=e.bind λe=>(wrF k e xs).map λr=>(upd σ id r.1,r.2)
def wrV(σ:Aq)(k:WrK)(xs:List V):V->Option (Aq×V)
 | .arr id=>wrO σ id k xs (lk σ id)
 | _=>none
def xU(σ:Aq)(id:Id)(n:Nat):Option AP->Option (Aq×V)
 | some (.box (.agg cs))=>if cs.length=n/\cs.all (λc=>!UX c)=true then some (del σ id,.sl cs) else none
 | _=>none
def AbL(σ:Aq)(n:Nat):V->Option (Aq×V)
 | .ref id 0=>xU σ id n (lk σ id)
 | _=>none
def KW(σ:Aq)(e mid:Id):Option AP->Option (Aq×V)
 | some (.map es)=>some ((e,.mit mid es.length [] es.length)::σ,.arr e)
 | _=>none
def MM(σ:Aq)(e:Id):V->Option (Aq×V)
 | .arr mid=>KW σ e mid (lk σ mid)
 | _=>none
def Lc(i:Option Nat)(e:Nat):Option AP->Option V
 | some (.map es)=>if e=es.length then i.bind λi=>(es[i]?).map λg=>.tup [g.1,g.2] else none
 | _=>none
def Lk(σ:Aq):Option AP->Option V
 | some (.mit mid _ seen e)=>Lc seen.getLast? e (lk σ mid)
 | _=>none
def KX(σ:Aq):V->Option V
 | .arr id=>Lk σ (lk σ id)
 | _=>none
def Tl:Option AP->Nat
 | some (.arr _ _ es)=>es.length
 | _=>0
def OU(σ:Aq):V->Nat
 | .arr id=>Tl (lk σ id)
 | _=>0
def PD:V->Nat
 | .s l=>l.length
 | _=>0
def SI(σ:Aq)(id g:Id)(e:TypeId)(l:List UInt8):Option AP->Option (Aq×V)
 | some (.arr e' sz es)=>if e'=e/\sz=1 then some ((g,.arr e 1 (es++A6 l))::del σ id,.arr g) else none
 | _=>none
def Q0(σ:Aq)(g:Id)(e:TypeId)(l:List UInt8):V->Option (Aq×V)
 | .nil=>some ((g,.arr e 1 (A6 l))::σ,.arr g)
 | .arr id=>SI σ id g e l (lk σ id)
 | _=>none
def Xy(σ:Aq)(g:Id)(e:TypeId)(s:V):V->Option (Aq×V)
 | .s l=>Q0 σ g e l s
 | _=>none
def Aa2(σ:Aq)(id g:Id)(sz:Nat)(h:V):Option AP->Option (Aq×V)
 | some (.arr e j es)=>if j=sz then(match h with
  | .i _ n=>if 0<=n then(if n.toNat<=es.length then some ((g,.arr e sz (es.take n.toNat))::del σ id,.arr g) else none) else none
  | _=>none) else none
 | _=>none
def Adm(σ:Aq)(e:Id)(sz:Nat)(h:V):V->Option (Aq×V)
 | .arr id=>Aa2 σ id e sz h (lk σ id)
 | _=>none
def JWP(P:Program)(O:World)(ep:Nat)(live:List Nat)(Q:Exit->St->Prop)(p:Prop)(o:Option (Aq×V))(l:List I)(d:Nat)(env:BB):Prop:=∃q,o=some q/\JP P O ep live Q p l ((d,q.2)::env) q.1
def Ana(es:List V):V:=.i .i64 (es.length:Nat)
def iK:List V->List V->Prop
 | [],_=>True
 | x::xs,ys=>(∀y∈ys,∀id,C3 x=some id->C3 y≠some id)/\iK xs ys
section
variable{P:Program}{O:World}{ep d:Nat}{live:List Nat}{Q:Exit→St→Prop}{l:List I}{env:BB}{σ:Aq}
theorem ApI:J P O ep live Q [] env σ=∀k,Q .normal ⟨restrict live env,σ,ep+1+k⟩:=rfl
theorem AdC:JP P O ep live Q True l env σ=J P O ep live Q l env σ:=by simp[JP]
theorem Adl{v}:JL P O ep live Q True (some v) l d env σ=J P O ep live Q l ((d,v)::env) σ:=by simp[JL]
theorem AcX{τ}:JT P O ep live Q True (some τ) l env=J P O ep live Q l env τ:=by simp[JT]
theorem Avo{x}:J P O ep live Q (⟨some d,.mv x,none,[]⟩::l) env σ=J P O ep live Q l ((d,Bm env x)::env) σ:=by unfold J;exact propext (AvP.trans (by simp))
theorem Ak3{c a b}:J P O ep live Q (⟨some d,.pick c a b,none,[]⟩::l) env σ=JP P O ep live Q (Va (Bm env c)) l ((d,bif Pb (Bm env c) then Bm env a else Bm env b)::env) σ:=by unfold J JP;exact propext (Ajm.trans (by simp[J]))
theorem Ap7{e x y}:J P O ep live Q (⟨some d,.bin e x y,none,[]⟩::l) env σ=JP P O ep live Q (Pq e (Bm env x) (Bm env y)) l ((d,Tp e (Bm env x) (Bm env y))::env) σ:=by unfold J JP;exact propext (AoQ.trans (by simp[J]))
theorem ArN{e x y}:J P O ep live Q (⟨some d,.eqb e x y,none,[]⟩::l) env σ=JP P O ep live Q ((Va (Bm env x)/\Va (Bm env y))) l ((d,.b (if e then !(Pb (Bm env x)==Pb (Bm env y)) else Pb (Bm env x)==Pb (Bm env y)))::env) σ:=by unfold J JP;exact propext (AqC.trans (by simp[J]))
theorem AtF{x}:J P O ep live Q (⟨some d,.not x,none,[]⟩::l) env σ=JP P O ep live Q (Va (Bm env x)) l ((d,.b (!(Pb (Bm env x))))::env) σ:=by unfold J JP;exact propext (As2.trans (by simp[J]))
theorem AqF{k x}:J P O ep live Q (⟨some d,.cvi k x,none,[]⟩::l) env σ=JP P O ep live Q (V3 (Bm env x)) l ((d,.i k (k.wrap (Nz (Bm env x))))::env) σ:=by unfold J JP;exact propext (Apn.trans (by simp[J]))
theorem Ae5{x e}:J P O ep live Q (⟨some d,.faddr x e,none,[]⟩::l) env σ=JP P O ep live Q (Ww (Bm env x)) l ((d,Km (Bm env x) e)::env) σ:=by unfold J JP;exact propext (Acj.trans (by simp[J]))
theorem AdV{x i e sz}:J P O ep live Q (⟨some d,.iaddr x i e sz,none,[]⟩::l) env σ=JL P O ep live Q (True) (Fw σ sz (Bm env x) (Bm env i)) l d env σ:=by unfold J JL;exact propext (AbW.trans (by simp[J]))
theorem Apb{x i}:J P O ep live Q (⟨some d,.idx x i,none,[]⟩::l) env σ=JL P O ep live Q (True) (Rb (Bm env x) (Bm env i)) l d env σ:=by unfold J JL;exact propext (AsP.trans (by simp[J]))
theorem AmE{x n ag}:J P O ep live Q (⟨some d,.load x n ag,none,[]⟩::l) env σ=JL P O ep live Q (True) (Ht σ n ag (Bm env x)) l d env σ:=by unfold J JL;exact propext (AnP.trans (by simp[J]))
theorem AcE{a x n}:J P O ep live Q (⟨none,.store a x n,none,[]⟩::l) env σ=JT P O ep live Q ((Bm env x).ok=true) (F0 σ n (Bm env x) (Bm env a)) l env:=by unfold J JT;exact propext (Aef.trans (by simp[J]))
theorem Aqj{x}:J P O ep live Q (⟨some d,.box x,none,[]⟩::l) env σ=JP P O ep live Q ((Bm env x).ok=true) l ((d,.ref (ep,d) 0)::env) (((ep,d),.box (Bm env x))::σ):=by unfold J JP;exact propext (Aqk.trans (by simp[J]))
theorem Aez{z}:J P O ep live Q (⟨some d,.alloc z,none,[]⟩::l) env σ=JP P O ep live Q (True) l ((d,.ref (ep,d) 0)::env) (((ep,d),.box z)::σ):=by unfold J JP;exact propext (AeP.trans (by simp[J]))
theorem Ace{z ps}:J P O ep live Q (⟨some d,.build z ps,none,[]⟩::l) env σ=JL P O ep live Q (Ug env ps) ((FC z (psE env ps)).map V.agg) l d env σ:=by unfold J JL;exact propext (Aer.trans (by simp[J]))
theorem Ajf{e sz xs}:J P O ep live Q (⟨some d,.msl true e sz xs,none,[]⟩::l) env σ=JP P O ep live Q (IX sz (EN env xs)) l ((d,.arr (ep,d))::env) (((ep,d),.arr e sz (EN env xs))::σ):=by unfold J JP;exact propext (AlM.trans (by simp[J]))
theorem Aoe{e sz xs}:J P O ep live Q (⟨some d,.msl false e sz xs,none,[]⟩::l) env σ=JP P O ep live Q (IX sz (EN env xs)) l ((d,.sl (EN env xs))::env) σ:=by unfold J JP;exact propext (Ams.trans (by simp[J]))
theorem ArC{x g e}:J P O ep live Q (⟨some d,.slS x g e,none,[]⟩::l) env σ=JL P O ep live Q (True) (MS env g e (Bm env x)) l d env σ:=by unfold J JL;exact propext (Aq1.trans (by simp[J]))
theorem AoO{x g e sz}:J P O ep live Q (⟨some d,.slL x g e sz,none,[]⟩::l) env σ=JL P O ep live Q (isL sz (Bm env x)) (MZ env g e (toL (Bm env x))) l d env σ:=by unfold J JL;exact propext (AsE.trans (by simp[J]))
theorem Ane{x}:J P O ep live Q (⟨some d,.lenS x,none,[]⟩::l) env σ=JP P O ep live Q (isS (Bm env x)) l ((d,.i .i64 ((toS (Bm env x)).length:Nat))::env) σ:=by unfold J JP;exact propext (Am5.trans (by simp[J]))
theorem AjB{x}:J P O ep live Q (⟨some d,.lenL x,none,[]⟩::l) env σ=JL P O ep live Q (True) ((AE σ (Bm env x)).map Ana) l d env σ:=by unfold J JL;refine propext (AmD.trans ?_);cases AE σ (Bm env x)<;>simp[Ana,J]
theorem AsD{s x e sz}:J P O ep live Q (⟨some d,.app s x e sz,none,[]⟩::l) env σ=JT P O ep live Q (((AE σ (Bm env x)).isSome=true/\∀y∈(AE σ (Bm env x)).getD [],(cells y).length=sz)) (O6 σ (ep,d) e sz ((AE σ (Bm env x)).getD []) (Bm env s)) l ((d,.arr (ep,d))::env):=by unfold J JT;exact propext (Att.trans (by simp[J]))
theorem Aup{x k}:J P O ep live Q (⟨some d,.ext x k,none,[]⟩::l) env σ=JL P O ep live Q (True) (Wo k (Bm env x)) l d env σ:=by unfold J JL;exact propext (Aqm.trans (by simp[J]))
theorem Ajo{f first caps}:J P O ep live Q (⟨some d,.mkfn f first caps,none,[]⟩::l) env σ=J P O ep live Q l ((d,.fn f (EN env first) (EN env caps))::env) σ:=by unfold J;exact propext (Aoj.trans (by simp))
theorem Awl{e x xs}:J P O ep live Q (⟨some d,.mx e x xs,none,[]⟩::l) env σ=JL P O ep live Q (True) (RJ e (Bm env x) (EN env xs)) l d env σ:=by unfold J JL;exact propext (Axg.trans (by simp[J]))
theorem Acg{x}:J P O ep live Q (⟨some d,.nilck x,none,[]⟩::l) env σ=JP P O ep live Q (isN (Bm env x)) l ((d,Bm env x)::env) σ:=by unfold J JP;exact propext (AbC.trans (by simp[J]))
theorem Al1{a c z e sz}:J P O ep live Q (⟨some d,.mksl a c z e sz,none,[]⟩::l) env σ=JP P O ep live Q ((V3 (Bm env a)/\V3 (Bm env c)/\0<=Nz (Bm env a)/\Nz (Bm env a)<=Nz (Bm env c)/\Nz (Bm env c)<=AJ)) l ((d,.arr (ep,d))::env) (((ep,d),.arr e sz (List.replicate (Nz (Bm env a)).toNat z))::σ):=by unfold J JP;exact propext (AmH.trans (by simp[J]))
theorem Avq{k xs}:J P O ep live Q (⟨some d,.pu k xs,none,[]⟩::l) env σ=JL P O ep live Q True (M0 k (EN env xs)) l d env σ:=by
 unfold J JL;refine propext (Do.trans ?_);simp only[E,put,EN,A03];cases h:M0 k (xs.map (ev (get env))) with
 | none=>simp
 | some v=>simp only[Ao3,AwY,Option.getD_some,A03];exact⟨λ⟨u,τ,⟨h1,h2⟩,h3⟩=>by subst h1;subst h2;exact h3,λh=>⟨_,_,⟨rfl,rfl⟩,h⟩⟩
theorem Atu{r}:eqN true r=.b (!r):=rfl
theorem As4{r}:eqN false r=.b r:=rfl
theorem Ata{k m xs}:J P O ep live Q (⟨some d,.rdm k m xs,none,[]⟩::l) env σ=JL P O ep live Q True (rdV σ k (EN env xs) (Bm env m)) l d env σ:=by
 unfold J JL;refine propext (Do.trans ?_);simp only[E,put,EN,A03,Bm];constructor
 .rintro⟨v,σ',⟨⟨id,e,g,i,j⟩,rfl⟩,h⟩;have:rdV σ' k (xs.map (ev (get env))) (ev (get env) m)=some v:=by rw[g];simp[rdV,gQ,i,j]
  rw[this];exact⟨rfl,h⟩
 .rintro⟨g,h⟩;have ⟨v,hv⟩:=AxV.1 g;rw[hv] at h;unfold rdV at hv;split at hv
  .rename_i id o;unfold gQ at hv;have ⟨e,i,j⟩:=AbS.1 hv;exact⟨v,σ,⟨⟨id,e,o,i,j⟩,rfl⟩,h⟩
  .cases hv
theorem Yr{j k m xs v σ'}:E P O ep j (.wrm k m xs) (get env) σ v σ'↔wrV σ k (EN env xs) (Bm env m)=some (σ',v):=by
 simp only[E,EN,Bm];constructor
 .rintro⟨id,e,e',o,i,h,rfl⟩;rw[o];simp[wrV,wrO,i,h]
 .intro g;unfold wrV at g;split at g
  .rename_i id p;unfold wrO at g;have ⟨e,i,h⟩:=AbS.1 g;have ⟨r,h4,h5⟩:=Afo.1 h;grind
  .cases g
theorem Alw{k m xs}:J P O ep live Q (⟨none,.wrm k m xs,none,[]⟩::l) env σ=JT P O ep live Q True ((wrV σ k (EN env xs) (Bm env m)).map (·.1)) l env:=by
 unfold J JT;refine propext (Do.trans ?_);simp only[Yr,put,A03];cases h:wrV σ k (EN env xs) (Bm env m) with
 | none=>simp
 | some p=>have ⟨τ,v⟩:=p;simp only[Ao3,A1B,Azw,AwY,Option.getD_some,A03];exact⟨λ⟨u,ρ,⟨h1,h2⟩,h3⟩=>by subst h1;subst h2;exact h3,λh=>⟨_,_,⟨rfl,rfl⟩,h⟩⟩
theorem Asc{k m xs}:J P O ep live Q (⟨some d,.wrm k m xs,none,[]⟩::l) env σ=JW P O ep live Q (wrV σ k (EN env xs) (Bm env m)) l d env:=by
 unfold J JW;refine propext (Do.trans ?_);simp only[Yr,put];constructor
 .rintro⟨v,σ',e,g⟩;exact⟨(σ',v),e,g⟩
 .rintro⟨p,e,g⟩;exact⟨p.2,p.1,e,g⟩
theorem AtE{k xs}:J P O ep live Q (⟨some d,.mkm k xs,none,[]⟩::l) env σ=JM P O ep live Q k (ZK k (EN env xs)) l d env σ:=by
 unfold J JM;refine propext (Do.trans ?_);simp only[E,put,EN];constructor
 .rintro⟨v,σ',⟨j,e,g,i,rfl,rfl⟩,h⟩;cases g;exact⟨e,i,h⟩
 .rintro⟨e,g,h⟩;exact⟨_,_,⟨d,e,rfl,g,rfl,rfl⟩,h⟩
theorem AjX{s x}{e:TypeId}:J P O ep live Q (⟨some d,.apps s x e,none,[]⟩::l) env σ=JWP P O ep live Q (OU σ (Bm env s)+PD (Bm env x)<=AJ) (Xy σ (ep,d) e (Bm env s) (Bm env x)) l d env:=by
 unfold J JWP;refine propext (Do.trans ?_);simp only[E,put,Bm];constructor
 .rintro⟨v,σ',⟨A,b,u,w,rfl,j⟩,h⟩;cases u;rw[w];split at j
  .rename_i i;obtain⟨o,rfl⟩:=j;rw[i];exact⟨(((ep,d),.arr e 1 (A6 b))::σ,.arr (ep,d)),rfl,by simpa[OU,PD] using o,h⟩
  .rename_i id i;obtain⟨es,o,y,rfl⟩:=j;rw[i];exact⟨(((ep,d),.arr e 1 (es++A6 b))::del σ id,.arr (ep,d)),by simp[Xy,Q0,o,SI],by simpa[OU,Tl,PD,o] using y,h⟩
  .exact j.elim
 .rintro⟨q,g,hp,h⟩;unfold Xy at g;split at g
  .rename_i b p;rw[p] at hp;unfold Q0 at g;split at g
   .rename_i i;cases g;refine⟨_,_,⟨d,b,rfl,p,rfl,?_⟩,h⟩;rw[i] at hp⊢;exact⟨by simpa[OU,PD] using hp,rfl⟩
   .rename_i id i;unfold SI at g;split at g
    .rename_i e' sz es r;split at g
     .rename_i z;obtain⟨rfl,rfl⟩:=z;cases g;refine⟨_,_,⟨d,b,rfl,p,rfl,?_⟩,h⟩;rw[i] at hp⊢;exact⟨es,r,by simpa[OU,Tl,PD,r] using hp,rfl⟩
     .cases g
    .cases g
   .cases g
  .cases g
theorem zB{p q}:JWP P O ep live Q p (some q) l d env=JP P O ep live Q p l ((d,q.2)::env) q.1:=by unfold JWP;grind
theorem Apd{x j sz}:J P O ep live Q (⟨some d,.slT x j sz,none,[]⟩::l) env σ=JW P O ep live Q (Adm σ (ep,d) sz (Bm env j) (Bm env x)) l d env:=by
 unfold J JW;refine propext (Do.trans ?_);simp only[E,put,Bm,GV];constructor
 .rintro⟨v,σ',⟨y,id,e,es,q,i,o,p,A,B,rfl,rfl⟩,h⟩;cases i;refine⟨(((ep,d),.arr e sz (es.take q))::del σ id,.arr (ep,d)),?_,h⟩;rw[o];simp only[Adm,p,Aa2,AbA];grind
 .rintro⟨q,g,h⟩;unfold Adm at g;split at g
  .rename_i id s;unfold Aa2 at g;split at g
   .rename_i e w es r;split at g
    .rename_i u;subst u;split at g
     .rename_i k n C;split at g
      .rename_i z;split at g
       .rename_i i;cases g;exact⟨_,_,⟨d,id,e,es,n.toNat,rfl,s,r,by grind,i,rfl,rfl⟩,h⟩
       .cases g
      .cases g
     .cases g
    .cases g
   .cases g
  .cases g
theorem rK{e id sz h}:Adm σ e sz h (.arr id)=Aa2 σ id e sz h (lk σ id):=rfl
theorem iY{g id sz h k n e es}:Aa2 σ id g sz (.i k n) (some (.arr e h es))=if h=sz then(if 0<=n then(if n.toNat<=es.length then some ((g,.arr e sz (es.take n.toNat))::del σ id,.arr g) else none) else none) else none:=rfl
theorem AcL{g e s b}:Xy σ g e s (.s b)=Q0 σ g e b s:=rfl
theorem dX{g e b}:Q0 σ g e b .nil=some ((g,.arr e 1 (A6 b))::σ,.arr g):=rfl
theorem cF{g id e b}:Q0 σ g e b (.arr id)=SI σ id g e b (lk σ id):=rfl
theorem fU{g id e e' sz es b}:SI σ id g e b (some (.arr e' sz es))=if e'=e/\sz=1 then some ((g,.arr e 1 (es++A6 b))::del σ id,.arr g) else none:=rfl
theorem aY:OU σ .nil=0:=rfl
theorem eC{id}:OU σ (.arr id)=Tl (lk σ id):=rfl
theorem cJ{e sz es}:Tl (some (.arr e sz es))=es.length:=rfl
theorem AdE{b}:PD (.s b)=b.length:=rfl
theorem PU{c}:cells c=[c]↔UX c=false:=by
 cases c<;>simp[cells,UX];rename_i cs
 match cs with
 | []=>simp
 | [x]=>
  intro h;have e:x=.agg [x]:=by simpa using h
  have g:SizeOf.sizeOf x=SizeOf.sizeOf (V.agg [x]):=by rw[<-e]
  simp at g;omega
 | _::_::_=>simp
theorem At8{m k}:J P O ep live Q (⟨some d,.frz m k,none,[]⟩::l) env σ=JW P O ep live Q (AbL σ k (Bm env m)) l d env:=by
 unfold J JW;refine propext (Do.trans ?_);simp only[E,put,Bm];constructor
 .rintro⟨v,σ',⟨id,cs,g,i,j,o,rfl,rfl⟩,h⟩;refine⟨(del σ id,.sl cs),?_,h⟩;rw[g];simp only[AbL,i,xU];rw[Amm ⟨j,Ao8.2 λc e=>by rw[PU.1 (o c e)];rfl⟩]
 .rintro⟨p,hp,h⟩;unfold AbL at hp;split at hp
  .rename_i id s;unfold xU at hp;split at hp
   .rename_i cs r;split at hp
    .rename_i e;cases hp;exact⟨_,_,⟨id,cs,s,r,e.1,λc q=>PU.2 (by grind),rfl,rfl⟩,h⟩
    .cases hp
   .cases hp
  .cases hp
theorem Aar{m}:J P O ep live Q (⟨some d,.mrange m,none,[]⟩::l) env σ=JW P O ep live Q (MM σ (ep,d) (Bm env m)) l d env:=by
 unfold J JW;refine propext (Do.trans ?_);simp only[E,put,Bm];constructor
 .rintro⟨v,σ',⟨q,mid,es,e,g,i,rfl,rfl⟩,h⟩;cases e;refine⟨(((ep,d),.mit mid es.length [] es.length)::σ,.arr (ep,d)),?_,h⟩;rw[g];simp only[MM,i,KW]
 .rintro⟨p,hp,h⟩;unfold MM at hp;split at hp
  .rename_i mid o;unfold KW at hp;split at hp
   .rename_i es j;cases hp;exact⟨_,_,⟨d,mid,es,rfl,o,j,rfl,rfl⟩,h⟩
   .cases hp
  .cases hp
theorem xV{m}:J P O ep live Q (⟨some d,.mentry m,none,[]⟩::l) env σ=JL P O ep live Q True (KX σ (Bm env m)) l d env σ:=by
 unfold J JL;refine propext (Do.trans ?_);simp only[E,put,Bm,A03];constructor
 .rintro⟨v,σ',⟨id,mid,e,seen,i,es,j,o,w,p,q,r,rfl,rfl⟩,h⟩;have:KX σ' (ev (get env) m)=some (.tup [j.1,j.2]):=by rw[o];simp[KX,Lk,Lc,w,p,q,r]
  rw[this];exact⟨rfl,h⟩
 .rintro⟨o,h⟩;have ⟨v,hv⟩:=AxV.1 o;rw[hv] at h;unfold KX at hv;split at hv
  .rename_i id z;unfold Lk at hv;split at hv
   .rename_i mid e seen g y;unfold Lc at hv;split at hv
    .rename_i es s;split at hv
     .rename_i u;subst u;have ⟨i,p,q⟩:=AbS.1 hv;have ⟨j,r,h6⟩:=Afo.1 q;subst h6;exact⟨_,_,⟨id,mid,e,seen,i,es,j,z,y,p,s,r,rfl,rfl⟩,h⟩
     .cases hv
    .cases hv
   .cases hv
  .cases hv
theorem tS{id n}:AbL σ n (.ref id 0)=xU σ id n (lk σ id):=rfl
theorem oN{id n cs}:xU σ id n (some (.box (.agg cs)))=if cs.length=n/\cs.all (λc=>!UX c)=true then some (del σ id,.sl cs) else none:=rfl
theorem SQ{e mid}:MM σ e (.arr mid)=KW σ e mid (lk σ mid):=rfl
theorem TG{e mid es}:KW σ e mid (some (.map es))=some ((e,.mit mid es.length [] es.length)::σ,.arr e):=rfl
theorem U5{id}:KX σ (.arr id)=Lk σ (lk σ id):=rfl
theorem SO{mid g e seen}:Lk σ (some (.mit mid g seen e))=Lc seen.getLast? e (lk σ mid):=rfl
theorem Ul{i e es}:Lc i e (some (.map es))=if e=es.length then i.bind λi=>(es[i]?).map λg=>.tup [g.1,g.2] else none:=rfl
theorem p9{e}:M0 (.isnil e) [.nil]=some (.b (!e)):=rfl
theorem AaZ{e}:M0 (.isnil e) [.sl []]=some .ub:=rfl
theorem tT{e x xs}:M0 (.isnil e) [.sl (x::xs)]=some (.b e):=rfl
theorem Aq7{t}:UX (.b t)=false:=rfl
theorem AqG{k n}:UX (.i k n)=false:=rfl
theorem Arh{s}:UX (.s s)=false:=rfl
theorem Afd{τ v}:JW P O ep live Q (some (τ,v)) l d env=J P O ep live Q l ((d,v)::env) τ:=by unfold JW;simp
theorem AeZ{k e}:JM P O ep live Q k (some e) l d env σ=J P O ep live Q l ((d,mkV k (ep,d))::env) (((ep,d),e)::σ):=by unfold JM;simp
theorem AbI{k xs id}:rdV σ k xs (.arr id)=gQ k xs (lk σ id):=rfl
theorem AdT{k xs id}:wrV σ k xs (.arr id)=wrO σ id k xs (lk σ id):=rfl
theorem kK{e z ok es k}:gQ (.mget e z ok) [k] (some (.map es))=(BE e k es 0).map λr=>match r with
  | some (_,v)=>if ok then .tup [v,.b true] else v
  | none=>if ok then .tup [z,.b false] else z:=rfl
theorem yG{es}:gQ .mlen [] (some (.map es))=some (.i .i64 es.length):=rfl
theorem xP{g id es k v}:wrO σ id (.mput g) [k,v] (some (.map es))=(BE g k es 0).map λr=>match r with
  | some (i,_)=>(upd σ id (.map (es.modify i λe=>(e.1,v))),.tup [])
  | none=>(upd σ id (.map (es++[(k,v)])),.tup []):=by
 simp only[wrO,wrF,A1c,Option.map_map];congr 1;grind
theorem Aa3{id s e}:wrO σ id .next [] (some (.it s e))=if e<s.length then some (upd σ id (.it s (e+(Utf8.decode ⟨s.toArray⟩ e).2)),.tup [.b true,.i .i64 e,.i .i32 (Utf8.decode ⟨s.toArray⟩ e).1]) else some (upd σ id (.it s e),.tup [.b false]):=by simp only[wrO,wrF,A1c];split<;>rfl
theorem Aeq{id}:mkV .mkmap id=.arr id:=rfl
theorem Aku{id}:mkV .strit id=.arr id:=rfl
theorem uG{t z id}:mkV (.tnew t z) id=.ref id 0:=rfl
theorem Aft{t id}:mkV (.tbx t) id=.ref id 0:=rfl
theorem rR{t z}:ZK (.tnew t z) []=some (.tbox t z):=rfl
theorem Afi{t x}:ZK (.tbx t) [x]=if x.ok=true then some (.tbox t x) else none:=rfl
theorem AcJ:ZK .mkmap []=some (.map []):=rfl
theorem AjT{s}:ZK .strit [.s s]=some (.it s 0):=rfl
theorem o3{n sz e id k i}:M0 (.aidx n sz) [.ref id e,.i k i]=if 0<=i/\i<(n:Int) then some (.ref id (e+i.toNat*sz)) else none:=rfl
theorem Av0{d g s e ap}:J P O ep live Q (⟨d,g,some (s,e),ap⟩::l) env σ=UZ P O ep live Q (get env s) e d g ap l env σ:=by
 unfold J UZ;simp only[J,Ay,Dh,JQ];cases get env s with
 | tup l=>cases l<;>rfl
 | _=>rfl
theorem v7{d e ap}:UZ P O ep live Q (.b true) true d e ap l env σ=J P O ep live Q (⟨d,e,none,ap⟩::l) env σ:=by simp[UZ,JQ]
theorem AaE{d e ap}:UZ P O ep live Q (.b false) false d e ap l env σ=J P O ep live Q (⟨d,e,none,ap⟩::l) env σ:=by simp[UZ,JQ]
theorem kQ{d e ap}:UZ P O ep live Q (.b true) false d e ap l env σ=J P O ep live Q l (put env d (.tup [])) σ:=by simp[UZ,JQ]
theorem AaX{d e ap}:UZ P O ep live Q (.b false) true d e ap l env σ=J P O ep live Q l (put env d (.tup [])) σ:=by simp[UZ,JQ]
theorem ArO{d e ap w}:UZ P O ep live Q (.tup []) w d e ap l env σ=J P O ep live Q l (put env d (.tup [])) σ:=by simp[UZ,JQ]
theorem Am{d e ap t}(g:t=true->J P O ep live Q (⟨d,e,none,ap⟩::l) env σ)(h:t=false->J P O ep live Q l (put env d (.tup [])) σ):UZ P O ep live Q (.b t) true d e ap l env σ:=by
 cases t
 .rw[AaX];exact h rfl
 .rw[v7];exact g rfl
theorem Al{d e ap t}(g:t=false->J P O ep live Q (⟨d,e,none,ap⟩::l) env σ)(h:t=true->J P O ep live Q l (put env d (.tup [])) σ):UZ P O ep live Q (.b t) false d e ap l env σ:=by
 cases t
 .rw[AaE];exact g rfl
 .rw[kQ];exact h rfl
theorem Yi{g}{ys:List X}:∀{ap:List X},(∀x∈ap,∀y∈ys,∀id,C3 (ev g x)=some id->C3 (ev g y)≠some id)↔iK (ap.map (ev g)) (ys.map (ev g))
 | []=>by simp[iK]
 | x::ap=>by have:=Yi (g:=g) (ys:=ys) (ap:=ap);simp only[Ao7,iK,<-this,Ahk,forall_eq_or_imp,Aov,forall_exists_index,and_imp,forall_apply_eq_imp_iff₂]
theorem AkN{d e x ap}(g:e.cl=false):J P O ep live Q (⟨d,e,none,x::ap⟩::l) env σ=JP P O ep live Q (iK (EN env (x::ap)) (EN env e.cs)) (⟨d,e,none,[]⟩::l) env σ:=by unfold J JP;refine propext ((Axy g).trans ?_);rw[show cK ⟨d,e,none,x::ap⟩ (get env)↔iK (EN env (x::ap)) (EN env e.cs) from Yi];rfl
theorem AjV{f args}:J P O ep live Q (⟨some d,.call f args,none,[]⟩::l) env σ=Uh P O ep live Q f (EN env args) l d env σ:=by unfold J Uh;refine propext (Do.trans ?_);simp only[E,put,EN];exact⟨λ⟨v,_,⟨e,rfl⟩,g⟩=>⟨v,e,g⟩,λ⟨v,e,g⟩=>⟨v,_,⟨e,rfl⟩,g⟩⟩
theorem Ad0{f args}:J P O ep live Q (⟨some d,.calls f args,none,[]⟩::l) env σ=HP P O ep live Q f (EN env args) l d env σ:=by unfold J HP;refine propext (Do.trans ?_);simp only[E,put,EN];exact⟨λ⟨v,_,⟨σi,σo,e,h,rfl⟩,g⟩=>⟨v,σi,σo,e,h,g⟩,λ⟨v,σi,σo,e,h,g⟩=>⟨v,_,⟨σi,σo,e,h,rfl⟩,g⟩⟩
theorem Afr{f args}:J P O ep live Q (⟨some d,.callr f args,none,[]⟩::l) env σ=VM P O ep live Q f (EN env args) l d env σ:=by unfold J VM;refine propext (Do.trans ?_);simp only[E,put,EN];exact⟨λ⟨v,_,⟨⟨σi,e,h⟩,rfl⟩,g⟩=>⟨v,σi,e,h,g⟩,λ⟨v,σi,e,h,g⟩=>⟨v,_,⟨⟨σi,e,h⟩,rfl⟩,g⟩⟩
theorem Afn{f args}:J P O ep live Q (⟨some d,.calln f args,none,[]⟩::l) env σ=Wq P O ep live Q f (EN env args) l d env σ:=by unfold J Wq;refine propext (Do.trans ?_);simp only[E,put,EN];exact⟨λ⟨v,_,⟨dd,σi,σo,x,hd,e,h,hv,rfl⟩,g⟩=>by cases hd;subst hv;exact⟨x,σi,σo,e,h,g⟩,λ⟨x,σi,σo,e,h,g⟩=>⟨_,_,⟨d,σi,σo,x,rfl,e,h,rfl,rfl⟩,g⟩⟩
theorem kY{x args}:J P O ep live Q (⟨some d,.callvs x args,none,[]⟩::l) env σ=MU P O ep live Q (Bm env x) (EN env args) l d env σ:=by
 unfold J;refine propext (Do.trans ?_);simp only[E,put];constructor
 .rintro⟨v,_,⟨⟨f,first,caps,σi,σo,j,e,i,rfl⟩,g⟩⟩;unfold MU Bm;rw[j];exact⟨v,σi,σo,e,i,g⟩
 .intro h;unfold MU Bm at h;split at h
  .rename_i f first caps j
   have ⟨v,σi,σo,e,i,g⟩:=h;exact⟨v,_,⟨f,first,caps,σi,σo,j,e,i,rfl⟩,g⟩
  .cases h
theorem Vn{d x y n z ap}:J P O ep live Q (⟨d,.store x y n,none,z::ap⟩::l) env σ=JP P O ep live Q (iK (EN env (z::ap)) (EN env (Bh.store x y n).cs)) (⟨d,.store x y n,none,[]⟩::l) env σ:=AkN rfl
theorem jK{d x y n m z ap}:J P O ep live Q (⟨d,.app x y n m,none,z::ap⟩::l) env σ=JP P O ep live Q (iK (EN env (z::ap)) (EN env (Bh.app x y n m).cs)) (⟨d,.app x y n m,none,[]⟩::l) env σ:=AkN rfl
theorem cP{d x n b z ap}:J P O ep live Q (⟨d,.load x n b,none,z::ap⟩::l) env σ=JP P O ep live Q (iK (EN env (z::ap)) (EN env (Bh.load x n b).cs)) (⟨d,.load x n b,none,[]⟩::l) env σ:=AkN rfl
theorem VX{f first caps vs e}:Adj P O ep live Q (.fn f first caps) vs e l d env σ=ZX P O ep live Q f (first++vs++caps) e l d env σ:=rfl
theorem cE{f first caps vs}:Aol P O ep live Q (.fn f first caps) vs l d env σ=Uh P O ep live Q f (first++vs++caps) l d env σ:=rfl
theorem Vo{f first caps vs}:MU P O ep live Q (.fn f first caps) vs l d env σ=HP P O ep live Q f (first++vs++caps) l d env σ:=rfl
theorem Ab{f vs v}(h:Ak P O f vs [] v [])(e:J P O ep live Q l ((d,v)::env) σ):Uh P O ep live Q f vs l d env σ:=⟨v,h,e⟩
theorem Ej{f vs v σi}(h:Ak P O f vs σi v σi)(i:∀id e,lk σi id=some e->lk σ id=some e)(g:J P O ep live Q l ((d,v)::env) σ):VM P O ep live Q f vs l d env σ:=⟨v,σi,h,i,g⟩
theorem AX{f vs v σi σo}(h:Ak P O f vs σi v σo)(i:∀id e,lk σi id=some e->lk σ id=some e)(g:J P O ep live Q l ((d,v)::env) (over σi σo σ)):HP P O ep live Q f vs l d env σ:=⟨v,σi,σo,h,i,g⟩
theorem Jn{f vs x σi σo}(h:Kk P O f vs σi x σo)(i:∀id e,lk σi id=some e->lk σ id=some e)(g:J P O ep live Q l ((d,.arr (ep,d))::env) (((ep,d),x)::over σi σo σ)):Wq P O ep live Q f vs l d env σ:=⟨x,σi,σo,h,i,g⟩
theorem T9{f:FuncId}{vs:List V}{v:V}(h:Ak P O f vs [] v [])(g:J P O ep live Q l ((d,v)::env) σ):HP P O ep live Q f vs l d env σ:=by
 refine⟨v,[],[],h,λid e h=>by simp[lk] at h,?_⟩;have:over [] [] σ=σ:=by simp[over,lk]
 rw[this];exact g
end
@[irreducible] def F8(P:Program)(O:World)(nt:Nat)(c:IC)(Q:Exit->St->Prop)(st:St):Prop:=It P O nt (.loop c) Q st
@[irreducible] def PG(P:Program)(O:World)(nt:Nat)(e g:Nat)(x:X)(live:List Nat)(Q:Exit->St->Prop)(st:St):Prop:=It P O nt (.mnext e g x live) Q st
@[irreducible] def WkW(P:Program)(O:World)(nt:Nat)(c:IC)(Q:Exit->St->Prop)(st:St):Prop:=It P O nt c Q st
def ID(P:Program)(O:World)(n:Nat)(d:Nat)(f:FuncId)(vs:List V)(l2:List I)(live:List Nat)(Q:Exit->St->Prop)(env:BB)(σ:Aq):Prop:=
 Qx P O n d f vs env σ λe env σ=>J P O e live Q l2 env σ
def OI(P:Program)(O:World)(d:Nat)(f:FuncId)(args:List X)(l2:List I)(live:List Nat)(Q:Exit->St->Prop):Exit->St->Prop
 | .normal,st=>ID P O st.n d f (EN st.env args) l2 live Q st.env st.σ
 | _,_=>False
def Ak9(P:Program)(O:World)(d g:Nat)(e:Bool)(f:FuncId)(args:List X)(l2:List I)(live:List Nat)(Q:Exit->St->Prop):Exit->St->Prop
 | .normal,st=>gdQ (get st.env g) e (ID P O st.n d f (EN st.env args) l2 live Q st.env st.σ) (J P O st.n live Q l2 ((d,.tup [])::st.env) st.σ)
 | _,_=>False
def RB(P:Program)(O:World)(n:Nat)(d:Nat)(h:V)(vs:List V)(l2:List I)(live:List Nat)(Q:Exit->St->Prop)(env:BB)(σ:Aq):Prop:=
 match h with
 | .fn f first caps=>ID P O n d f (first++vs++caps) l2 live Q env σ
 | _=>False
def Aos(P:Program)(O:World)(d:Nat)(x:X)(args:List X)(l2:List I)(live:List Nat)(Q:Exit->St->Prop):Exit->St->Prop
 | .normal,st=>RB P O st.n d (Bm st.env x) (EN st.env args) l2 live Q st.env st.σ
 | _,_=>False
def aW(P:Program)(O:World)(nt:Nat):IC->(Exit->St->Prop)->St->Prop
 | .ops l live _,Q,st=>J P O st.n live Q l st.env st.σ
 | .seqr l live,Q,st=>J P O st.n live Q l st.env st.σ
 | .seq a b,Q,st=>aW P O nt a (λe s=>match e with|.normal=>aW P O nt b Q s|e=>Q e s) st
 | .cond c a b,Q,st=>match Bm st.env c with|.b true=>aW P O nt a Q st|.b false=>aW P O nt b Q st|.ub=>aW P O nt a Q st/\aW P O nt b Q st|_=>False
 | .mnext h i x live,Q,st=>PG P O nt h i x live Q st
 | .block id a,Q,st=>aW P O nt a (Ek id Q) st
 | .loop c,Q,st=>F8 P O nt c Q st
 | .wk c,Q,st=>WkW P O nt c Q st
 | .opx l1 g d f args l2 live,Q,st=>J P O st.n g (OI P O d f args l2 live Q) l1 st.env st.σ
 | .opxd l1 g d f args live _,Q,st=>J P O st.n g (OI P O d f args [] live Q) l1 st.env st.σ
 | .opxe ..,Q,st=>False
 | .exit id,Q,st=>Q (.exit id) st
 | .ret,Q,st=>Q .ret st
 | .skip,Q,st=>Q .normal st
def PI(P:Program)(O:World)(nt:Nat)(b:IC)(Q:Exit->St->Prop)(e:Exit)(s:St):Prop:=match e with|.normal=>aW P O nt b Q s|e=>Q e s
def PP(P:Program)(O:World)(nt:Nat)(v:V)(a b:IC)(Q:Exit->St->Prop)(env:BB)(σ:Aq)(n:Nat):Prop:=match v with|.b true=>aW P O nt a Q ⟨env,σ,n⟩|.b false=>aW P O nt b Q ⟨env,σ,n⟩|.ub=>aW P O nt a Q ⟨env,σ,n⟩/\aW P O nt b Q ⟨env,σ,n⟩|_=>False
section
variable{P:Program}{O:World}{nt n:Nat}{Q Q':Exit→St→Prop}{env:BB}{σ:Aq}{a b c:IC}{st:St}
theorem Ak2{l live paths}:aW P O nt (.ops l live paths) Q ⟨env,σ,n⟩=J P O n live Q l env σ:=rfl
theorem Aex{l live}:aW P O nt (.seqr l live) Q ⟨env,σ,n⟩=J P O n live Q l env σ:=rfl
theorem Akb:aW P O nt (.seq a b) Q ⟨env,σ,n⟩=aW P O nt a (PI P O nt b Q) ⟨env,σ,n⟩:=rfl
theorem AcC{x}:aW P O nt (.cond x a b) Q ⟨env,σ,n⟩=PP P O nt (Bm env x) a b Q env σ n:=rfl
theorem Aaa{id}:aW P O nt (.block id a) Q ⟨env,σ,n⟩=aW P O nt a (Ek id Q) ⟨env,σ,n⟩:=rfl
theorem Ado:aW P O nt (.loop c) Q ⟨env,σ,n⟩=F8 P O nt c Q ⟨env,σ,n⟩:=rfl
theorem Aqd:aW P O nt (.wk c) Q ⟨env,σ,n⟩=WkW P O nt c Q ⟨env,σ,n⟩:=rfl
theorem Ac1{id}:aW P O nt (.exit id) Q ⟨env,σ,n⟩=Q (.exit id) ⟨env,σ,n⟩:=rfl
theorem AlF:aW P O nt .ret Q ⟨env,σ,n⟩=Q .ret ⟨env,σ,n⟩:=rfl
theorem AeO:aW P O nt .skip Q ⟨env,σ,n⟩=Q .normal ⟨env,σ,n⟩:=rfl
theorem Ad9:PP P O nt (.b true) a b Q env σ n=aW P O nt a Q ⟨env,σ,n⟩:=rfl
theorem AcR:PP P O nt (.b false) a b Q env σ n=aW P O nt b Q ⟨env,σ,n⟩:=rfl
theorem n8:PP P O nt .ub a b Q env σ n=(aW P O nt a Q ⟨env,σ,n⟩/\aW P O nt b Q ⟨env,σ,n⟩):=rfl
theorem xF{e g x live}:aW P O nt (.mnext e g x live) Q ⟨env,σ,n⟩=PG P O nt e g x live Q ⟨env,σ,n⟩:=rfl
theorem Ai{t}(e:t=true->aW P O nt a Q ⟨env,σ,n⟩)(g:t=false->aW P O nt b Q ⟨env,σ,n⟩):PP P O nt (.b t) a b Q env σ n:=by
 cases t
 .exact g rfl
 .exact e rfl
theorem RA{d f args l2 live}:OI P O d f args l2 live Q .normal ⟨env,σ,n⟩=ID P O n d f (EN env args) l2 live Q env σ:=rfl
theorem Ps{d g e f args l2 live}:Ak9 P O d g e f args l2 live Q .normal ⟨env,σ,n⟩=gdQ (get env g) e (ID P O n d f (EN env args) l2 live Q env σ) (J P O n live Q l2 ((d,.tup [])::env) σ):=rfl
theorem Pj{d x args l2 live}:Aos P O d x args l2 live Q .normal ⟨env,σ,n⟩=RB P O n d (Bm env x) (EN env args) l2 live Q env σ:=rfl
theorem VZ{d f first caps vs l2 live}:RB P O n d (.fn f first caps) vs l2 live Q env σ=ID P O n d f (first++vs++caps) l2 live Q env σ:=rfl
theorem Bd{d f vs l2 live σi R}(h:FK P O f vs σi R)(j:∀id e,lk σi id=some e->lk σ id=some e)
  (i:∀g v σo,n<=g->R n g v σo->J P O g live Q l2 ((d,v)::env) (over σi σo σ)):ID P O n d f vs l2 live Q env σ:=⟨σi,R,h,j,i⟩
theorem QF:PI P O nt b Q .normal st=aW P O nt b Q st:=rfl
theorem Vm{k}:PI P O nt b Q (.exit k) st=Q (.exit k) st:=rfl
theorem gP:PI P O nt b Q .ret st=Q .ret st:=rfl
theorem Df:∀{ic Q st},aW P O nt ic Q st->It P O nt ic Q st
 | .ops l live paths,Q,st,h=>by
  refine RF ?_;refine Ec (λenv σ i n' C=>?_) h;have:=i (n'-(st.n+1))
  rwa [A1a C] at this
 | .seqr l live,Q,st,h=>by
  refine sZ ?_;refine Ec (λenv σ i n' C=>?_) h;have:=i (n'-(st.n+1))
  rwa [A1a C] at this
 | .seq a b,Q,st,h=>by
  refine Ad2 (UV (Df h) λe s E=>?_);cases e with
  | normal=>exact Df (ic:=b) E
  | _=>exact E
 | .cond c a b,Q,st,h=>by
  simp only[aW] at h;split at h
  .rename_i u;exact TJ u (λ_=>Df h) (λh=>by cases h)
  .rename_i u;exact TJ u (λh=>by cases h) (λ_=>Df h)
  .rename_i u;exact aZ u (Df h.1) (Df h.2)
  .cases h
 | .mnext F G x live,Q,st,h=>by have h:PG P O nt F G x live Q st:=h;unfold PG at h;exact h
 | .block id a,Q,st,h=>iB (Df (ic:=a) h)
 | .loop c,Q,st,h=>by have h:F8 P O nt c Q st:=h;unfold F8 at h;exact h
 | .wk c,Q,st,h=>by have h:WkW P O nt c Q st:=h;unfold WkW at h;exact AkO h
 | .opx l1 g d f args l2 live,Q,st,h=>by
  refine Adz ?_;refine Ec (λenv σ i w o=>?_) (show J P O st.n g (OI P O d f args l2 live Q) l1 st.env st.σ from h);have r:=i (w-(st.n+1));rw[A1a o] at r;obtain⟨σi,R,y,z,A⟩:=r;refine⟨σi,R,y,z,λq v σo j B=>?_⟩;refine Ec (λenv σ L D p=>?_) (A q v σo j B);have:=L (D-(q+1))
  rwa [A1a p] at this
 | .opxd l1 g d f args live paths,Q,st,h=>by
  refine y8 ?_;refine Ec (λenv σ i w o=>?_) (show J P O st.n g (OI P O d f args [] live Q) l1 st.env st.σ from h);have r:ID P O (st.n+1+(w-(st.n+1))) d f (EN (restrict g env) args) [] live Q (restrict g env) σ:=i (w-(st.n+1));rw[A1a o] at r;obtain⟨σi,R,y,z,A⟩:=r;refine⟨σi,R,y,z,λq v σo j B D p=>?_⟩;have H:∀k,Q .normal ⟨restrict live ((d,v)::restrict g env),over σi σo σ,q+1+k⟩:=A q v σo j B;have:=H (D-(q+1))
  rwa [A1a p] at this
 | .opxe ..,Q,st,h=>False.elim h
 | .exit id,Q,st,h=>zS h
 | .ret,Q,st,h=>Acx h
 | .skip,Q,st,h=>pN h
theorem X4{j h s:Nat}{live:List Nat}{id mid:Id}{es:List (V×V)}{seen:List Nat}(u:get env s=.arr id)(r:lk σ id=some (.mit mid es.length seen es.length))(p:lk σ mid=some (.map es))(o:j∉live)(q:j≠h)
  (e:∀i w,es[i]?=some w->i∉seen->Q .normal ⟨restrict live ((h,.b true)::env),upd σ id (.mit mid es.length (seen++[i]) es.length),n+1⟩)
  (g:(∀i,i<es.length->i∈seen)->Q .normal ⟨restrict live ((h,.b false)::env),σ,n+1⟩):PG P O nt j h (.t s) live Q ⟨env,σ,n⟩:=by
 unfold PG;exact dK u r p e g o q
def Ag(O:World)(nt:Nat)(st e:St):Prop:=∀B a w,At O nt B st a w->At O nt B e a w
theorem Ag.refl:Ag O nt st st:=λ_ _ _ h=>h
theorem Ag.trans{e g i}(h:Ag O nt e g)(k:Ag O nt g i):Ag O nt e i:=λB a w x=>k B a w (h B a w x)
theorem WU{ic g}(h:Ag O nt st g)(k:It P O nt ic Q g):It P O nt ic Q st:=λe j B a w i=>k e j B a w (h B a w i)
def QW(O:World)(nt:Nat)(Q:Exit->St->Prop)(e:Exit)(st:St):Prop:=∃g,Ag O nt st g/\Q e g
theorem R7{ic}(h:It P O nt ic (QW O nt Q) st):It P O nt ic Q st:=by intro g p B a w i;refine wp_mono (h g p B a w i) λe a w q=>?_;obtain⟨s,⟨u,j,r⟩,o⟩:=q;exact⟨u,r,j B a w o⟩
def RY(O:World)(nt:Nat)(Inv:Nat->St->Prop)(m:Nat)(Q:Exit->St->Prop):Exit->St->Prop
 | .normal,st=>∃h g,h<m/\Ag O nt st g/\Inv h g
 | e,st=>Q e st
theorem Pl{Inv m}:RY O nt Inv m Q .normal st=∃g e,g<m/\Ag O nt st e/\Inv g e:=rfl
theorem Uq{Inv m k}:RY O nt Inv m Q (.exit k) st=Q (.exit k) st:=rfl
theorem Ws{Inv m}:RY O nt Inv m Q .ret st=Q .ret st:=rfl
theorem Aj{Inv} m (h:∃i,Ag O nt st i/\Inv m i)(g:∀m st,Inv m st->aW P O nt c (RY O nt Inv m Q) st):F8 P O nt c Q st:=by
 unfold F8;have ⟨i,hle,hinv⟩:=h;refine WU hle (Abf (Inv:=Inv) (λm st o=>?_) m hinv);refine R7 (UV (Df (g m st o)) λe s j=>?_);cases e with
 | normal=>have ⟨m',s',h1,h2,h3⟩:=j;exact⟨s',h2,m',h1,h3⟩
 | _=>exact⟨s,Ag.refl,j⟩
theorem H3{e:St}(h:Ag O nt st e)(k:aW P O nt c Q e):WkW P O nt c Q st:=by unfold WkW;exact WU h (Df k)
def ME(O:World)(nt:Nat)(e:List R)(vs:List V)(σ':Aq):Exit->St->Prop:=QW O nt (Fin e vs σ')
def Ahv(O:World)(nt s:Nat)(x:AP)(σ':Aq):Exit->St->Prop:=QW O nt (Aqq s x σ')
theorem Ac{f ic o}(j:Ao P f nt ic o=true){args}(g:args.length<=nt){σ σ' vs}(i:∀id,lk σ' id≠none->lk σ id≠none)
  (h:∀n,(∀id e,lk σ id=some e->id.1<n)->aW P O nt ic (ME O nt o vs σ') ⟨params 0 args,σ,n⟩):Ak P O f args σ (Kf vs) σ':=
 AlT j g i λn p=>R7 (Df (h n p))
def Asl(O:World)(nt:Nat)(e:List R)(R:Nat->Nat->V->Aq->Prop)(n0:Nat):Exit->St->Prop:=QW O nt (Atx e R n0)
theorem C7{f ic j}(i:Ao P f nt ic j=true){args}(g:args.length<=nt){σ R}
  (h:∀n,(∀id e,lk σ id=some e->id.1<n)->aW P O nt ic (Asl O nt j R n) ⟨params 0 args,σ,n⟩):FK P O f args σ R:=
 AbO i g λn o=>R7 (Df (h n o))
theorem Sk{f ic s}(j:Ao P f nt ic [.t s]=true){args}(g:args.length<=nt){σ σ' x}(i:∀id,lk σ' id≠none->lk σ id≠none)
  (h:∀n,(∀id e,lk σ id=some e->id.1<n)->aW P O nt ic (Ahv O nt s x σ') ⟨params 0 args,σ,n⟩):Kk P O f args σ x σ':=
 An8 j g i λn o=>R7 (Df (h n o))
theorem Af{s:Nat}{v:V}(h:get env s=v):ME O nt [.t s] [v] [] .ret ⟨env,σ,n⟩:=⟨_,Ag.refl,⟨h,trivial⟩,λid e h=>by simp[lk] at h⟩
theorem Aw{s:Nat}{v:V}{σ':Aq}(h:get env s=v)(g:∀id e,lk σ' id=some e->lk σ id=some e):ME O nt [.t s] [v] σ' .ret ⟨env,σ,n⟩:=⟨_,Ag.refl,⟨h,trivial⟩,g⟩
theorem B5 σ:over σ σ σ=σ:=by
 have:∀(p:Id×AP),p∈σ->(lk σ p.1).isNone=false:=by
  intro p hp
  induction σ with
  | nil=>cases hp
  | cons q σ e=>grind[lk]
 unfold over;rw[List.filter_eq_nil_iff.2 (λp hp=>by simp[this p hp]),At9]
theorem Ag.weak φ {env' σ' n'}
  (j:∀id es,φ id=some es->(∃e sz,lk σ id=some (.arr e sz es))/\lk σ' id=none)
  (g:∀s,JI φ (get env s) (get env' s))(i:∀id e',lk σ' id=some e'->∃e,lk σ id=some e/\Oy φ e e')(o:n<=n'):Ag O nt ⟨env,σ,n⟩ ⟨env',σ',n'⟩:=
 λB a w h=>h.weak φ j g i o
theorem Ag.own{s e sz k:Nat}(C:get env s=.nil):Ag O nt ⟨env,σ,n⟩ ⟨(s,.arr (n,k))::env,((n,k),.arr e sz [])::σ,n+1⟩:=by
 intro B a w y;obtain⟨μ,H,r,hp,A,q,o⟩:=y;have g:μ (n,k)=none:=hp.bd _ (Ab6 _);have j:=BQ (v:=.slice none 0 0) g;have i:=(hp.more (Avb n)).new_ (n':=n+1) (w':=w) (R:=λ_=>False) ⟨rfl,rfl,rfl,Ab6 _,λ_ _ _=>rfl⟩ (λ_ h=>h.elim) (σ1:=σ) (λid e h=>⟨h,λ_ _ h=>h⟩) (id:=(n,k)) (e:=.arr e sz []) (val:=.slice none 0 0) g (Ab4 _) (Ab6 _) (λF z=>by simp[Cl] at z)
  ⟨.slice none 0 0,[],Au _ _ _,rfl,A12 w _ e sz,Avz _,(λx D=>by cases D),AY.nil_⟩
 refine⟨_,H,⟨r.size,r.defers,λE=>?_⟩,i.1,A.trans i.2,λid p u=>?_,AoW o (Avb _)⟩
 .simp only[get];split
  .rename_i u;subst u;have:=r.at_ s;simp only[C] at this;rw[this.nil_inv];exact .arr _ _ (Au _ _ _) rfl
  .exact(r.at_ E).mono j (λ_ _ h=>h)
 .simp only at o;rw[Ce _ _ (by rintro rfl;simp at p;omega)];exact q id p u
theorem Ag.drop{σ':Aq}{n':Nat}(h:∀id e,lk σ' id=some e->lk σ id=some e)(i:n<=n'):Ag O nt ⟨env,σ,n⟩ ⟨env,σ',n'⟩:=
 Ag.weak (λ_=>none) (λ_ _ h=>by cases h) (λ_=>.refl _) (λid e' g=>⟨e',h id e' g,.refl _⟩) i
end
end Go.Ir
end
section
namespace Go.Ir
theorem Acm{ys}:iK [] ys=True:=rfl
theorem wQ{x xs ys}:iK (x::xs) ys=((∀y∈ys,∀id,C3 x=some id->C3 y≠some id)/\iK xs ys):=rfl
def o1(d:Nat)(e:Bh):I:=⟨some d,e,none,[]⟩
def o0(e:Bh):I:=⟨none,e,none,[]⟩
def m1(d x:Nat):I:=⟨some d,.mv (.t x),none,[]⟩
def ci(z:Int):X:=.c (.i .i64 z)
def mZ(d:Nat)(z:Int):I:=⟨some d,.mv (.c (.i .i64 z)),none,[]⟩
def mC(d:Nat)(v:V):I:=⟨some d,.mv (.c v),none,[]⟩
def l1(d s:Nat):I:=⟨some d,.load (.t s) 1 false,none,[]⟩
def lA(d s n:Nat):I:=⟨some d,.load (.t s) n true,none,[]⟩
def fA(d s k:Nat):I:=⟨some d,.faddr (.t s) k,none,[]⟩
def xT(d s k:Nat):I:=⟨some d,.ext (.t s) k,none,[]⟩
def bT(d:Nat)(o:BinOp)(a b:Nat):I:=⟨some d,.bin o (.t a) (.t b),none,[]⟩
def bZ(d:Nat)(o:BinOp)(a:Nat)(z:Int):I:=⟨some d,.bin o (.t a) (.c (.i .i64 z)),none,[]⟩
def bC(d:Nat)(o:BinOp)(a:Nat)(v:V):I:=⟨some d,.bin o (.t a) (.c v),none,[]⟩
def q1(d f a:Nat):I:=⟨some d,.call f [.t a],none,[]⟩
def q2(d f a b:Nat):I:=⟨some d,.call f [.t a,.t b],none,[]⟩
def q3(d f a b c:Nat):I:=⟨some d,.call f [.t a,.t b,.t c],none,[]⟩
def pO(d a b:Nat):I:=⟨some d,.pick (.t a) (.c (.b true)) (.t b),none,[]⟩
def pA(d a b:Nat):I:=⟨some d,.pick (.t a) (.t b) (.c (.b false)),none,[]⟩
def nL(d s:Nat):I:=⟨some d,.lenL (.t s),none,[]⟩
def nS(d s:Nat):I:=⟨some d,.lenS (.t s),none,[]⟩
def nT(d s:Nat):I:=⟨some d,.not (.t s),none,[]⟩
def nC(d s:Nat):I:=⟨some d,.nilck (.t s),none,[]⟩
def bX(d s:Nat):I:=⟨some d,.box (.t s),none,[]⟩
def iA(d a b e z:Nat):I:=⟨some d,.iaddr (.t a) (.t b) e z,none,[]⟩
def sT(a b n:Nat):I:=⟨none,.store (.t a) (.t b) n,none,[]⟩
def gT(d g:Nat)(o:Bh):I:=⟨some d,o,some (g,true),[]⟩
def gF(d g:Nat)(o:Bh):I:=⟨some d,o,some (g,false),[]⟩
def BY(d g s:Nat):I:=⟨some d,.mv (.t s),some (g,true),[]⟩
def BU(d g s:Nat):I:=⟨some d,.mv (.t s),some (g,false),[]⟩
def E3(d g s:Nat):I:=⟨some d,.load (.t s) 1 false,some (g,true),[]⟩
def Eh(d g s:Nat):I:=⟨some d,.load (.t s) 1 false,some (g,false),[]⟩
def Fa(d g s k:Nat):I:=⟨some d,.faddr (.t s) k,some (g,true),[]⟩
def E5(d g s k:Nat):I:=⟨some d,.faddr (.t s) k,some (g,false),[]⟩
def Gi(d g:Nat)(o:BinOp)(a:Nat)(z:Int):I:=⟨some d,.bin o (.t a) (.c (.i .i64 z)),some (g,true),[]⟩
def Fg(d g:Nat)(o:BinOp)(a:Nat)(z:Int):I:=⟨some d,.bin o (.t a) (.c (.i .i64 z)),some (g,false),[]⟩
def oP(l:List I)(v:List Nat):IC:=.ops l v []
def oR(l:List I)(v:List Nat):IC:=.seq (.ops l v []) .ret
def oS(l:List I)(v:List Nat)(b:IC):IC:=.seq (.ops l v []) b
def rS(l:List I)(v:List Nat)(b:IC):IC:=.seq (.seqr l v) b
def sQ(a b:IC):IC:=.seq a b
def cD(n:Nat)(a b:IC):IC:=.cond (.t n) a b
theorem bq:(!true)=false/\(!false)=true/\(∀b,(true||b)=true)/\(∀b,(false||b)=b)/\(∀b,(b||true)=true)/\(∀b,(b||false)=b)/\(∀b,(true&&b)=b)/\(∀b,(false&&b)=false)/\(∀b,(b&&true)=b)/\(∀b,(b&&false)=false)/\((false=true)=False):=by simp
theorem AR{c d:IC}(h:c=d)(P:Program)(O:World)(nt:Nat)(Q:Exit->St->Prop)(env:BB)(σ:Aq)(n:Nat):aW P O nt c Q ⟨env,σ,n⟩=aW P O nt d Q ⟨env,σ,n⟩:=by rw[h]
theorem An{c d p}(h:c=d)(q:p):(∀P O nt Q env σ n,aW P O nt c Q ⟨env,σ,n⟩=aW P O nt d Q ⟨env,σ,n⟩)/\p:=⟨AR h,q⟩
section
variable{P:Program}{O:World}{nt n d f:Nat}{Q:Exit→St→Prop}{env:BB}{σ:Aq}{l1 l2:List I}{v1 v:List Nat}{x:X}{args:List X}{ps:List (List Nat)}
theorem Amf:aW P O nt (.opx l1 v1 d f args l2 v) Q ⟨env,σ,n⟩=J P O n v1 (OI P O d f args l2 v Q) l1 env σ:=rfl
theorem AdA:aW P O nt (.opxd l1 v1 d f args v ps) Q ⟨env,σ,n⟩=J P O n v1 (OI P O d f args [] v Q) l1 env σ:=rfl
end
attribute [push_cast] put params Ao7 Ava AbA Ab9 AzN A1f Ab3 xC s9 uU IX lk upd del FC Ef sub UD AwY Option.getD_some A1c Azw and_true A03 A1i Int.natCast_nonneg Int.zero_le_ofNat A0B Azq An9 AtX A00 A0d Ab7 Azx AzQ Afj AtG A1B and_self and_false false_and Azv Ay6 AxB Azg Avc AvC At9 Afm Axv Ad5 AvS AcZ Axi cR AjN tF AtQ cO Aj9 bB Al3 gR Aon W7 AeJ AaB ApU qH Aun rP Arf zE Apf nF Ats AdF AoL Ate Arb AqE AsW ApY AoA tU V6 AdK dS Uu uA AeM dV AlP AlU bR Xi Vj bU bW Wv Vk bM oI WH VE Ti Ud Xf Amj vC Ak1 AcQ Aj1 AdB Aal mO oD iV Wx SG U2 Xe An1 AkY AnU Ani yP ST AnT Apg Ape AeB mV AeA iZ iH WQ iI gO gJ W9 Cd AbQ Sh Pi Oe RW Tq Sl VN fK Avo Ak3 Ap7 ArN AtF AqF Ae5 AdV Apb AmE AcE Aqj Aez Ace Ajf Aoe ArC AoO Ane AjB AsD Aup Ajo Awl Acg Al1 ApI AdC Adl AcX Afd AeZ Av0 v7 AaE kQ AaX ArO Vn jK cP AjV Ad0 Afr Afn kY VX cE Vo Avq Atu As4 Ata Alw Asc AtE AbI AdT kK yG xP Aa3 AcJ AjT Aeq Aku uG Aft rR Afi o3 p9 AaZ tT Aq7 AqG Arh At8 AjX Apd rK iY zB AcL dX cF fU aY eC cJ AdE Aar xV tS oN SQ TG U5 SO Ul n8 xF A1D List.all_nil Bool.and_self A0e Ak2 Akb AcC Aaa Ado Aqd Ac1 AlF AeO Ad9 AcR RA Pj VZ QF Vm gP Pl Uq Ws Ana Bh.cs Acm wQ o1 o0 m1 ci mZ mC l1 lA fA xT bT bZ bC q1 q2 q3 pO pA nL nS nT nC bX iA sT gT gF BY BU E3 Eh Fa E5 Gi Fg oP oR oS rS sQ cD Amf Ps AdA Aex decide_true decide_false
end Go.Ir
end
section
namespace Go.Ir
open Go.Proofs Go.RowKit
section
variable{P:Program}{O:World}
theorem Pm{f0 T u u' id off}(hcal:callable P f0=true)(hc:(cells u)[off]?=some .np)(hset:Ef u off 1 (.ref id off)=some u')
  (fresh:∀(b) (w),w.cell? ⟨b,off,none⟩=some (.pointer none)->w.shape? b=some (T,(cells u).length)->w.frozen? ⟨b,off,none⟩=false->off<(cells u).length->
   Calls P f0 #[.pointer (some ⟨b,off,none⟩)] w fun e w'=>e=.returned (.tuple #[])/\w'=w.setCell ⟨b,off,none⟩ (.pointer (some ⟨b,off,none⟩))) :
  Ak P O f0 [.ref id off] [(id,.tbox T u)] (.tup []) [(id,.tbox T u')] where
 callable:=hcal
 dom:=fun i hi=>by
  simp only[lk] at hi⊢
  grind
 run:=by
  intro n w μ H vals hp hargs
  have hl:lk [(id,AP.tbox T u)] id=some (.tbox T u):=by simp[lk]
  obtain⟨hl1,hfit,hcells⟩:=HJ hset
  have hoff:off<(cells u).length:=by omega
  have hund:∀{μ:Id->Option Value} {H:Addr->Option Value},Ap μ H (.tup []) (.tuple #[]):=.tup [] [] rfl (fun k c v hk=>by simp at hk)
  obtain⟨x,rfl,hx⟩:=hargs.one_
  obtain⟨bk,hm,rfl⟩:=hx.ref_inv
  obtain⟨bk',cv,hm',hB,hg,hrel⟩:=hp.ents _ _ hl
  rw[hm] at hm'
  cases hm'
  obtain⟨x0,hx0,hr0⟩:=hrel.toVRels.get hc
  rw[hr0.np_inv'] at hx0
  have hlen:(cells u).length=cv.size:=by rw[hrel.len];simp
  have hk0:off<cv.size:=by omega
  have hcv:cv[off]=.pointer none:=by
   grind
  refine Az5 (fresh bk w (by simp[World.cell?,hg,hk0,hcv]) (by simp[World.shape?,hg,hlen]) (by simp[World.frozen?,hg]) hoff) ?_
  rintro e w' ⟨rfl,rfl⟩
  have hset':w.setCell ⟨bk,off,none⟩ (.pointer (some ⟨bk,off,none⟩))=w.setRow bk (cv.setIfInBounds off (.pointer (some ⟨bk,off,none⟩))):=setCell_eq_setRow w bk off cv T (0,0) _ hg
  rw[hset']
  have hrel':AY μ H (cells u') (cv.setIfInBounds off (.pointer (some ⟨bk,off,none⟩))).toList:=by
   have h1:AY μ H (cells (V.ref id off)) [.pointer (some ⟨bk,off,none⟩)]:=⟨VRels.nil_.cons (.ref id off bk hm),fun v hv=>by simp at hv;subst hv;rfl⟩
   have:=Ee hrel h1 off (off+1)
   rw[hcells,A1A,A1m,Amm (by simpa using hk0)]
   simpa using this
  have hnew:=hp.set_ (e:=.tbox T u') hl ((By.setRow w bk _).to (fun k hk=>by subst hk;simp[hm,Cl])) ⟨bk,_,hm,hB,setRow_heap w bk cv _ T (0,0) hg,hrel'⟩
  have hup:upd [(id,AP.tbox T u)] id (.tbox T u')=[(id,.tbox T u')]:=by simp[upd]
  grind
theorem QE{f0 T u id off}(hcal:callable P f0=true)(hc:(cells u)[off]?=some (.ref id off))
  (used:∀(b) (w),w.cell? ⟨b,off,none⟩=some (.pointer (some ⟨b,off,none⟩))->Calls P f0 #[.pointer (some ⟨b,off,none⟩)] w fun e w'=>e=.returned (.tuple #[])/\w'=w) :
  Ak P O f0 [.ref id off] [(id,.tbox T u)] (.tup []) [(id,.tbox T u)] where
 callable:=hcal
 dom:=fun i hi=>hi
 run:=by
  intro n w μ H vals hp hargs
  have hl:lk [(id,AP.tbox T u)] id=some (.tbox T u):=by simp[lk]
  have hund:∀{μ:Id->Option Value} {H:Addr->Option Value},Ap μ H (.tup []) (.tuple #[]):=.tup [] [] rfl (fun k c v hk=>by simp at hk)
  obtain⟨x,rfl,hx⟩:=hargs.one_
  obtain⟨bk,hm,rfl⟩:=hx.ref_inv
  obtain⟨bk',cv,hm',hB,hg,hrel⟩:=hp.ents _ _ hl
  rw[hm] at hm'
  cases hm'
  obtain⟨x0,hx0,hr0⟩:=hrel.toVRels.get hc
  obtain⟨bk2,hm2,rfl⟩:=hr0.ref_inv
  rw[hm] at hm2
  cases hm2
  have hk0:off<cv.size:=by
   grind
  have hcv:cv[off]=.pointer (some ⟨bk,off,none⟩):=by
   grind
  refine Az5 (used bk w (by simp[World.cell?,hg,hk0,hcv])) ?_
  rintro e w' ⟨rfl,rfl⟩
  exact⟨_,μ,H,n,rfl,hund,hp,Ab6 _,Fr.refl _ _ _ _,fun _ _ h=>h⟩
theorem TE{f0 e T u id bid off l}(hcal:callable P f0=true)(hc:(cells u)[Nat.succ off]?=some (.arr bid))(hne:bid≠id)(hlim:l.length<=AG)
  (hrun:∀(b) (v) (B) (w),w.cell? ⟨b,Nat.succ off,none⟩=some v->w.ownsRow B e 1 v l.length (Lib.byteCells l)->
   Calls P f0 #[.pointer (some ⟨b,off,none⟩)] w fun e w'=>e=.returned (.string ⟨l.toArray⟩)/\w.grownBy w' v.ownBlock) :
  Ak P O f0 [.ref id off] [(id,.tbox T u),(bid,.arr e 1 (A6 l))] (.s l) [(id,.tbox T u)] where
 callable:=hcal
 dom:=fun i hi=>by
  simp only[lk] at hi⊢
  grind
 run:=by
  intro n w μ H vals hp hargs
  have hl:lk [(id,AP.tbox T u),(bid,.arr e 1 (A6 l))] id=some (.tbox T u):=by simp[lk]
  have hlb:lk [(id,AP.tbox T u),(bid,.arr e 1 (A6 l))] bid=some (.arr e 1 (A6 l)):=by simp[lk,Ao0 hne]
  obtain⟨y,rfl,hy⟩:=hargs.one_
  obtain⟨bk,hm,rfl⟩:=hy.ref_inv
  obtain⟨bk',cv,hm',hB,hg,hrel⟩:=hp.ents _ _ hl
  rw[hm] at hm'
  cases hm'
  obtain⟨val,hx0,hr⟩:=hrel.toVRels.get hc
  have hcell:w.cell? ⟨bk,Nat.succ off,none⟩=some val:=by
   have hk0:=(Ao5.1 hx0).1
   have hk0:Nat.succ off<cv.size:=by simpa using hk0
   rw[AxN,AxK hk0] at hx0
   simp only[World.cell?,hg,AxK hk0]
   exact hx0
  obtain⟨hmb,h1c⟩:=hr.arr_inv
  obtain⟨bvals,_,hown,hlim',hsz,hrel2⟩:=DO hp hlb hmb
  rw[JK hrel2,show(A6 l).length=l.length by simp[A6]] at hown
  refine Az5 (hrun bk val O.heap.size w hcell hown) ?_
  rintro e'' w' ⟨rfl,hgr⟩
  have hob:∀k,some k=val.ownBlock->Cl (μ bid)=some k:=by
   intro k hk
   rw[hmb]
   obtain⟨A',cap',hv'⟩:=Cr hown
   rw[hv'] at hk⊢
   cases A' with
   | none=>simp[Value.ownBlock] at hk
   | some A'=>simpa[Value.ownBlock,Cl] using hk.symm
  have hd:del [(id,AP.tbox T u),(bid,.arr e 1 (A6 l))] bid=[(id,.tbox T u)]:=by simp[del,Ao0 hne]
  have:=hp.lose (σ1:=del [(id,AP.tbox T u),(bid,.arr e 1 (A6 l))] bid) (By.of_grown hgr) (fun k hk=>⟨bid,_,hlb,hob k hk⟩) (fun id' e' h=>by
   rw[DE] at h
   split at h
   .cases h
   .rename_i hne
    exact⟨h,fun b hb hb'=>hne (hp.sep _ _ _ _ b hlb h (hob b hb') hb)⟩)
  rw[hd] at this
  exact⟨_,μ,H,n,rfl,.s l hlim,this.1,Ab6 _,this.2,fun _ _ h=>h⟩
end
variable(O:World)
theorem ZA{T id r}(hlies:liesAt π π.depth T ((r.length+1) / π.cellsOf T) 0 134 1=true) :
  Ak π O 167 [.ref id 0] [(id,.tbox T (.agg (.np::r)))] (.tup []) [(id,.tbox T (.agg (.ref id 0::r)))]:=
 Pm (by kernel_rfl) rfl (by simp[Ef,cells,UD,UX,V.one]) fun b w h0 hsh hfz hoff=>OH T (r.length+1) 0 hlies b w h0 hsh hfz hoff
theorem Z4{T id r}:Ak π O 167 [.ref id 0] [(id,.tbox T (.agg (.ref id 0::r)))] (.tup []) [(id,.tbox T (.agg (.ref id 0::r)))]:=
 QE (by kernel_rfl) rfl λb w e=>PZ b 0 w e
theorem Qg{T id bid l a r}(hne:bid≠id)(hl:l.length<=AG) :
  Ak π O 60 [.ref id 0] [(id,.tbox T (.agg (a :: .arr bid::r))),(bid,.arr 5 1 (A6 l))] (.s l) [(id,.tbox T (.agg (a :: .arr bid::r)))]:=
 TE (by kernel_rfl) rfl hne hl fun b v B w h0 ho=>M4 b 0 l v B w h0 ho
end Go.Ir
end
section
namespace Go.Ir
abbrev Aa:=List UInt8
structure Ad where
 kind:Int
 text:Aa
 name:Aa
 style:Aa
 cases:List (Aa×List Ad)
 parts:List Ad
abbrev AD:=Aa×List Ad
mutual
def Ad.enc:Ad->V
 | ⟨k,t,n,s,cs,ps⟩=>.agg [.i .i64 k,.s t,.s n,.s s,.sl (K3 cs),.sl (IV ps)]
def IV:List Ad->List V
 | []=>[]
 | p::ps=>p.enc::IV ps
def K3:List (Aa×List Ad)->List V
 | []=>[]
 | (k,ps)::cs=>.agg [.s k,.sl (IV ps)]::K3 cs
end
mutual
def Ad.wt:Ad->Nat
 | ⟨_,t,n,s,cs,ps⟩=>1+t.length+n.length+s.length+De cs+A7 ps
def A7:List Ad->Nat
 | []=>0
 | p::ps=>p.wt+A7 ps
def De:List (Aa×List Ad)->Nat
 | []=>0
 | (k,ps)::cs=>1+k.length+A7 ps+De cs
end
def AD.enc(c:AD):V:=.agg [.s c.1,.sl (IV c.2)]
theorem Jw:∀ps,IV ps=ps.map Ad.enc
 | []=>by simp[IV]
 | p::ps=>by simp[IV,Jw ps]
theorem Qr:∀cs,K3 cs=cs.map AD.enc
 | []=>by simp[K3]
 | (k,ps)::cs=>by simp[K3,Qr cs,AD.enc]
theorem Ad.enc_eq(p:Ad):p.enc=.agg [.i .i64 p.kind,.s p.text,.s p.name,.s p.style,.sl (p.cases.map AD.enc),.sl (p.parts.map Ad.enc)]:=by cases p;simp[Ad.enc,Jw,Qr]
theorem AD.enc_eq c:AD.enc c=.agg [.s c.1,.sl (c.2.map Ad.enc)]:=by simp[AD.enc,Jw]
theorem Ad.wt_eq(p:Ad):p.wt=1+p.text.length+p.name.length+p.style.length+De p.cases+A7 p.parts:=by cases p;simp[Ad.wt]
theorem A5 p ps:A7 (p::ps)=p.wt+A7 ps:=by simp[A7]
theorem Bn(c:AD)(cs:List AD):De (c::cs)=1+c.1.length+A7 c.2+De cs:=by have ⟨k,ps⟩:=c;simp[De]
theorem C5:A7 []=0:=by simp[A7]
theorem KZ:De []=0:=by simp[De]
theorem Fd{ps p}(h:p∈ps):p.wt<=A7 ps:=by
 induction ps with
 | nil=>cases h
 | cons d ps e=>rw[A5];grind
theorem B7{cs:List AD}{c}(h:c∈cs):1+c.1.length+A7 c.2<=De cs:=by
 induction cs with
 | nil=>cases h
 | cons d cs e=>rw[Bn];grind
theorem El ps:ps.length<=A7 ps:=by
 induction ps with
 | nil=>simp
 | cons p ps e=>rw[A5,An9,p.wt_eq];omega
theorem Er(cs:List AD):cs.length<=De cs:=by
 induction cs with
 | nil=>simp
 | cons p ps e=>rw[Bn,An9];omega
attribute[push_cast]Ad.enc_eq AD.enc_eq
section zip
variable{α β:Type}{f:α→β}{dn rest:List α}{x:α}
theorem Av7:decide ((dn.length:Int)<((dn++x::rest).length:Int))=true:=by simp;omega
theorem Auy:(List.map f (dn++x::rest))[dn.length]?=some (f x):=by simp
theorem Aq0:(dn++x::rest)[dn.length]?=some x:=by simp
theorem Auw(n:Int):decide (n<n)=false:=by simp
theorem Ae x {dn:List α}(h:dn.length<2^62):IntKind.i64.wrap ((dn.length:Int)+1)=((dn++[x]).length:Int):=by rw[wrap64 (by omega) (by omega)];simp
theorem A9{xs}(h:xs=dn++x::rest):dn.length<xs.length:=by rw[h];simp
attribute[push_cast]Av7 Auy Aq0 Auw
end zip
attribute [push_cast] Afb
theorem Ao4{c}{r:List UInt8}:(c::r==[])=false:=rfl
theorem Aox:(([]:List UInt8)==[])=true:=rfl
theorem ep1 a k:(a+1+k=a)=False:=by simp;omega
theorem A0G a k:(a=a+1+k)=False:=by simp;omega
theorem ep2 a k j:(a+1+k+1+j=a)=False:=by simp;omega
theorem AzK a k j:(a=a+1+k+1+j)=False:=by simp;omega
theorem ep3 a k j i:(a+1+k+1+j+1+i=a)=False:=by simp;omega
theorem A0o a k j i:(a=a+1+k+1+j+1+i)=False:=by simp;omega
theorem ep4 a k j i h:(a+1+k+1+j+1+i+1+h=a)=False:=by simp;omega
theorem A0y a k j i h:(a=a+1+k+1+j+1+i+1+h)=False:=by simp;omega
theorem ep5 a k j i h g:(a+1+k+1+j+1+i+1+h+1+g=a)=False:=by simp;omega
theorem A0r a k j i h g:(a=a+1+k+1+j+1+i+1+h+1+g)=False:=by simp;omega
theorem Auj l:C3 (.sl l)=none:=rfl
theorem Aoy:C3 .nil=none:=rfl
theorem As7(v:V) k:C3 (v.ep k)=none:=rfl
theorem Auz(l:Aa):C3 (.s l)=none:=rfl
theorem AuF l:C3 (.b l)=none:=rfl
theorem AuU k l:C3 (.i k l)=none:=rfl
theorem Ao2 l:C3 (.agg l)=none:=rfl
theorem Aou id o:C3 (.ref id o)=some id:=rfl
theorem Aoz id:C3 (.arr id)=some id:=rfl
attribute[push_cast]Ao4 Aox ep1 A0G ep2 AzK ep3 A0o ep4 A0y ep5 A0r Auj Aoy As7 Auz AuF AuU Ao2 Aou Aoz
attribute [push_cast] List.forall_mem_cons AzL false_imp_iff implies_true Ao3 forall_eq' ne_eq A13
def Ad.v(p:Ad):V:=.agg [.i .i64 p.kind,.s p.text,.s p.name,.s p.style,.sl (p.cases.map AD.enc),.sl (p.parts.map Ad.enc)]
def AD.v(c:AD):V:=.agg [.s c.1,.sl (c.2.map Ad.enc)]
theorem P9(x:UInt8){dn:List UInt8}(h:dn.length<AG):IntKind.i64.wrap ((dn.length:Int)+1)=((dn++[x]).length:Int):=Ae x (by unfold AG at h;omega)
theorem Aw3(w r:Aa):(if 0<=w.length/\w.length<=(w++r).length then some (V.s (List.take w.length (w++r))) else none)=some (V.s w):=by grind
theorem AwK(w r:Aa):(if w.length<=(w++r).length/\(w++r).length<=(w++r).length then some (V.s (List.drop w.length (List.take (w++r).length (w++r)))) else none)=some (V.s r):=by grind
theorem AuT(w r:Aa) c:(if(w++[c]).length<=(w++c::r).length/\(w++c::r).length<=(w++c::r).length then some (V.s (List.drop (w++[c]).length (List.take (w++c::r).length (w++c::r)))) else none)=some (V.s r):=by rw[Amm ⟨by simp,Ab6 _⟩,AuB,show w++c::r=(w++[c])++r by simp];simp only[A2m]
theorem AuS(w:Aa):(if 0<=w.length/\w.length<=w.length then some (V.s (List.take w.length w)) else none)=some (V.s w):=by grind
theorem Avs{α:Type} f (w r:List α):(if 0<=w.length/\w.length<=(w++r).length then some (V.sl (List.take w.length (List.map f (w++r)))) else none)=some (V.sl (List.map f w)):=by grind
attribute[push_cast]Aw3 AwK AuT AuS Avs
end Go.Ir
end
namespace Go.Ir
open Go.Proofs
variable{P:Program}{O:World}{nt n:Nat}{Q:Exit→St→Prop}{env:BB}{σ:Aq}
def vG:IC:=sQ (.block 3 (oP [m1 31 3,m1 32 0,m1 33 4,iA 34 32 33 96 6,fA 35 34 4,l1 36 35,m1 37 5,iA 38 36 37 101 2,fA 39 38 1,l1 40 39,q1 41 66 40,o1 42 (.bin .add (ci 1) (.t 41)),o1 43 (.mx false (.t 31) [.t 42]),m1 3 43] [0,3,4,5])) (oP [m1 29 5,bZ 30 .add 29 1,m1 5 30] [0,3,4,5])
def vA:IC:=sQ (.block 1 (oS [m1 12 3,m1 13 0,m1 14 4,iA 15 13 14 96 6,fA 16 15 5,l1 17 16,q1 18 66 17,o1 19 (.bin .add (ci 1) (.t 18)),o1 20 (.mx false (.t 12) [ci 1,.t 19]),m1 3 20] [0,3,4] (oS [mZ 5 0] [0,3,4,5] (.block 2 (.loop (sQ (oS [m1 21 5,m1 22 0,m1 23 4,iA 24 22 23 96 6,fA 25 24 4,l1 26 25,nL 27 26,bT 28 .lss 21 27] [0,3,4,5,28] (cD 28 .skip (.exit 2))) vG)))))) (oP [m1 10 4,bZ 11 .add 10 1,m1 4 11] [0,3,4])
def AfQ:IC:=sQ (oS [mZ 4 0] [0,3,4] (.block 0 (.loop (sQ (oS [m1 6 4,m1 7 0,nL 8 7,bT 9 .lss 6 8] [0,3,4,9] (cD 9 .skip (.exit 0))) vA)))) (oR [m1 44 3,m1 2 44] [2])
def AhQ:IC:=oS [mZ 2 0] [0] (oS [mZ 3 0] [0,3] AfQ)
def AvR:List R:=[.t 2]
def A05:=An vG.eq_1<|An vA.eq_1<|An AfQ.eq_1<|AR AhQ.eq_1
theorem AoC:Ao π 66 45 AhQ AvR=true:=by kernel_rfl
def oQ:IC:=sQ (.block 3 (oP [m1 39 3,m1 40 0,m1 41 4,iA 42 40 41 96 6,fA 43 42 4,l1 44 43,m1 45 5,iA 46 44 45 101 2,fA 47 46 1,l1 48 47,q1 49 67 48,o1 50 (.bin .add (ci 1) (.t 49)),bT 51 .add 39 50,m1 3 51] [0,3,4,5])) (oP [m1 37 5,bZ 38 .add 37 1,m1 5 38] [0,3,4,5])
def Aac:IC:=sQ (.block 1 (sQ (.ops [m1 12 3,m1 13 0,m1 14 4,iA 15 13 14 96 6,fA 16 15 5,l1 17 16,q1 18 67 17,o1 19 (.bin .add (ci 1) (.t 18)),m1 20 0,m1 21 4,iA 22 20 21 96 6,fA 23 22 1,l1 24 23,nS 25 24,bZ 26 .quo 25 20,bT 27 .add 19 26,bT 28 .add 12 27,m1 3 28] [0,3,4] [[1,3],[2,3],[3,4],[4,5],[5,6],[6,7],[8,10],[9,10],[10,11],[11,12],[12,13],[13,14],[7,15],[14,15],[0,16],[15,16],[0,17],[16,17]]) (oS [mZ 5 0] [0,3,4,5] (.block 2 (.loop (sQ (oS [m1 29 5,m1 30 0,m1 31 4,iA 32 30 31 96 6,fA 33 32 4,l1 34 33,nL 35 34,bT 36 .lss 29 35] [0,3,4,5,36] (cD 36 .skip (.exit 2))) oQ)))))) (oP [m1 10 4,bZ 11 .add 10 1,m1 4 11] [0,3,4])
def Ag0:IC:=sQ (oS [mZ 4 0] [0,3,4] (.block 0 (.loop (sQ (oS [m1 6 4,m1 7 0,nL 8 7,bT 9 .lss 6 8] [0,3,4,9] (cD 9 .skip (.exit 0))) Aac)))) (oR [m1 52 3,m1 2 52] [2])
def AfU:IC:=oS [mZ 2 0] [0] (oS [mZ 3 0] [0,3] Ag0)
def Awq:List R:=[.t 2]
def A0F:=An oQ.eq_1<|An Aac.eq_1<|An Ag0.eq_1<|AR AfU.eq_1
theorem Aql:Ao π 67 53 AfU Awq=true:=by kernel_rfl
def m9:IC:=sQ (.block 3 (oS [m1 46 0,m1 47 3,iA 48 46 47 96 6,fA 49 48 4,l1 50 49,m1 51 4,iA 52 50 51 101 2,fA 53 52 0,l1 54 53,nS 55 54,bZ 56 .gtr 55 60,m1 57 56,BU 58 57 0,BU 59 57 3,gF 60 57 (.iaddr (.t 58) (.t 59) 96 6),E5 61 57 60 4,Eh 62 57 61,BU 63 57 4,gF 64 57 (.iaddr (.t 62) (.t 63) 101 2),E5 65 57 64 1,Eh 66 57 65,gF 67 57 (.call 68 [.t 66]),gF 68 57 (.not (.t 67)),pO 69 57 68] [0,3,4,69] (cD 69 (oR [mC 2 (.b false)] [2]) .skip))) (oP [m1 44 4,bZ 45 .add 44 1,m1 4 45] [0,3,4])
def Aba:IC:=sQ (.block 1 (sQ (oS [m1 11 0,m1 12 3,iA 13 11 12 96 6,fA 14 13 2,l1 15 14,nS 16 15,bZ 17 .gtr 16 60,m1 18 17,BU 19 18 0,BU 20 18 3,gF 21 18 (.iaddr (.t 19) (.t 20) 96 6),E5 22 18 21 3,Eh 23 18 22,gF 24 18 (.lenS (.t 23)),Fg 25 18 .gtr 24 60,pO 26 18 25,m1 27 26,BU 28 27 0,BU 29 27 3,gF 30 27 (.iaddr (.t 28) (.t 29) 96 6),E5 31 27 30 5,Eh 32 27 31,gF 33 27 (.call 68 [.t 32]),gF 34 27 (.not (.t 33)),pO 35 27 34] [0,3,35] (cD 35 (oR [mC 2 (.b false)] [2]) .skip)) (oS [mZ 4 0] [0,3,4] (.block 2 (.loop (sQ (oS [m1 36 4,m1 37 0,m1 38 3,iA 39 37 38 96 6,fA 40 39 4,l1 41 40,nL 42 41,bT 43 .lss 36 42] [0,3,4,43] (cD 43 .skip (.exit 2))) m9)))))) (oP [m1 9 3,bZ 10 .add 9 1,m1 3 10] [0,3])
def AiD:IC:=sQ (oS [mZ 3 0] [0,3] (.block 0 (.loop (sQ (oS [m1 5 3,m1 6 0,nL 7 6,bT 8 .lss 5 7] [0,3,8] (cD 8 .skip (.exit 0))) Aba)))) (oR [mC 2 (.b true)] [2])
def Afv:IC:=oS [mC 2 (.b false)] [0] AiD
def AxG:List R:=[.t 2]
def A06:=An m9.eq_1<|An Aba.eq_1<|An AiD.eq_1<|AR Afv.eq_1
theorem Aru:Ao π 68 70 Afv AxG=true:=by kernel_rfl
def Ahf:IC:=oR [m1 3 0,q1 4 66 3,bZ 5 .leq 4 12,m1 6 5,BY 7 6 0,gT 8 6 (.call 67 [.t 7]),Gi 9 6 .leq 8 300,pA 10 6 9,m1 11 10,BY 12 11 0,gT 13 11 (.call 68 [.t 12]),pA 14 11 13,m1 2 14] [2]
def AiM:IC:=oS [mC 2 (.b false)] [0] Ahf
def Axu:List R:=[.t 2]
def A0f:=An Ahf.eq_1<|AR AiM.eq_1
theorem At2:Ao π 30 15 AiM Axu=true:=by kernel_rfl
attribute[push_cast]AvR A05 Awq A0F AxG A06 Axu A0f
end Go.Ir
section
namespace Go.Ir
open Go.Proofs
mutual
def Ad.shortB:Ad->Bool
 | ⟨_,_,n,s,cs,ps⟩=>!(decide ((n.length:Int)>60)||decide ((s.length:Int)>60)||!Dt ps)&&GG cs
def Dt:List Ad->Bool
 | []=>true
 | p::ps=>p.shortB&&Dt ps
def GG:List (Aa×List Ad)->Bool
 | []=>true
 | (k,ps)::cs=>!(decide ((k.length:Int)>60)||!Dt ps)&&GG cs
end
theorem Ad.shortB_eq(p:Ad):p.shortB=(!(decide ((p.name.length:Int)>60)||decide ((p.style.length:Int)>60)||!Dt p.parts)&&GG p.cases):=by cases p;simp only[Ad.shortB]
theorem Sj p ps:Dt (p::ps)=(p.shortB&&Dt ps):=by simp only[Dt]
theorem Rn(c:AD)(ps:List AD):GG (c::ps)=(!(decide ((c.1.length:Int)>60)||!Dt c.2)&&GG ps):=by have ⟨k,q⟩:=c;simp only[GG]
theorem a7 O:∀(N) (ps),A7 ps<N->A7 ps<=2^24->Ak π O 68 [.sl (ps.map Ad.enc)] [] (.b (Dt ps)) []:=by
 intro N
 induction N with
 | zero=>intro ps h;omega
 | succ N s=>
 intro ps B C;generalize hS:Dt ps=S;refine Ac (vs:=[.b S]) Aru (by simp) (by simp) λn y=>?_;clear y;simp only[push_cast,rq];intro _ _;refine Aj ps.length (Inv:=λm st=>∃dn rest n,ps=dn++rest/\m=rest.length/\Dt rest=S/\st=⟨[(0,.sl (ps.map Ad.enc)),(3,.i .i64 dn.length)],[],n⟩) ⟨_,Ag.refl,[],ps,_,rfl,rfl,hS,rfl⟩ ?_;clear hS;rintro m _ ⟨dn,rest,n,rfl,rfl,g,rfl⟩;have r:=El (dn++rest);cases rest with
 | nil=>simp only[push_cast,rq];intro _ _;exact Af (by rw[<-g];rfl)
 | cons p rest=>
  have z:=Fd (ps:=dn++p::rest) (p:=p) (by simp);rw[p.wt_eq] at z;rw[Sj,p.shortB_eq] at g;simp only[push_cast,rq];repeat' (first|(first|((first|apply Ai|apply Am|apply Al)<;>intro _h)|refine Ab (s p.parts (by omega) (by omega)) ?_)<;>(simp only[push_cast,rq,_h];try (have _g:=_h;simp at _g))|intro _)
  all_goals (try exact Af (by simp[get,<-g, *];done))
  have q:(GG p.cases&&Dt rest)=S:=by rw[<-g];simp[*]
  refine Aj p.cases.length (Inv:=λm st=>∃o j n,p.cases=o++j/\m=j.length/\(GG j&&Dt rest)=S/\st=⟨[(0,.sl ((dn++p::rest).map Ad.enc)),(3,.i .i64 dn.length),(4,.i .i64 o.length)],[],n⟩) ⟨_,Ag.refl,[],p.cases,_,rfl,rfl,q,rfl⟩ ?_;clear g q;rintro m _ ⟨o,j,n,e,rfl,g,rfl⟩;have w:=Er p.cases;cases j with
  | nil=>simp only[push_cast,rq,e,Ae p (dn:=dn) (by simp at r;omega)];intro _ _;exact⟨_,_,Ab4 _,Ag.refl,dn++[p],rest,_,by simp,rfl,by rw[<-g];rfl,rfl⟩
  | cons c j=>
   have A:=B7 (cs:=p.cases) (c:=c) (by simp[e]);have u:=A9 e;rw[Rn] at g;simp only[push_cast,rq,e];repeat' (first|(first|((first|apply Ai|apply Am|apply Al)<;>intro _h)|refine Ab (s c.2 (by omega) (by omega)) ?_)<;>(simp only[push_cast,rq,_h,e,Ae c (dn:=o) (by omega)];try (have _g:=_h;simp at _g))|intro _)
   all_goals (try exact Af (by simp[get,<-g, *];done))
   exact⟨_,_,Ab4 _,Ag.refl,o++[c],j,_,by simp ,rfl,by rw[<-g];simp[*],rfl⟩
end Go.Ir
end
namespace Go.Ir
open Go.Proofs
variable{P:Program}{O:World}{nt n:Nat}{Q:Exit→St→Prop}{env:BB}{σ:Aq}
def Af3:IC:=oR [m1 3 0,bC 4 .geq 3 (.i .u8 97),m1 5 4,BY 6 5 0,gT 7 5 (.bin .leq (.t 6) (.c (.i .u8 122))),pA 8 5 7,m1 9 8,BU 10 9 0,gF 11 9 (.bin .geq (.t 10) (.c (.i .u8 65))),BU 12 9 11,BY 13 12 0,gT 14 12 (.bin .leq (.t 13) (.c (.i .u8 90))),gF 15 9 (.pick (.t 12) (.t 14) (.c (.b false))),pO 16 9 15,m1 17 16,BU 18 17 0,gF 19 17 (.bin .geq (.t 18) (.c (.i .u8 48))),BU 20 17 19,BY 21 20 0,gT 22 20 (.bin .leq (.t 21) (.c (.i .u8 57))),gF 23 17 (.pick (.t 20) (.t 22) (.c (.b false))),pO 24 17 23,m1 2 24] [2]
def Ai0:IC:=oS [mC 2 (.b false)] [0] Af3
def AvU:List R:=[.t 2]
def Az4:=An Af3.eq_1<|AR Ai0.eq_1
theorem AqL:Ao π 85 25 Ai0 AvU=true:=by kernel_rfl
def mD:IC:=oS [m1 26 0,m1 27 3,o1 28 (.idx (.t 26) (.t 27)),q1 29 85 28,nT 30 29,m1 31 30,BY 32 31 0,BY 33 31 3,gT 34 31 (.idx (.t 32) (.t 33)),gT 35 31 (.bin .neq (.t 34) (.c (.i .u8 95))),pA 36 31 35,m1 37 36,BY 38 37 0,BY 39 37 3,gT 40 37 (.idx (.t 38) (.t 39)),gT 41 37 (.bin .neq (.t 40) (.c (.i .u8 45))),pA 42 37 41] [0,22,23,42] (cD 42 (oR [mC 2 (.b false)] [2]) .skip)
def sH:IC:=oS [bT 24 .lss 23 22] [0,22,23,24] (sQ (cD 24 .skip (.exit 0)) (sQ (.block 1 (oS [m1 25 23,m1 3 25] [0,3,22,23] mD)) (oP [bZ 43 .add 23 1,m1 23 43] [0,22,23])))
def AgT:IC:=sQ (oS [m1 4 0,bC 5 .eql 4 (.s []),m1 6 5,BU 7 6 0,gF 8 6 (.lenS (.t 7)),Fg 9 6 .gtr 8 40,pO 10 6 9,m1 11 10,BU 12 11 0,gF 13 11 (.idx (.t 12) (ci 0)),gF 14 11 (.bin .lss (.t 13) (.c (.i .u8 97))),pO 15 11 14,m1 16 15,BU 17 16 0,gF 18 16 (.idx (.t 17) (ci 0)),gF 19 16 (.bin .gtr (.t 18) (.c (.i .u8 122))),pO 20 16 19] [0,20] (cD 20 (oR [mC 2 (.b false)] [2]) .skip)) (sQ (oS [m1 21 0,nS 22 21,mZ 23 0] [0,22,23] (.block 0 (.loop sH))) (oR [mC 2 (.b true)] [2]))
def Aim:IC:=oS [mC 2 (.b false)] [0] AgT
def Ax2:List R:=[.t 2]
def AzW:=An mD.eq_1<|An sH.eq_1<|An AgT.eq_1<|AR Aim.eq_1
theorem Ar0:Ao π 47 44 Aim Ax2=true:=by kernel_rfl
def YH:IC:=cD 4 .skip (oS [bC 8 .eql 3 (.s [102,101,119]),m1 4 8] [3,4] (cD 4 .skip (oS [bC 9 .eql 3 (.s [109,97,110,121]),m1 4 9] [3,4] (cD 4 .skip (oP [bC 10 .eql 3 (.s [111,116,104,101,114]),m1 4 10] [4])))))
def vU:IC:=.block 0 (sQ (oS [bC 5 .eql 3 (.s [122,101,114,111]),m1 4 5] [3,4] (cD 4 .skip (oS [bC 6 .eql 3 (.s [111,110,101]),m1 4 6] [3,4] (cD 4 .skip (oS [bC 7 .eql 3 (.s [116,119,111]),m1 4 7] [3,4] YH))))) (cD 4 (oR [mC 2 (.b true)] [2]) .skip))
def tL:IC:=oS [mC 2 (.b false)] [0] (sQ (oS [m1 3 0] [3] vU) (oR [mC 2 (.b false)] [2]))
def Auo:List R:=[.t 2]
def Ayp:=An YH.eq_1<|An vU.eq_1<|AR tL.eq_1
theorem Alb:Ao π 166 11 tL Auo=true:=by kernel_rfl
def aH:IC:=oS [m1 13 4,bC 14 .lss 13 (.i .u8 97),m1 15 14,BU 16 15 4,gF 17 15 (.bin .gtr (.t 16) (.c (.i .u8 122))),pO 18 15 17,m1 19 18,BY 20 19 4,gT 21 19 (.bin .lss (.t 20) (.c (.i .u8 65))),BY 22 19 21,BU 23 22 4,gF 24 22 (.bin .gtr (.t 23) (.c (.i .u8 90))),gT 25 19 (.pick (.t 22) (.c (.b true)) (.t 24)),pA 26 19 25] [0,6,7,26] (cD 26 (oR [mC 2 (.b false)] [2]) .skip)
def ZC:IC:=sQ (.block 1 (oS [m1 9 7,m1 3 9] [0,3,6,7] (oS [m1 10 0,m1 11 3,o1 12 (.idx (.t 10) (.t 11)),m1 4 12] [0,4,6,7] aH))) (oP [bZ 27 .add 7 1,m1 7 27] [0,6,7])
def wD:IC:=sQ (oS [m1 5 0,nS 6 5,mZ 7 0] [0,6,7] (.block 0 (.loop (oS [bT 8 .lss 7 6] [0,6,7,8] (sQ (cD 8 .skip (.exit 0)) ZC))))) (oR [m1 28 0,bC 29 .neq 28 (.s []),m1 30 29,BY 31 30 0,gT 32 30 (.lenS (.t 31)),Gi 33 30 .leq 32 40,pA 34 30 33,m1 2 34] [2])
def yY:IC:=oS [mC 2 (.b false)] [0] wD
def ApP:List R:=[.t 2]
def Ayc:=An aH.eq_1<|An ZC.eq_1<|An wD.eq_1<|AR yY.eq_1
theorem AlV:Ao π 120 35 yY ApP=true:=by kernel_rfl
def Agq:IC:=oS [mC 2 (.b false)] [0] (oR [m1 3 0,bZ 4 .geq 3 7,m1 5 4,BY 6 5 0,Gi 7 5 .leq 6 9,pA 8 5 7,m1 2 8] [2])
def AvF:List R:=[.t 2]
def AzF:=AR Agq.eq_1
theorem Arl:Ao π 42 9 Agq AvF=true:=by kernel_rfl
attribute[push_cast]AvU Az4 Ax2 AzW Auo Ayp ApP Ayc AvF AzF
end Go.Ir
section
namespace Go.Ir
theorem Ah{O nt n g vs env σ}(h:DZ ⟨env,σ,n⟩ g vs):ME O nt g vs [] .ret ⟨env,σ,n⟩:=
 ⟨_,Ag.refl,h,λid e h=>by simp[lk] at h⟩
section
variable{P:Program}{O:World}{nt n ep:Nat}{live:List Nat}{Q:Exit→St→Prop}{env:BB}{σ:Aq}{l:List I}{t:Bool}
class Spl (p:Prop) (A B:outParam Prop):Prop where
 go:A->B->p
instance splC{a b:IC}:Spl (PP P O nt (.b t) a b Q env σ n) (t=true->aW P O nt a Q ⟨env,σ,n⟩) (t=false->aW P O nt b Q ⟨env,σ,n⟩):=⟨Ai⟩
instance splT{d:Option Nat}{e:Bh}{ap:List X}:Spl (UZ P O ep live Q (.b t) true d e ap l env σ) (t=true->J P O ep live Q (⟨d,e,none,ap⟩::l) env σ) (t=false->J P O ep live Q l (put env d (.tup [])) σ):=⟨Am⟩
instance splF{d:Option Nat}{e:Bh}{ap:List X}:Spl (UZ P O ep live Q (.b t) false d e ap l env σ) (t=false->J P O ep live Q (⟨d,e,none,ap⟩::l) env σ) (t=true->J P O ep live Q l (put env d (.tup [])) σ):=⟨Al⟩
theorem AL{p A B}[h:Spl p A B](e:A)(g:B):p:=h.go e g
theorem fnV{f ic i}(g:Ao P f nt ic i=true){args vs}(h:∀n,aW P O nt ic (ME O nt i vs []) ⟨params 0 args,[],n⟩)(e:args.length<=nt:=by simp):Ak P O f args [] (Kf vs) []:=
 Ac g e (λid h=>absurd rfl h) λn _=>h n
theorem Kn{s v}(h:get env s=v:=by simp[get]):ME O nt [.t s] [v] [] .ret ⟨env,σ,n⟩:=Af h
theorem Gj{e vs}(h:DZ ⟨env,σ,n⟩ e vs:=by simp[push_cast,get]):ME O nt e vs [] .ret ⟨env,σ,n⟩:=Ah h
end
def Adf(o:Option AP)(e k:Nat)(ag:Bool)(v:V):Prop:=∃u,o=some (.box u)/\sub u e k ag=some v
def AjQ(x:V)(σ:Aq)(k:Nat)(ag:Bool)(v:V):Prop:=∃id e u,x=.ref id e/\lk σ id=some (.box u)/\sub u e k ag=some v
theorem Ash{u v e k ag}:Adf (some (.box u)) e k ag v=(sub u e k ag=some v):=by simp[Adf]
theorem Apq{id e k σ ag v}:AjQ (.ref id e) σ k ag v=Adf (lk σ id) e k ag v:=by unfold AjQ Adf;grind
theorem AtH{env σ n s k ag e v vs}:DZ ⟨env,σ,n⟩ (.c s k ag::e) (v::vs)=(AjQ (get env s) σ k ag v/\DZ ⟨env,σ,n⟩ e vs):=rfl
theorem Ar4{env σ n s e v vs}:DZ ⟨env,σ,n⟩ (.t s::e) (v::vs)=(get env s=v/\DZ ⟨env,σ,n⟩ e vs):=rfl
theorem Aoq{st}:DZ st [] []=True:=rfl
theorem Ag.drop1{O nt n n' env σ id x}(h:lk σ id=none)(i:n<=n'):Ag O nt ⟨env,(id,x)::σ,n⟩ ⟨env,σ,n'⟩:=by
 refine Ag.drop (λj e g=>?_) i;simp only[lk];rw[AfL]
 .exact g
 grind
theorem Cj{σ g x}(h:lk σ g=none):∀id e,lk σ id=some e->lk ((g,x)::σ) id=some e:=by
 intro id e i;simp only[lk];rw[AfL]
 .exact i
 grind
attribute[push_cast]Ash Apq AtH Ar4 Aoq
end Go.Ir
end
section
namespace Go.Ir
theorem Ag.dropM{O:World}{nt n n':Nat}{env:BB}{a m:Id×AP}{σ:Aq}(h:lk σ m.1=none)(j:n<=n'):Ag O nt ⟨env,a::m::σ,n⟩ ⟨env,a::σ,n'⟩:=by have ⟨ai,ae⟩:=a;refine Ag.drop (λi e g=>?_) j;simp only[lk] at g⊢;grind
theorem As{P O ep live Q p l env σ}(h:p)(k:J P O ep live Q l env σ):JP P O ep live Q p l env σ:=⟨h,k⟩
section
variable{P:Program}{O:World}{ep d:Nat}{live:List Nat}{Q:Exit→St→Prop}{l:List I}{env:BB}{σ:Aq}
theorem Jt{id e e'}(h:∀p∈σ,p.1≠id):over [(id,e)] [(id,e')] ((id,e)::σ)=(id,e')::σ:=by
 have:List.filter (λp:Id×AP=>(lk [(id,e)] p.1).isNone) σ=σ:=by rw[A1E];intro p hp;have:=h p hp;simp[lk,Ao0 this]
 unfold over;rw[A1Q (by simp[lk]),this];rfl
theorem NW{f:FuncId}{vs:List V}{v:V}{id:Id}{e e':AP}(h:Ak P O f vs [(id,e)] v [(id,e')])(g:∀p∈σ,p.1≠id)
  (j:J P O ep live Q l ((d,v)::env) ((id,e')::σ)):HP P O ep live Q f vs l d env ((id,e)::σ):=by
 refine AX h (λi y o=>?_) (by rw[Jt g];exact j);simp only[lk] at o⊢;grind
theorem dT{f vs v id e e' a}(h:Ak P O f vs [(id,e)] v [(id,e')])(g:∀p∈a::σ,p.1≠id)
  (s:J P O ep live Q l ((d,v)::env) ((id,e')::a::σ)):HP P O ep live Q f vs l d env (a::(id,e)::σ):=by
 have r:a.1≠id:=g a (by simp);refine AX h (λi y u=>?_) ?_
 .obtain⟨j,x⟩:=a;simp only[lk] at u⊢;grind
 .have:over [(id,e)] [(id,e')] (a::(id,e)::σ)=(id,e')::a::σ:=by
   have o:=Jt (e:=e) (e':=e') (λp hp=>g p (Ab5 a hp));have q:(lk [(id,e)] a.1).isNone=true:=by simp[lk,Ao0 r]
   simp only[over,List.filter_cons,q,AbA,A1Z,List.cons.injEq,A03] at o⊢;simpa[lk] using o
  rw[this];exact s
end
end Go.Ir
end
namespace Go.Ir
open Go.Proofs
variable(O:World)
def K6(n:Int):Bool:=decide (n>=97)&&decide (n<=122)||decide (n>=65)&&decide (n<=90)||decide (n>=48)&&decide (n<=57)
theorem fS n:Ak π O 85 [.i .u8 n] [] (.b (K6 n)) []:=by
 refine Ac (vs:=[.b (K6 n)]) AqL (by simp) (by simp) λn0 e=>?_;clear e;simp only[push_cast,rq]
 repeat' (first|((apply AL<;>intro _h)<;>(simp only[push_cast,rq,_h];try (have _g:=_h;simp at _g)))|intro _)
 all_goals (first|(refine Af ?_;simp[get,K6, *]<;>(intros;omega);done)|(refine Ah ?_;simp[push_cast,get,K6, *];done)|skip)
def AI(n:Int):Bool:=decide (n>=7)&&decide (n<=9)
theorem D7 n:Ak π O 42 [.i .i64 n] [] (.b (AI n)) []:=by
 refine Ac (vs:=[.b (AI n)]) Arl (by simp) (by simp) λn0 e=>?_;clear e;simp only[push_cast,rq]
 repeat' (first|((apply AL<;>intro _h)<;>(simp only[push_cast,rq,_h];try (have _g:=_h;simp at _g)))|intro _)
 all_goals (first|(refine Af ?_;simp[get,AI, *]<;>(intros;omega);done)|(refine Ah ?_;simp[push_cast,get,AI, *];done)|skip)
def T8(n:Int):Bool:=n==123||n==125||n==60||n==62||n==35||n==92
def Kt(s:Aa):Bool:=s==[122,101,114,111]||s==[111,110,101]||s==[116,119,111]||s==[102,101,119]||s==[109,97,110,121]||s==[111,116,104,101,114]
theorem Aah(s:Aa):Ak π O 166 [.s s] [] (.b (Kt s)) []:=by
 refine Ac (vs:=[.b (Kt s)]) Alb (by simp) (by simp) λn0 e=>?_;clear e;push_cast
 repeat' (first|((apply AL<;>intro _h)<;>(push_cast[_h];try (have _g:=_h;simp at _g)))|intro _)
 all_goals (first|(refine Af ?_;simp[get,Kt, *]<;>(intros;omega);done)|(refine Ah ?_;simp[get,Kt, *];done)|skip)
def OV(n:Int):Bool:=decide (n>=97)&&decide (n<=122)
def w8(n:Int):Bool:=n==7||n==8
def NQ(n:Int):Bool:=K6 n||n==95||n==45
def Me(f:Int->Bool):Aa->Bool
 | []=>true
 | c::r=>f c.toNat&&Me f r
def BF:Aa->Bool
 | []=>false
 | c::r=>decide (((c::r).length:Int)<=40)&&OV c.toNat&&Me NQ (c::r)
theorem Ds(s:Aa)(r:s.length<AG):Ak π O 47 [.s s] [] (.b (BF s)) []:=by
 generalize hS:BF s=S;refine Ac (vs:=[.b S]) Ar0 (by simp) (by simp) λn0 j=>?_;clear j;simp only[push_cast,seval];cases s with
 | nil=>
  simp only[push_cast,seval]
  repeat' (first|((apply AL<;>intro _h)<;>(simp only[push_cast,seval,_h];try (have _g:=_h;simp at _g)))|intro _)
  all_goals exact Af (by simp[get,<-hS,BF])
 | cons e h=>
  unfold BF at hS;simp only at hS;simp only[push_cast,seval]
  repeat' (first|((apply AL<;>intro _h)<;>(simp only[push_cast,seval,_h];try (have _g:=_h;simp at _g)))|intro _)
  all_goals (first|(refine Af ?_;simp[get,<-hS,OV, *]<;>(intros;omega);done)|(refine Ah ?_;simp[push_cast,get,<-hS,OV, *];done)|skip)
  have p:(decide (((e::h).length:Int)<=40)&&OV e.toNat)=true:=by simp[OV];omega
  rw[p,AxA] at hS;refine Aj (e::h).length (Inv:=λm st=>∃dn rest n,e::h=dn++rest/\m=rest.length/\Me NQ rest=S/\st=⟨[(0,.s (e::h)),(22,.i .i64 (e::h).length),(23,.i .i64 dn.length)],[],n⟩) ⟨_,Ag.refl,[],_,_,rfl,rfl,hS,by simp;rfl⟩ ?_;clear hS;rintro m _ ⟨dn,rest,n,o,rfl,g,rfl⟩;cases rest with
  | nil=>
   simp only[push_cast,seval,o]
   repeat' (first|((apply AL<;>intro _h)<;>(simp only[push_cast,seval,_h];try (have _g:=_h;simp at _g)))|intro _)
   all_goals (first|(refine Af ?_;simp[get,<-g,Me]<;>(intros;omega);done)|(refine Ah ?_;simp[push_cast,get,<-g,Me, *];done)|skip)
  | cons c rest=>
   have q:=A9 o;simp only[push_cast,seval,o];repeat' (first|(first|(apply AL<;>intro _h)|refine Ab (fS O _) ?_)<;>(simp only[push_cast,seval,_h,P9 c (dn:=dn) (by omega)];try (have _g:=_h;simp at _g))|intro _)
   all_goals (first|(refine Af ?_;simp[get,<-g,Me,NQ, *]<;>(intros;omega);done)|(refine Ah ?_;simp[push_cast,get,<-g,Me,NQ, *];done)|skip)
   all_goals (first|(refine⟨_,_,Ab4 _,Ag.refl,dn++[c],rest,_,?_,rfl,?_,rfl⟩<;>first|rfl|assumption|(simp ;done)|(simp[<-g,Me,NQ, *]<;>(intros;omega);done))|skip)
def UQ(n:Int):Bool:=decide (n>=97)&&decide (n<=122)||decide (n>=65)&&decide (n<=90)
def FQ(s:Aa):Bool:=Me UQ s&&(decide ((s.length:Int)>=1)&&decide ((s.length:Int)<=40))
theorem T7(s:Aa)(q:s.length<AG):Ak π O 120 [.s s] [] (.b (FQ s)) []:=by
 generalize hS:FQ s=S;unfold FQ at hS;generalize g:(decide ((s.length:Int)>=1)&&decide ((s.length:Int)<=40))=T at hS;refine Ac (vs:=[.b S]) AlV (by simp) (by simp) λn0 j=>?_;clear j;simp only[push_cast,rq];intro _ _;refine Aj s.length (Inv:=λm st=>∃dn rest n,s=dn++rest/\m=rest.length/\(Me UQ rest&&T)=S/\st=⟨[(0,.s s),(6,.i .i64 s.length),(7,.i .i64 dn.length)],[],n⟩) ⟨_,Ag.refl,[],_,_,rfl,rfl,hS,rfl⟩ ?_;clear hS;rintro m _ ⟨dn,rest,n,h,rfl,e,rfl⟩;cases rest with
 | nil=>
  have e:T=S:=by rw[<-e];rfl
  rw[At9] at h;subst h;cases s with
  | nil=>
   simp only[push_cast,rq]
   repeat' (first|((apply AL<;>intro _h)<;>(simp only[push_cast,rq,_h];try (have _g:=_h;simp at _g)))|intro _)
   all_goals (first|(refine Af ?_;simp[get,<-e,<-g]<;>(intros;omega);done)|(refine Ah ?_;simp[push_cast,get,<-e,<-g, *];done)|skip)
  | cons o r=>
   simp only[push_cast,rq]
   repeat' (first|((apply AL<;>intro _h)<;>(simp only[push_cast,rq,_h];try (have _g:=_h;simp at _g)))|intro _)
   all_goals (first|(refine Af ?_;simp[get,<-e,<-g]<;>(intros;omega);done)|(refine Ah ?_;simp[push_cast,get,<-e,<-g, *];done)|skip)
 | cons c rest=>
  have p:=A9 h;simp only[push_cast,rq,h]
  repeat' (first|((apply AL<;>intro _h)<;>(simp only[push_cast,rq,_h,P9 c (dn:=dn) (by omega)];try (have _g:=_h;simp at _g)))|intro _)
  all_goals (first|(refine Af ?_;simp[get,<-e,Me,UQ, *]<;>(intros;omega);done)|(refine Ah ?_;simp[push_cast,get,<-e,Me,UQ, *];done)|skip)
  all_goals (first|(refine⟨_,_,Ab4 _,Ag.refl,dn++[c],rest,_,?_,rfl,?_,rfl⟩<;>first|rfl|assumption|(simp ;done)|(simp[<-e,Me,UQ, *]<;>(intros;omega);done))|skip)
end Go.Ir

namespace Go.Ir
variable{P:Program}{O:World}{nt n:Nat}{Q:Exit→St→Prop}{env:BB}{σ:Aq}
def AhD(e sz:Nat)(ag:Bool):IC:=.ops [o1 4 (.mv (ci 0))] [0,1] []
def Agx(e sz:Nat)(ag:Bool):IC:=.ops [m1 6 0,o1 7 (.lenL (.t 6)),o1 8 (.mv (ci 0))] [0,1,7,8] []
def Air(e sz:Nat)(ag:Bool):IC:=.ops [o1 9 (.bin .lss (.t 8) (.t 7))] [0,1,7,8,9] []
def rI(e sz:Nat)(ag:Bool):IC:=.cond (.t 9) .skip (.exit 0)
def Abl(e sz:Nat)(ag:Bool):IC:=.ops [m1 10 8,m1 5 10] [0,1,5,7,8] []
def zZ(e sz:Nat)(ag:Bool):IC:=.ops [m1 11 1,m1 12 0,m1 13 5,o1 14 (.iaddr (.t 12) (.t 13) e sz),o1 15 (.load (.t 14) sz ag),o1 16 (.callvs (.t 11) [(.t 15)])] [0,1,5,7,8,16] []
def oC(e sz:Nat)(ag:Bool):IC:=.ops [m1 17 5,m1 4 17] [4] []
def Aab(e sz:Nat)(ag:Bool):IC:=.seq (oC e sz ag) .ret
def kW(e sz:Nat)(ag:Bool):IC:=.cond (.t 16) (Aab e sz ag) .skip
def iR(e sz:Nat)(ag:Bool):IC:=.seq (zZ e sz ag) (kW e sz ag)
def pE(e sz:Nat)(ag:Bool):IC:=.seq (Abl e sz ag) (iR e sz ag)
def uF(e sz:Nat)(ag:Bool):IC:=.block 1 (pE e sz ag)
def Aak(e sz:Nat)(ag:Bool):IC:=.ops [o1 18 (.bin .add (.t 8) (ci 1)),m1 8 18] [0,1,7,8] []
def vX(e sz:Nat)(ag:Bool):IC:=.seq (uF e sz ag) (Aak e sz ag)
def Agw(e sz:Nat)(ag:Bool):IC:=.seq (rI e sz ag) (vX e sz ag)
def Afx(e sz:Nat)(ag:Bool):IC:=.seq (Air e sz ag) (Agw e sz ag)
def Af2(e sz:Nat)(ag:Bool):IC:=.loop (Afx e sz ag)
def AgW(e sz:Nat)(ag:Bool):IC:=.block 0 (Af2 e sz ag)
def Aia(e sz:Nat)(ag:Bool):IC:=.seq (Agx e sz ag) (AgW e sz ag)
def zM(e sz:Nat)(ag:Bool):IC:=.ops [o1 4 (.mv (ci (-1)))] [4] []
def qR(e sz:Nat)(ag:Bool):IC:=.seq (zM e sz ag) .ret
def AgI(e sz:Nat)(ag:Bool):IC:=.seq (Aia e sz ag) (qR e sz ag)
def JA(e sz:Nat)(ag:Bool):IC:=.seq (AhD e sz ag) (AgI e sz ag)
def Rc:List R:=[.t 4]
def AxH(e sz:Nat)(ag:Bool):=AR (AhD.eq_1 e sz ag)
def AvT(e sz:Nat)(ag:Bool):=AR (Agx.eq_1 e sz ag)
def Awe(e sz:Nat)(ag:Bool):=AR (Air.eq_1 e sz ag)
def Aux(e sz:Nat)(ag:Bool):=AR (rI.eq_1 e sz ag)
def Au8(e sz:Nat)(ag:Bool):=AR (Abl.eq_1 e sz ag)
def AuG(e sz:Nat)(ag:Bool):=AR (zZ.eq_1 e sz ag)
def AuM(e sz:Nat)(ag:Bool):=AR (oC.eq_1 e sz ag)
def AuH(e sz:Nat)(ag:Bool):=AR (Aab.eq_1 e sz ag)
def AuP(e sz:Nat)(ag:Bool):=AR (kW.eq_1 e sz ag)
def AuA(e sz:Nat)(ag:Bool):=AR (iR.eq_1 e sz ag)
def AuQ(e sz:Nat)(ag:Bool):=AR (pE.eq_1 e sz ag)
def AuR(e sz:Nat)(ag:Bool):=AR (uF.eq_1 e sz ag)
def Auv(e sz:Nat)(ag:Bool):=AR (Aak.eq_1 e sz ag)
def AuN(e sz:Nat)(ag:Bool):=AR (vX.eq_1 e sz ag)
def Aw8(e sz:Nat)(ag:Bool):=AR (Agw.eq_1 e sz ag)
def Ax1(e sz:Nat)(ag:Bool):=AR (Afx.eq_1 e sz ag)
def AwE(e sz:Nat)(ag:Bool):=AR (Af2.eq_1 e sz ag)
def Av8(e sz:Nat)(ag:Bool):=AR (AgW.eq_1 e sz ag)
def Av3(e sz:Nat)(ag:Bool):=AR (Aia.eq_1 e sz ag)
def AuL(e sz:Nat)(ag:Bool):=AR (zM.eq_1 e sz ag)
def Au2(e sz:Nat)(ag:Bool):=AR (qR.eq_1 e sz ag)
def Avt(e sz:Nat)(ag:Bool):=AR (AgI.eq_1 e sz ag)
def Aw4(e sz:Nat)(ag:Bool):=AR (JA.eq_1 e sz ag)
def AgR(g:Nat):IC:=.ops [o1 4 (.mv (.c (.b false)))] [0,1] []
def Ai1(g:Nat):IC:=.ops [m1 5 0,m1 6 1,o1 7 (.calls g [(.t 5),(.t 6)]),o1 8 (.bin .geq (.t 7) (ci 0)),m1 4 8] [4] []
def AhS(g:Nat):IC:=.seq (Ai1 g) .ret
def O5(g:Nat):IC:=.seq (AgR g) (AhS g)
def cT:List R:=[.t 4]
def Axj(g:Nat):=AR (AgR.eq_1 g)
def Avr(g:Nat):=AR (Ai1.eq_1 g)
def Av2(g:Nat):=AR (AhS.eq_1 g)
def Ax6(g:Nat):=AR (O5.eq_1 g)
def Ahi(e:Nat):IC:=.ops [o1 4 (.mv (ci 0))] [0,1] []
def AfT(e:Nat):IC:=.ops [m1 6 0,o1 7 (.lenL (.t 6)),o1 8 (.mv (ci 0))] [0,1,7,8] []
def Aiu(e:Nat):IC:=.ops [o1 9 (.bin .lss (.t 8) (.t 7))] [0,1,7,8,9] []
def jT(e:Nat):IC:=.cond (.t 9) .skip (.exit 0)
def oH(e:Nat):IC:=.ops [m1 10 8,m1 5 10] [0,1,5,7,8] []
def AaI(e:Nat):IC:=.ops [m1 11 1,m1 12 0,m1 13 5,o1 14 (.iaddr (.t 12) (.t 13) e 1),o1 15 (.load (.t 14) 1 false),o1 16 (.bin .eql (.t 11) (.t 15))] [0,1,5,7,8,16] []
def tH(e:Nat):IC:=.ops [m1 17 5,m1 4 17] [4] []
def wK(e:Nat):IC:=.seq (tH e) .ret
def wF(e:Nat):IC:=.cond (.t 16) (wK e) .skip
def iQ(e:Nat):IC:=.seq (AaI e) (wF e)
def xK(e:Nat):IC:=.seq (oH e) (iQ e)
def xI(e:Nat):IC:=.block 1 (xK e)
def rG(e:Nat):IC:=.ops [o1 18 (.bin .add (.t 8) (ci 1)),m1 8 18] [0,1,7,8] []
def pG(e:Nat):IC:=.seq (xI e) (rG e)
def AhX(e:Nat):IC:=.seq (jT e) (pG e)
def Afy(e:Nat):IC:=.seq (Aiu e) (AhX e)
def Ahy(e:Nat):IC:=.loop (Afy e)
def Aib(e:Nat):IC:=.block 0 (Ahy e)
def Aha(e:Nat):IC:=.seq (AfT e) (Aib e)
def wR(e:Nat):IC:=.ops [o1 4 (.mv (ci (-1)))] [4] []
def lZ(e:Nat):IC:=.seq (wR e) .ret
def Ahw(e:Nat):IC:=.seq (Aha e) (lZ e)
def O3(e:Nat):IC:=.seq (Ahi e) (Ahw e)
def gB:List R:=[.t 4]
def AvW(e:Nat):=AR (Ahi.eq_1 e)
def Aw0(e:Nat):=AR (AfT.eq_1 e)
def Axs(e:Nat):=AR (Aiu.eq_1 e)
def Au9(e:Nat):=AR (jT.eq_1 e)
def AuJ(e:Nat):=AR (oH.eq_1 e)
def AuV(e:Nat):=AR (AaI.eq_1 e)
def AuE(e:Nat):=AR (tH.eq_1 e)
def Au6(e:Nat):=AR (wK.eq_1 e)
def Au0(e:Nat):=AR (wF.eq_1 e)
def Au1(e:Nat):=AR (iQ.eq_1 e)
def AuK(e:Nat):=AR (xK.eq_1 e)
def AuC(e:Nat):=AR (xI.eq_1 e)
def Au3(e:Nat):=AR (rG.eq_1 e)
def AuI(e:Nat):=AR (pG.eq_1 e)
def AvI(e:Nat):=AR (AhX.eq_1 e)
def Avp(e:Nat):=AR (Afy.eq_1 e)
def Awc(e:Nat):=AR (Ahy.eq_1 e)
def Avf(e:Nat):=AR (Aib.eq_1 e)
def Ax3(e:Nat):=AR (Aha.eq_1 e)
def Au4(e:Nat):=AR (wR.eq_1 e)
def Au7(e:Nat):=AR (lZ.eq_1 e)
def AwN(e:Nat):=AR (Ahw.eq_1 e)
def AvG(e:Nat):=AR (O3.eq_1 e)
def AhW(g:Nat):IC:=.ops [o1 4 (.mv (.c (.b false)))] [0,1] []
def Agk(g:Nat):IC:=.ops [m1 5 0,m1 6 1,o1 7 (.call g [(.t 5),(.t 6)]),o1 8 (.bin .geq (.t 7) (ci 0)),m1 4 8] [4] []
def Aiq(g:Nat):IC:=.seq (Agk g) .ret
def ZM(g:Nat):IC:=.seq (AhW g) (Aiq g)
def Anr:List R:=[.t 4]
def AvY(g:Nat):=AR (AhW.eq_1 g)
def Awi(g:Nat):=AR (Agk.eq_1 g)
def Awg(g:Nat):=AR (Aiq.eq_1 g)
def Awb(g:Nat):=AR (ZM.eq_1 g)
attribute[push_cast]AxH AvT Awe Aux Au8 AuG AuM AuH AuP AuA AuQ AuR Auv AuN Aw8 Ax1 AwE Av8 Av3 AuL Au2 Avt Aw4 Axj Avr Av2 Ax6 AvW Aw0 Axs Au9 AuJ AuV AuE Au6 Au0 Au1 AuK AuC Au3 AuI AvI Avp Awc Avf Ax3 Au4 Au7 AwN AvG AvY Awi Awg Awb
end Go.Ir

namespace Go.Ir
open Go.Proofs
variable{P:Program}(O:World){α:Type}
def AV(p:α->Bool):List α->Int
 | []=>-1
 | x::xs=>bif p x then 0 else if AV p xs<0 then -1 else AV p xs+1
theorem EY(p:α->Bool):∀xs,decide (AV p xs>=0)=xs.any p
 | []=>by simp[AV]
 | x::xs=>by
  have e:=EY p xs;rw[A1U,<-e];rcases Ay8 (p x) with hp|hp
  .simp[AV,hp]
  .simp only[AV,hp,A0d,A0Q];grind
theorem DQ(p:α->Bool):∀xs,-1<=AV p xs
 | []=>by simp[AV]
 | x::xs=>by have e:=DQ p xs;simp only[AV];cases p x<;>simp;split<;>omega
def Pg(ag:Bool)(sz:Nat)(v:V):Prop:=(cells v).length=sz/\sub v 0 sz ag=some v
theorem Fh{sz cs}(h:cs.length=sz):Pg true sz (.agg cs):=by subst h;simp[Pg,cells,sub,UD]
theorem Pg.get{ag sz v}(h:Pg ag sz v):(if ag=true then some (V.agg (cells v)) else(cells v)[0]?)=some v:=by have:=h.2;unfold sub at this;simpa[h.1,UD] using this
theorem vN{v}(h:cells v=[v]):Pg false 1 v:=by simp[Pg,h,sub]
theorem Cn{f e sz:Nat}{ag}(hck:Ao P f 19 (JA e sz ag) Rc=true) enc xs (p:α->Bool) g first caps σ 
  (hc:∀x∈xs,Pg ag sz (enc x))(hg:∀x∈xs,Ak P O g (first++[enc x]++caps) σ (.b (p x)) σ)(hlen:xs.length<2^62) :
  Ak P O f [.sl (xs.map enc),.fn g first caps] σ (.i .i64 (AV p xs)) σ:=by
 generalize hS:AV p xs=S
 refine Ac (vs:=[.i .i64 S]) hck (by simp) (fun _ h=>h) fun n0 hn0=>?_
 simp only[push_cast,rq]
 intro _ _
 refine Aj xs.length (Inv:=fun m st=>∃dn rest n,xs=dn++rest/\m=rest.length/\(if AV p rest<0 then -1 else AV p rest+dn.length)=S/\st=⟨[(0,.sl (xs.map enc)),(1,.fn g first caps),(7,.i .i64 xs.length),(8,.i .i64 dn.length)],σ,n⟩) ⟨_,Ag.refl,[],_,_,rfl,rfl,?_,rfl⟩ ?_
 .have:=DQ p xs
  rw[<-hS];simp;omega
 clear hS
 rintro m _ ⟨dn,rest,n,hz,rfl,hd,rfl⟩
 cases rest with
 | nil=>
  simp only[push_cast,rq,hz]
  intro _ _
  refine Aw ?_ (fun _ _ h=>h)
  rw[<-hd];simp[AV,get]
 | cons x rest=>
  have hb:=A9 hz
  have hx:x∈xs:=by rw[hz];simp
  have h1:=(hc x hx).1
  have h2:=(hc x hx).get
  simp only[push_cast,rq,hz,h1,h2]
  intro _ _
  refine AX (σi:=σ) (σo:=σ) (hg x hx) (fun _ _ h=>h) ?_
  rw[B5]
  simp only[push_cast,rq]
  intro _
  (apply AL<;>intro hp)<;>simp only[push_cast,rq,Ae x (dn:=dn) (by omega)]
  .intro _
   refine Aw ?_ (fun _ _ h=>h)
   rw[<-hd]
   simp[AV,hp,get]
  .intro _
   refine⟨_,_,Ab4 _,Ag.refl,dn++[x],rest,_,by simp ,rfl,?_,rfl⟩
   rw[<-hd]
   have hlo:=DQ p rest
   simp only[AV,hp,A0d]
   grind
theorem CQ{f g:Nat}(e:Ao P f 9 (O5 g) cT=true) v w i σ (h:Ak P O g [v,w] σ (.i .i64 i) σ):Ak P O f [v,w] σ (.b (decide (i>=0))) σ:=by refine Ac (vs:=[.b (decide (i>=0))]) e (by simp) (λ_ h=>h) λn0 j=>?_;simp only[push_cast];intro _;refine AX (σi:=σ) (σo:=σ) h (λ_ _ h=>h) ?_;rw[B5];simp only[push_cast];intro _;exact Aw (by simp[get]) (λ_ _ h=>h)
theorem DJ{n d e x id σ}(g:id.1<n)(h:lk σ id=some e):lk (((n,d),x)::σ) id=some e:=by simp only[lk];grind
theorem JN{f e:Nat}(g:Ao P f 19 (O3 e) gB=true)(xs:List Aa)(v:Aa)(o:xs.length<2^62):Ak P O f [.sl (xs.map V.s),.s v] [] (.i .i64 (AV (λx=>v==x) xs)) []:=by
 generalize hS:AV (λx=>v==x) xs=S;refine Ac (vs:=[.i .i64 S]) g (by simp) (by simp) λn0 q=>?_;simp only[push_cast,rq];intro _ _;refine Aj xs.length (Inv:=λm st=>∃dn rest n,xs=dn++rest/\m=rest.length/\(if AV (λx=>v==x) rest<0 then -1 else AV (λx=>v==x) rest+dn.length)=S/\st=⟨[(0,.sl (xs.map V.s)),(1,.s v),(7,.i .i64 xs.length),(8,.i .i64 dn.length)],[],n⟩) ⟨_,Ag.refl,[],_,_,rfl,rfl,?_,rfl⟩ ?_
 .have:=DQ (λx=>v==x) xs;rw[<-hS];simp;omega
 clear hS;rintro m _ ⟨dn,rest,n,j,rfl,h,rfl⟩;cases rest with
 | nil=>simp only[push_cast,rq,j];intro _ _;refine Af ?_;rw[<-h];simp[AV,get]
 | cons x rest=>
  have r:=A9 j;simp only[push_cast,rq,j];intro _ _ _
  (apply AL<;>intro hp)<;>simp only[push_cast,rq,Ae x (dn:=dn) (by omega)]
  .intro _;refine Af ?_;rw[<-h];simp[AV,hp,get]
  .intro _;refine⟨_,_,Ab4 _,Ag.refl,dn++[x],rest,_,by simp ,rfl,?_,rfl⟩;rw[<-h];have p:=DQ (λx=>v==x) rest;simp only[AV,hp,A0d];grind
theorem Xh{f e:Nat}(g:Ao P f 19 (O3 e) gB=true)(xs:List Int)(v:Int)(o:xs.length<2^62):Ak P O f [.sl (xs.map (V.i .i64)),.i .i64 v] [] (.i .i64 (AV (λx=>v==x) xs)) []:=by
 generalize hS:AV (λx=>v==x) xs=S;refine Ac (vs:=[.i .i64 S]) g (by simp) (by simp) λn0 q=>?_;simp only[push_cast,rq];intro _ _;refine Aj xs.length (Inv:=λm st=>∃dn rest n,xs=dn++rest/\m=rest.length/\(if AV (λx=>v==x) rest<0 then -1 else AV (λx=>v==x) rest+dn.length)=S/\st=⟨[(0,.sl (xs.map (V.i .i64))),(1,.i .i64 v),(7,.i .i64 xs.length),(8,.i .i64 dn.length)],[],n⟩) ⟨_,Ag.refl,[],_,_,rfl,rfl,?_,rfl⟩ ?_
 .have:=DQ (λx=>v==x) xs;rw[<-hS];simp;omega
 clear hS;rintro m _ ⟨dn,rest,n,j,rfl,h,rfl⟩;cases rest with
 | nil=>simp only[push_cast,rq,j];intro _ _;refine Af ?_;rw[<-h];simp[AV,get]
 | cons x rest=>
  have r:=A9 j;simp only[push_cast,rq,j];intro _ _ _
  (apply AL<;>intro hp)<;>simp only[push_cast,rq,Ae x (dn:=dn) (by omega)]
  .intro _;refine Af ?_;rw[<-h];simp[AV,hp,get]
  .intro _;refine⟨_,_,Ab4 _,Ag.refl,dn++[x],rest,_,by simp ,rfl,?_,rfl⟩;rw[<-h];have p:=DQ (λx=>v==x) rest;simp only[AV,hp,A0d];grind
theorem JD{f g:Nat}(e:Ao P f 9 (ZM g) Anr=true) v w i (h:Ak P O g [v,w] [] (.i .i64 i) []):Ak P O f [v,w] [] (.b (decide (i>=0))) []:=by
 refine Ac (vs:=[.b (decide (i>=0))]) e (by simp) (by simp) λn0 j=>?_;simp only[push_cast];repeat' (first|(first|(apply AL<;>intro _h)|refine Ab h ?_)<;>(simp only[push_cast];try (have _g:=_h;simp at _g))|intro _)
 all_goals (first|(refine Af ?_;simp[get]<;>(intros;omega);done)|(exact Gj;done)|skip)
end Go.Ir
section
namespace Go.Ir
open Go.Proofs
variable{P:Program}(O:World){α:Type}
theorem OG{f e sz:Nat}{ag}(hck:Ao P f 19 (JA e sz ag) Rc=true) enc xs (p:α->Bool) g first caps σ id (e':Nat)(hid:lk σ id=some (.arr e' sz (xs.map enc)))
  (hc:∀x∈xs,Pg ag sz (enc x))(hg:∀x∈xs,Ak P O g (first++[enc x]++caps) σ (.b (p x)) σ)(hlen:xs.length<2^62) :
  Ak P O f [.arr id,.fn g first caps] σ (.i .i64 (AV p xs)) σ:=by
 generalize hS:AV p xs=S
 refine Ac (vs:=[.i .i64 S]) hck (by simp) (fun _ h=>h) fun n0 hn0=>?_
 simp only[push_cast,seval,rq,hid]
 intro _ _
 refine Aj xs.length (Inv:=fun m st=>∃dn rest n,xs=dn++rest/\m=rest.length/\(if AV p rest<0 then -1 else AV p rest+dn.length)=S/\st=⟨[(0,.arr id),(1,.fn g first caps),(7,.i .i64 xs.length),(8,.i .i64 dn.length)],σ,n⟩) ⟨_,Ag.refl,[],_,_,rfl,rfl,?_,rfl⟩ ?_
 .have:=DQ p xs
  rw[<-hS];simp;omega
 clear hS
 rintro m _ ⟨dn,rest,n,hz,rfl,hd,rfl⟩
 cases rest with
 | nil=>
  simp only[push_cast,seval,rq,hz]
  intro _ _
  refine Aw ?_ (fun _ _ h=>h)
  rw[<-hd];simp[AV,get]
 | cons x rest=>
  have hb:=A9 hz
  have hx:x∈xs:=by rw[hz];simp
  have h1:=(hc x hx).1
  have h2:=(hc x hx).get
  have hlt:dn.length<(dn++x::rest).length:=by simp
  rw[hz] at hid
  simp only[push_cast,seval,rq,hz,h1,h2,hid,Ae x (dn:=dn) (by omega),Amm hlt]
  intro _ _
  refine AX (σi:=σ) (σo:=σ) (hg x hx) (fun _ _ h=>h) ?_
  rw[B5]
  simp only[push_cast,seval,rq,hz,h1,h2,hid,Ae x (dn:=dn) (by omega),Amm hlt]
  intro _
  ((first|apply Ai|apply Am|apply Al)<;>intro hp)<;>simp only[push_cast,seval,rq,hp,hz,h1,h2,hid,Ae x (dn:=dn) (by omega),Amm hlt]
  .intro _
   refine Aw ?_ (fun _ _ h=>h)
   rw[<-hd]
   simp[AV,hp,get]
  .intro _
   refine⟨_,_,Ab4 _,Ag.refl,dn++[x],rest,_,by simp[hz],rfl,?_,rfl⟩
   rw[<-hd]
   have hlo:=DQ p rest
   simp only[AV,hp,A0d]
   grind
theorem TV{f e:Nat}(g:Ao P f 19 (O3 e) gB=true) xs (v:Aa) id (e':Nat)(q:xs.length<2^62):Ak P O f [.arr id,.s v] [(id,.arr e' 1 (xs.map V.s))] (.i .i64 (AV (λx=>v==x) xs)) [(id,.arr e' 1 (xs.map V.s))]:=by
 generalize hS:AV (λx=>v==x) xs=S;refine Ac (vs:=[.i .i64 S]) g (by simp) (λ_ h=>h) λn0 u=>?_;simp only[push_cast,rq];intro _ _;refine Aj xs.length (Inv:=λm st=>∃dn rest n,xs=dn++rest/\m=rest.length/\(if AV (λx=>v==x) rest<0 then -1 else AV (λx=>v==x) rest+dn.length)=S/\st=⟨[(0,.arr id),(1,.s v),(7,.i .i64 xs.length),(8,.i .i64 dn.length)],[(id,.arr e' 1 (xs.map V.s))],n⟩) ⟨_,Ag.refl,[],_,_,rfl,rfl,?_,rfl⟩ ?_
 .have:=DQ (λx=>v==x) xs;rw[<-hS];simp;omega
 clear hS;rintro m _ ⟨dn,rest,n,p,rfl,j,rfl⟩;cases rest with
 | nil=>simp only[push_cast,rq,p];intro _ _;refine Aw ?_ (λ_ _ h=>h);rw[<-j];simp[AV,get]
 | cons x rest=>
  have w:=A9 p;have o:dn.length<(dn++x::rest).length:=by simp
  simp only[push_cast,rq,p,Amm o];intro _ _ _
  (apply AL<;>intro hp)<;>simp only[push_cast,rq,Ae x (dn:=dn) (by omega)]
  .intro _;refine Aw ?_ (λ_ _ h=>h);rw[<-j];simp[AV,hp,get]
  .intro _;refine⟨_,_,Ab4 _,Ag.refl,dn++[x],rest,_,by simp ,rfl,?_,rfl⟩;rw[<-j];have r:=DQ (λx=>v==x) rest;simp only[AV,hp,A0d];grind
theorem NP{f e sz:Nat}{ag}(j:Ao P f 19 (JA e sz ag) Rc=true) g first caps σ:Ak P O f [.nil,.fn g first caps] σ (.i .i64 (-1)) σ:=by refine Ac (vs:=[.i .i64 (-1)]) j (by simp) (λ_ h=>h) λn0 o=>?_;simp only[push_cast,rq];intro _ _;refine Aj 0 (Inv:=λm st=>∃n,st=⟨[(0,.nil),(1,.fn g first caps),(7,.i .i64 0),(8,.i .i64 0)],σ,n⟩) ⟨_,Ag.refl,_,rfl⟩ ?_;rintro m _ ⟨n,rfl⟩;simp only[push_cast,rq];intro _ _;exact Aw (by simp[get]) (λ_ _ h=>h)
theorem WE{f e:Nat}(g:Ao P f 19 (O3 e) gB=true)(v:Aa):Ak P O f [.nil,.s v] [] (.i .i64 (-1)) []:=by refine Ac (vs:=[.i .i64 (-1)]) g (by simp) (by simp) λn0 h=>?_;simp only[push_cast,rq];intro _ _;refine Aj 0 (Inv:=λm st=>∃n,st=⟨[(0,.nil),(1,.s v),(7,.i .i64 0),(8,.i .i64 0)],[],n⟩) ⟨_,Ag.refl,_,rfl⟩ ?_;rintro m _ ⟨n,rfl⟩;simp only[push_cast,rq];intro _ _;exact Kn
section
variable{P:Program}{O:World}{nt n:Nat}{Q:Exit→St→Prop}{env:BB}{σ:Aq}
def AfN(g:Nat):List I:=[⟨some 4,.mv (.c (.b false)),none,[]⟩]
def yT(g:Nat):IC:=.ops (AfN g) [0,1] []
theorem AvB{g}:aW P O nt (yT g) Q ⟨env,σ,n⟩=J P O n [0,1] Q (AfN g) env σ:=rfl
def Ahl(g:Nat):List I:=[⟨some 5,.mv (.t 0),none,[]⟩,
 ⟨some 6,.mv (.t 1),none,[]⟩,
 ⟨some 7,.calls g [(.t 5),(.t 6)],none,[]⟩,
 ⟨some 8,.bin .geq (.t 7) (.c (.i .i64 0)),none,[]⟩,
 ⟨some 4,.mv (.t 8),none,[]⟩]
def zU(g:Nat):IC:=.ops (Ahl g) [4] []
theorem Av5{g}:aW P O nt (zU g) Q ⟨env,σ,n⟩=J P O n [4] Q (Ahl g) env σ:=rfl
def AaU(g:Nat):IC:=.seq (zU g) .ret
theorem Awn{g}:aW P O nt (AaU g) Q ⟨env,σ,n⟩=aW P O nt (zU g) (PI P O nt .ret Q) ⟨env,σ,n⟩:=rfl
def Agc(g:Nat):IC:=.seq (yT g) (AaU g)
theorem Aw2{g}:aW P O nt (Agc g) Q ⟨env,σ,n⟩=aW P O nt (yT g) (PI P O nt (AaU g) Q) ⟨env,σ,n⟩:=rfl
def Awk:List R:=[.t 4]
attribute[push_cast]AfN AvB Ahl Av5 Awn Aw2
end
theorem J9{f g:Nat}(e:Ao P f 9 (Agc g) Awk=true) v w i σ (h:Ak P O g [v,w] σ (.i .i64 i) σ):Ak P O f [v,w] σ (.b (decide (i>=0))) σ:=by refine Ac (vs:=[.b (decide (i>=0))]) e (by simp) (λ_ h=>h) λn0 j=>?_;simp only[push_cast];intro _;refine AX (σi:=σ) (σo:=σ) h (λ_ _ h=>h) ?_;rw[B5];simp only[push_cast];intro _;exact Aw (by simp[get]) (λ_ _ h=>h)
end Go.Ir
end
namespace Go.Ir
open Go.Proofs
variable{P:Program}{O:World}{nt n:Nat}{Q:Exit→St→Prop}{env:BB}{σ:Aq}
def m4:IC:=sQ (.block 3 (oP [m1 21 3,m1 22 0,m1 23 4,iA 24 22 23 154 1,l1 25 24,m1 26 5,iA 27 25 26 158 4,fA 28 27 3,l1 29 28,nL 30 29,o1 31 (.bin .add (ci 1) (.t 30)),bT 32 .add 21 31,m1 3 32] [0,3,4,5])) (oP [m1 19 5,bZ 20 .add 19 1,m1 5 20] [0,3,4,5])
def vO:IC:=sQ (.block 1 (sQ (oS [mZ 5 0] [0,3,4,5] (.block 2 (.loop (sQ (oS [m1 12 5,m1 13 0,m1 14 4,iA 15 13 14 154 1,l1 16 15,nL 17 16,bT 18 .lss 12 17] [0,3,4,5,18] (cD 18 .skip (.exit 2))) m4)))) (oS [m1 33 3,bZ 34 .gtr 33 80] [0,3,4,34] (cD 34 (oR [mC 2 (.b false)] [2]) .skip)))) (oP [m1 10 4,bZ 11 .add 10 1,m1 4 11] [0,3,4])
def Agl:IC:=oS [mZ 3 0] [0,3] (sQ (oS [mZ 4 0] [0,3,4] (.block 0 (.loop (sQ (oS [m1 6 4,m1 7 0,nL 8 7,bT 9 .lss 6 8] [0,3,4,9] (cD 9 .skip (.exit 0))) vO)))) (oR [m1 35 0,nL 36 35,bZ 37 .leq 36 30,m1 2 37] [2]))
def AiP:IC:=oS [mC 2 (.b false)] [0] Agl
def AwA:List R:=[.t 2]
def A0C:=An m4.eq_1<|An vO.eq_1<|An Agl.eq_1<|AR AiP.eq_1
theorem ArD:Ao π 64 38 AiP AwA=true:=by kernel_rfl
attribute[push_cast]AwA A0C
end Go.Ir
section
namespace Go.Ir
open Go.Proofs
variable(O:World)
mutual
def Ad.solid:Ad->Bool
 | ⟨k,_,_,_,cs,ps⟩=>!AI k&&Da ps&&Ni cs
def Da:List Ad->Bool
 | []=>true
 | p::ps=>p.solid&&Da ps
def Ni:List (Aa×List Ad)->Bool
 | []=>true
 | (_,ps)::cs=>Da ps&&Ni cs
end
theorem Ad.solid_eq(p:Ad):p.solid=(!AI p.kind&&Da p.parts&&Ni p.cases):=by cases p;simp only[Ad.solid]
theorem Ss p ps:Da (p::ps)=(p.solid&&Da ps):=by simp only[Da]
end Go.Ir
end
namespace Go.Ir
open Go.Proofs
variable(O:World)
end Go.Ir
section
namespace Go.Ir
open Go.Proofs
variable(O:World)
mutual
def Ad.depth:Ad->Nat
 | ⟨_,_,_,_,cs,ps⟩=>max (max 1 (1+BK ps)) (Eu cs)
def BK:List Ad->Nat
 | []=>0
 | p::ps=>max p.depth (BK ps)
def Eu:List (Aa×List Ad)->Nat
 | []=>0
 | (_,ps)::cs=>max (1+BK ps) (Eu cs)
end
theorem Ad.depth_eq(p:Ad):p.depth=max (max 1 (1+BK p.parts)) (Eu p.cases):=by cases p;simp[Ad.depth]
theorem FG p ps:BK (p::ps)=max p.depth (BK ps):=by simp[BK]
theorem Ls(c:AD)(ps:List AD):Eu (c::ps)=max (1+BK c.2) (Eu ps):=by have ⟨k,q⟩:=c;simp[Eu]
theorem kL:(∀p:Ad,p.depth<=p.wt):=by
 have key:∀N:Nat,(∀ps:List Ad,A7 ps<N->BK ps<=A7 ps):=by
  intro N
  induction N with
  | zero=>intro ps h;omega
  | succ N i=>
   have g:∀cs:List AD,De cs<N->Eu cs<=De cs:=by
    intro cs
    induction cs with
    | nil=>intro _;simp[Eu]
    | cons c cs e=>intro h;rw[Bn] at h;rw[Ls,Bn];grind
   intro ps
   induction ps with
   | nil=>intro _;simp[BK]
   | cons p ps e=>intro h;rw[A5] at h;rw[FG,A5];have:=e (by omega);rw[p.wt_eq] at *;rw[p.depth_eq];grind
 intro p;have:=key _ [p] (Ab4 _);rw[FG,A5,C5] at this;omega
theorem O0 ps:BK ps<=A7 ps:=by
 induction ps with
 | nil=>simp[BK]
 | cons p ps e=>rw[FG,A5];have:=kL p;omega
theorem AcT:∀(N) (ps),A7 ps<N->A7 ps<=2^24->Ak π O 66 [.sl (ps.map Ad.enc)] [] (.i .i64 (BK ps)) []:=by
 intro N
 induction N with
 | zero=>intro ps h;omega
 | succ N y=>
 intro ps J L;generalize hS:(BK ps:Int)=S;refine Ac (vs:=[.i .i64 S]) AoC (by simp) (by simp) λn0 u=>?_;clear u;simp only[push_cast,rq];intros;have w:=El ps;refine Aj ps.length (Inv:=λm st=>∃dn rest n d,ps=dn++rest/\m=rest.length/\max d (BK rest:Int)=S/\0<=d/\st=⟨[(0,.sl (ps.map Ad.enc)),(3,.i .i64 d),(4,.i .i64 dn.length)],[],n⟩) ⟨_,Ag.refl,[],ps,_,0,rfl,rfl,by rw[<-hS];omega,by omega,rfl⟩ ?_;clear hS;rintro m _ ⟨dn,rest,n,d,o,rfl,q,j,rfl⟩;cases rest with
 | nil=>
  rw[BK] at q;simp only[push_cast,rq,o]
  repeat' (first|((apply AL<;>intro _h)<;>(simp only[push_cast,rq,_h];try (have _g:=_h;simp at _g)))|intro _)
  have:d=S:=by omega
  subst this
  all_goals (first|(refine Af ?_;simp[get]<;>(intros;omega);done)|(exact Gj;done)|skip)
 | cons p rest=>
  have B:=A9 o;have G:=Fd (ps:=ps) (p:=p) (by rw[o];simp);rw[p.wt_eq] at G;have E:=Er p.cases;have F:=O0 p.parts;rw[FG,p.depth_eq] at q;simp only[push_cast,rq,o];repeat' (first|(first|(apply AL<;>intro _h)|refine Ab (y p.parts (by omega) (by omega)) ?_)<;>(simp only[push_cast,rq];try (have _g:=_h;simp at _g))|intro _)
  have z:IntKind.i64.wrap (1+(BK p.parts:Int))=1+(BK p.parts:Int):=wrap64 (by omega) (by omega);simp only[z];have s:max (max (max (max d 1) (1+(BK p.parts:Int))) (Eu p.cases)) (BK rest)=S:=by omega
  refine Aj p.cases.length (Inv:=λm st=>∃r g n d,p.cases=r++g/\m=g.length/\max (max d (Eu g:Int)) (BK rest:Int)=S/\0<=d/\st=⟨[(0,.sl (ps.map Ad.enc)),(3,.i .i64 d),(4,.i .i64 dn.length),(5,.i .i64 r.length)],[],n⟩) ⟨_,Ag.refl,[],p.cases,_,_,rfl,rfl,s,by omega,by rw[o];rfl⟩ ?_;clear q s j d;rintro m _ ⟨r,g,n,d,e,rfl,q,j,rfl⟩;cases g with
  | nil=>rw[Eu] at q;simp only[push_cast,rq,o,Ae p (dn:=dn) (by omega),e];intros;exact⟨_,_,Ab4 _,Ag.refl,dn++[p],rest,_,d,by simp,rfl,by omega,j,rfl⟩
  | cons c g=>
   have H:=B7 (cs:=p.cases) (c:=c) (by simp[e]);have C:=A9 e;have D:=O0 c.2;rw[Ls] at q;have A:IntKind.i64.wrap (1+(BK c.2:Int))=1+(BK c.2:Int):=wrap64 (by omega) (by omega);simp only[push_cast,rq,o,e];repeat' (first|(first|(apply AL<;>intro _h)|refine Ab (y c.2 (by omega) (by omega)) ?_)<;>(simp only[push_cast,rq,Ae c (dn:=r) (by omega),A];try (have _g:=_h;simp at _g))|intro _)
   exact⟨_,_,Ab4 _,Ag.refl,r++[c],g,_,_,by simp ,rfl,by omega,by omega,rfl⟩
mutual
def Ad.size:Ad->Nat
 | ⟨_,t,_,_,cs,ps⟩=>1+BN ps+t.length / 20+Gs cs
def BN:List Ad->Nat
 | []=>0
 | p::ps=>p.size+BN ps
def Gs:List (Aa×List Ad)->Nat
 | []=>0
 | (_,ps)::cs=>1+BN ps+Gs cs
end
theorem Ad.size_eq(p:Ad):p.size=1+BN p.parts+p.text.length / 20+Gs p.cases:=by cases p;simp[Ad.size]
theorem Mp p ps:BN (p::ps)=p.size+BN ps:=by simp[BN]
theorem M8(c:AD)(ps:List AD):Gs (c::ps)=1+BN c.2+Gs ps:=by have ⟨k,q⟩:=c;simp[Gs]
theorem Ad4:∀N:Nat,(∀ps:List Ad,A7 ps<N->BN ps<=A7 ps):=by
 intro N
 induction N with
 | zero=>intro ps h;omega
 | succ N i=>
  have g:∀cs:List AD,De cs<N->Gs cs<=De cs:=by
   intro cs
   induction cs with
   | nil=>intro _;simp[Gs]
   | cons c cs e=>intro h;rw[Bn] at h;rw[M8,Bn];grind
  intro ps
  induction ps with
  | nil=>intro _;simp[BN]
  | cons p ps e=>intro h;rw[A5] at h;rw[Mp,A5];have:=e (by omega);rw[p.wt_eq] at *;rw[p.size_eq];grind
theorem L5 ps:BN ps<=A7 ps:=Ad4 _ ps (Ab4 _)
theorem Anw:∀(N) (ps),A7 ps<N->A7 ps<=2^24->Ak π O 67 [.sl (ps.map Ad.enc)] [] (.i .i64 (BN ps)) []:=by
 intro N
 induction N with
 | zero=>intro ps h;omega
 | succ N z=>
 intro ps U V;generalize hS:(BN ps:Int)=S;refine Ac (vs:=[.i .i64 S]) Aql (by simp) (by simp) λn0 u=>?_;clear u;simp only[push_cast,seval];intros;have y:=El ps;have T:=L5 ps;have E:S<=2^24:=by omega
 refine Aj ps.length (Inv:=λm st=>∃dn rest n d,ps=dn++rest/\m=rest.length/\d+(BN rest:Int)=S/\0<=d/\st=⟨[(0,.sl (ps.map Ad.enc)),(3,.i .i64 d),(4,.i .i64 dn.length)],[],n⟩) ⟨_,Ag.refl,[],ps,_,0,rfl,rfl,by rw[<-hS];omega,by omega,rfl⟩ ?_;clear hS;rintro m _ ⟨dn,rest,n,d,o,rfl,q,j,rfl⟩;cases rest with
 | nil=>
  rw[BN] at q;simp only[push_cast,seval,o]
  repeat' (first|((apply AL<;>intro _h)<;>(simp only[push_cast,seval,_h];try (have _g:=_h;simp at _g)))|intro _)
  have:d=S:=by omega
  subst this
  all_goals (first|(refine Af ?_;simp[get]<;>(intros;omega);done)|(exact Gj;done)|skip)
 | cons p rest=>
  have F:=A9 o;have M:=Fd (ps:=ps) (p:=p) (by rw[o];simp);rw[p.wt_eq] at M;have J:=Er p.cases;have L:=L5 p.parts;rw[Mp,p.size_eq] at q;simp only[push_cast,seval,o];repeat' (first|(first|(apply AL<;>intro _h)|refine Ab (z p.parts (by omega) (by omega)) ?_)<;>(simp only[push_cast,seval];try (have _g:=_h;simp at _g))|intro _)
  have e0:IntKind.i64.wrap ((p.text.length:Int).tdiv 20)=(p.text.length:Int) / 20:=by rw[Int.tdiv_eq_ediv_of_nonneg (by omega),wrap64 (by omega) (by omega)]
  have A:IntKind.i64.wrap (1+(BN p.parts:Int))=1+(BN p.parts:Int):=wrap64 (by omega) (by omega);have C:IntKind.i64.wrap (1+(BN p.parts:Int)+(p.text.length:Int) / 20)=1+(BN p.parts:Int)+(p.text.length:Int) / 20:=wrap64 (by omega) (by omega);have w:IntKind.i64.wrap (d+(1+(BN p.parts:Int)+(p.text.length:Int) / 20))=d+(1+(BN p.parts:Int)+(p.text.length:Int) / 20):=wrap64 (by omega) (by omega);simp only[e0,A,C,w];have s:d+(1+(BN p.parts:Int)+(p.text.length:Int) / 20)+Gs p.cases+BN rest=S:=by omega
  refine Aj p.cases.length (Inv:=λm st=>∃r g n d,p.cases=r++g/\m=g.length/\d+(Gs g:Int)+(BN rest:Int)=S/\0<=d/\st=⟨[(0,.sl (ps.map Ad.enc)),(3,.i .i64 d),(4,.i .i64 dn.length),(5,.i .i64 r.length)],[],n⟩) ⟨_,Ag.refl,[],p.cases,_,_,rfl,rfl,s,by omega,by rw[o];rfl⟩ ?_;clear q s j w d;rintro m _ ⟨r,g,n,d,e,rfl,q,j,rfl⟩;cases g with
  | nil=>rw[Gs] at q;simp only[push_cast,seval,o,Ae p (dn:=dn) (by omega),e];intros;exact⟨_,_,Ab4 _,Ag.refl,dn++[p],rest,_,d,by simp,rfl,by omega,j,rfl⟩
  | cons c g=>
   have R:=B7 (cs:=p.cases) (c:=c) (by simp[e]);have G:=A9 e;have H:=L5 c.2;rw[M8] at q;have B:IntKind.i64.wrap (1+(BN c.2:Int))=1+(BN c.2:Int):=wrap64 (by omega) (by omega);have D:IntKind.i64.wrap (d+(1+(BN c.2:Int)))=d+(1+(BN c.2:Int)):=wrap64 (by omega) (by omega);simp only[push_cast,seval,o,e];repeat' (first|(first|(apply AL<;>intro _h)|refine Ab (z c.2 (by omega) (by omega)) ?_)<;>(simp only[push_cast,seval,Ae c (dn:=r) (by omega),B,D];try (have _g:=_h;simp at _g))|intro _)
   exact⟨_,_,Ab4 _,Ag.refl,r++[c],g,_,_,by simp ,rfl,by omega,by omega,rfl⟩
def KA(ps:List Ad):Bool:=decide ((BK ps:Int)<=12)&&decide ((BN ps:Int)<=300)&&Dt ps
theorem Apt ps (e:A7 ps<=2^24):Ak π O 30 [.sl (ps.map Ad.enc)] [] (.b (KA ps)) []:=by
 refine Ac (vs:=[.b (KA ps)]) At2 (by simp) (by simp) λn0 g=>?_;clear g;simp only[push_cast,rq];repeat' (first|(first|(apply AL<;>intro _h)|refine Ab (AcT O _ ps (Ab4 _) e) ?_|refine Ab (Anw O _ ps (Ab4 _) e) ?_|refine Ab (a7 O _ ps (Ab4 _) e) ?_)<;>(simp only[push_cast,rq,_h];try (have _g:=_h;simp at _g))|intro _)
 all_goals (first|(refine Af ?_;simp[get,KA, *]<;>(intros;omega);done)|(refine Ah ?_;simp[push_cast,get,KA, *];done)|skip)
end Go.Ir
end
namespace Go.Ir
open Go.Proofs
variable(O:World)
end Go.Ir

namespace Go.Ir
structure Iv where
 lo:Int
 hi:Int
structure Hj where
 op:Int
 mod:Int
 neg:Bool
 spans:List Iv
structure A8 where
 cls:Aa
 cond:List (List Hj)
def Iv.enc(s:Iv):V:=.agg [.i .i64 s.lo,.i .i64 s.hi]
def Hj.enc(r:Hj):V:=.agg [.i .i64 r.op,.i .i64 r.mod,.b r.neg,.sl (r.spans.map Iv.enc)]
def Gv(l:List Hj):V:=.sl (l.map Hj.enc)
def A8.enc(r:A8):V:=.agg [.s r.cls,.sl (r.cond.map Gv)]
theorem Iv.enc_eq(s:Iv):s.enc=.agg [.i .i64 s.lo,.i .i64 s.hi]:=rfl
theorem Hj.enc_eq(r:Hj):r.enc=.agg [.i .i64 r.op,.i .i64 r.mod,.b r.neg,.sl (r.spans.map Iv.enc)]:=rfl
theorem Tg l:Gv l=.sl (l.map Hj.enc):=rfl
theorem A8.enc_eq(r:A8):r.enc=.agg [.s r.cls,.sl (r.cond.map Gv)]:=rfl
def Hj.wt(r:Hj):Nat:=1+r.spans.length
def Dy:List Hj->Nat
 | []=>1
 | r::e=>r.wt+Dy e
def E0:List (List Hj)->Nat
 | []=>0
 | r::e=>Dy r+E0 e
def A8.wt(r:A8):Nat:=1+r.cls.length+E0 r.cond
def Ax:List A8->Nat
 | []=>0
 | r::e=>r.wt+Ax e
theorem Ky{l r}(h:r∈l):r.wt<=Dy l:=by
 induction l with
 | nil=>cases h
 | cons d l e=>rw[Dy];grind
theorem Ke{l r}(h:r∈l):Dy r<=E0 l:=by
 induction l with
 | nil=>cases h
 | cons d l e=>rw[E0];grind
theorem GO{l r}(h:r∈l):r.wt<=Ax l:=by
 induction l with
 | nil=>cases h
 | cons d l e=>rw[Ax];grind
theorem Ge l:l.length<Dy l:=by
 induction l with
 | nil=>simp[Dy]
 | cons d l e=>rw[Dy,An9,Hj.wt];omega
theorem Kx l:l.length<=E0 l:=by
 induction l with
 | nil=>simp
 | cons d l e=>rw[E0,An9];have:=Ge d;omega
theorem G7 l:l.length<=Ax l:=by
 induction l with
 | nil=>simp
 | cons d l e=>rw[Ax,An9,A8.wt];omega
structure Jp where
 tag:Aa
 parent:Aa
 dir:Aa
 card:List A8
 ord:List A8
 rest:List V
def Jp.enc(l:Jp):V:=.agg (.s l.tag :: .s l.parent :: .s l.dir :: .sl (l.card.map A8.enc) :: .sl (l.ord.map A8.enc)::l.rest)
theorem Jp.enc_eq(l:Jp):l.enc=.agg (.s l.tag :: .s l.parent :: .s l.dir :: .sl (l.card.map A8.enc) :: .sl (l.ord.map A8.enc)::l.rest):=rfl
attribute[push_cast]Iv.enc_eq Hj.enc_eq Tg A8.enc_eq Jp.enc_eq
end Go.Ir
section
namespace Go.Ir
structure Ed where
 style:Aa
 two:Aa
 start:Aa
 mid:Aa
 fin:Aa
structure Fv where
 unit:Aa
 cls:Aa
 pat:Aa
structure E4 where
 skel:Aa
 pat:Aa
structure Du where
 tag:Aa
 parent:Aa
 dir:Aa
 card:List A8
 ord:List A8
 dec:Aa
 grp:Aa
 minus:Aa
 perc:Aa
 prim:Int
 sec:Int
 lists:List Ed
 units:List Fv
 dates:List E4
 months:List Aa
 days:List Aa
def Ed.enc(x:Ed):V:=.agg [.s x.style,.s x.two,.s x.start,.s x.mid,.s x.fin]
def Fv.enc(x:Fv):V:=.agg [.s x.unit,.s x.cls,.s x.pat]
def E4.enc(x:E4):V:=.agg [.s x.skel,.s x.pat]
theorem Ed.enc_eq(x:Ed):x.enc=.agg [.s x.style,.s x.two,.s x.start,.s x.mid,.s x.fin]:=rfl
theorem Fv.enc_eq(x:Fv):x.enc=.agg [.s x.unit,.s x.cls,.s x.pat]:=rfl
theorem E4.enc_eq(x:E4):x.enc=.agg [.s x.skel,.s x.pat]:=rfl
def Du.enc(l:Du):V:=.agg [.s l.tag,.s l.parent,.s l.dir,.sl (l.card.map A8.enc),.sl (l.ord.map A8.enc),.s l.dec,.s l.grp,.s l.minus,.s l.perc,.i .i64 l.prim,.i .i64 l.sec,.sl (l.lists.map Ed.enc),.sl (l.units.map Fv.enc),.sl (l.dates.map E4.enc),.sl (l.months.map V.s),.sl (l.days.map V.s)]
theorem Du.enc_eq(l:Du):l.enc=.agg [.s l.tag,.s l.parent,.s l.dir,.sl (l.card.map A8.enc),.sl (l.ord.map A8.enc),.s l.dec,.s l.grp,.s l.minus,.s l.perc,.i .i64 l.prim,.i .i64 l.sec,.sl (l.lists.map Ed.enc),.sl (l.units.map Fv.enc),.sl (l.dates.map E4.enc),.sl (l.months.map V.s),.sl (l.days.map V.s)]:=rfl
def Du.loc(l:Du):Jp:=⟨l.tag,l.parent,l.dir,l.card,l.ord,[.s l.dec,.s l.grp,.s l.minus,.s l.perc,.i .i64 l.prim,.i .i64 l.sec,.sl (l.lists.map Ed.enc),.sl (l.units.map Fv.enc),.sl (l.dates.map E4.enc),.sl (l.months.map V.s),.sl (l.days.map V.s)]⟩
theorem Du.loc_enc(l:Du):l.loc.enc=l.enc:=rfl
def Ed.wt(x:Ed):Nat:=1+x.style.length+x.two.length+x.start.length+x.mid.length+x.fin.length
def Fv.wt(x:Fv):Nat:=1+x.unit.length+x.cls.length+x.pat.length
def E4.wt(x:E4):Nat:=1+x.skel.length+x.pat.length
def BT{α:Type}(f:α->Nat):List α->Nat
 | []=>0
 | x::l=>f x+BT f l
theorem Gk{α f}(e:∀x,1<=f x)(l:List α):l.length<=BT f l:=by
 induction l with
 | nil=>simp
 | cons d l g=>rw[BT,An9];have:=e d;omega
def swt(s:Aa):Nat:=1+s.length
def Du.wt(l:Du):Nat:=1+l.tag.length+l.parent.length+l.dir.length+Ax l.card+Ax l.ord+l.dec.length+l.grp.length+l.minus.length+l.perc.length+BT Ed.wt l.lists+BT Fv.wt l.units+BT E4.wt l.dates+BT swt l.months+BT swt l.days
attribute[push_cast]Ed.enc_eq Fv.enc_eq E4.enc_eq Du.enc_eq
mutual
def Ad.bare:Ad->Bool
 | ⟨k,_,_,_,_,ps⟩=>(k==1||k==11)&&pY ps
def pY:List Ad->Bool
 | []=>true
 | p::ps=>p.bare&&pY ps
end
mutual
def Ad.out:Ad->Aa
 | ⟨k,t,e,_,_,ps⟩=>if k==1 then t else([60]++e++[62])++Ag1 ps++([60,47]++e++[62])
def Ag1:List Ad->Aa
 | []=>[]
 | p::ps=>p.out++Ag1 ps
end
end Go.Ir
end
namespace Go.Ir
def CG(s:Aa):Bool:=s.all λc=>!(decide (c<48)||decide (c>57))
def E9(s:Aa):Bool:=s.all λc=>c==48
def Lw(s:Aa):Bool:=match s with
 | 45::_=>true
 | _=>false
def IM(s:Aa):Aa:=if Lw s then s.tail else s
def Bb(s:Aa):Aa:=(IM s).takeWhile (· != 46)
def Sq(s:Aa):Aa:=(IM s).dropWhile (· != 46)
def BC(s:Aa):Aa:=(Sq s).tail
def AaF(s:Aa):Bool:=match s[0]? with
 | some c=>(c.toNat:Int)==48
 | none=>false
def E6(s:Aa):Bool:=
 !(decide (((Bb s).length:Int)<1)||decide (((Bb s).length:Int)>15)||!CG (Bb s)||decide (((Bb s).length:Int)>1)&&AaF (Bb s))
  && !((!(Sq s).isEmpty&&((BC s).length:Int)==0)||decide (((BC s).length:Int)>6)||!CG (BC s))&&(!Lw s||!(E9 (Bb s)&&E9 (BC s)))
theorem K4 s:IM s=Bb s++Sq s:=(List.takeWhile_append_dropWhile).symm
theorem Ur s:(IM s).length<=s.length:=by unfold IM;split<;>simp
theorem Mi s:(Bb s).length<=s.length:=by have:=Ur s;rw[K4,Ajd] at this;omega
theorem Uk s:(Bb s).length+(BC s).length<=s.length:=by have:=Ur s;rw[K4,Ajd] at this;unfold BC;grind
theorem AdM{w t:Aa}{c}(h:∀x∈w,(x !=c)=true):Lib.indexByte (w++c::t) c=w.length:=by
 induction w with
 | nil=>simp[Lib.indexByte]
 | cons x w g=>have i:=h x (by simp);have:=g (λy e=>h y (by simp[e]));simp only[AvC,Lib.indexByte,this];grind
theorem kV{w:Aa}{c}(h:∀x∈w,(x !=c)=true):Lib.indexByte w c=-1:=by
 induction w with
 | nil=>simp[Lib.indexByte]
 | cons x w g=>have i:=h x (by simp);have:=g (λy e=>h y (by simp[e]));simp only[Lib.indexByte,this];grind
theorem Pv{α:Type}{p}(l:List α):∀x∈l.takeWhile p,p x=true:=by intro x e;exact Ao8.1 List.all_takeWhile x e
theorem IG{α:Type}{p}{l t:List α}{c}(h:l.dropWhile p=c::t):p c=false:=by
 induction l with
 | nil=>simp at h
 | cons x l e=>rw[List.dropWhile_cons] at h;grind
theorem yW{α:Type}{p}{w r:List α}(h:∀x∈w,p x=true)(e:∀x∈r.head?,p x=false):(w++r).takeWhile p=w/\(w++r).dropWhile p=r:=by
 induction w with
 | nil=>
  cases r with
  | nil=>simp
  | cons x r=>simp_all
 | cons x w g=>simp_all
def Arr(d:Nat)(c:UInt8):Nat:=10*d+(c.toNat-48)
def NA(d:Nat)(s:Aa):Nat:=s.foldl Arr d
theorem zR d:NA d []=d:=rfl
theorem PX d c (s:Aa):NA d (c::s)=NA (10*d+(c.toNat-48)) s:=AyT ..
theorem Tf s:∀d,CG s=true->Lib.decFrom d s=some (NA d s):=by
 induction s with
 | nil=>intro d _;rw[zR,Lib.decFrom]
 | cons c s i=>
  intro d h;simp only[CG,A1D,AaS] at h;have e:=h.1;simp[UInt8.lt_iff_toNat_lt] at e;have g:Lib.digitVal c=some (c.toNat-48):=by unfold Lib.digitVal;simp;omega
  rw[Lib.decFrom,g];simp only[PX];rw[Nat.mul_comm 10 d];exact i _ h.2
theorem pZ s (h:CG s=true):Lib.atoi (48::s)=some (NA 0 s:Int):=by have:=Tf (48::s) 0 (by simpa[CG] using h);simp[Lib.atoi,Lib.decNat,this,PX]
def K9(s:Aa):Aa:=Lib.trimRightS s [48]
theorem Ha{α:Type}{p}{l:List α}:l.dropWhile p=[]↔∀x∈l,p x=true:=by
 induction l with
 | nil=>simp
 | cons x l e=>rw[List.dropWhile_cons];grind
theorem Qq(s cs:Aa):(Lib.trimS s cs==[])=s.all (λc=>cs.contains c):=by
 rcases Ay8 (s.all (λc=>cs.contains c)) with h|h
 .rw[h];have:s.reverse.dropWhile (λc=>cs.contains c)=[]:=by rw[Ha];grind
  unfold Lib.trimS Lib.trimLeftS Lib.trimRightS;rw[this];rfl
 .rw[h];rw[List.all_eq_false] at h;have ⟨x,hx,hp⟩:=h;rw[A1s];intro e;unfold Lib.trimS Lib.trimLeftS Lib.trimRightS at e;rw[Ha] at e;cases g:s.reverse.dropWhile (λc=>cs.contains c) with
  | nil=>rw[Ha] at g;grind
  | cons d t=>have i:=IG g;grind
theorem SC(s:Aa):(Lib.trimS s [48,49,50,51,52,53,54,55,56,57]==[])=CG s:=by rw[Qq];unfold CG;congr 1;funext c;rw[Aym];simp[UInt8.lt_iff_toNat_lt,<-A1y];omega
theorem Vs(s:Aa):(Lib.trimS s [48]==[])=E9 s:=by rw[Qq];unfold E9;grind
theorem EZ(s:Aa):Lib.hasPrefix s [45]=Lw s:=by
 unfold Lib.hasPrefix Lw;split
 .simp 
 .rename_i h;cases s with
  | nil=>simp 
  | cons c s=>simp only[List.isPrefixOf,A0e,A1s];intro e;exact h s (by rw[<-e])
theorem FY(s:Aa):Lib.trimPrefix s [45]=IM s:=by unfold Lib.trimPrefix IM;rw[EZ];split<;>simp
theorem mF s:∀x∈(Sq s).head?,(x !=46)=false:=by
 intro x e;cases h:Sq s with
 | nil=>rw[h] at e;simp at e
 | cons c t=>rw[h] at e;simp at e;subst e;exact IG (p:=(· != 46)) h
theorem RL{s}(h:CG s=true):CG (K9 s)=true:=by unfold CG at *;rw[Ao8] at *;intro x e;refine h x ?_;unfold K9 Lib.trimRightS at e;have:=(A1e (l:=s.reverse) (λc=>List.contains [48] c)).mem (by simpa using e);simpa using this
theorem uI s:(K9 s).length<=s.length:=by unfold K9 Lib.trimRightS;rw[A2k];exact AoW (A1e _).length_le (by simp)
def opV(s:Aa)(e:Int):Int×Int:=
 if E6 s then
  if e=1 then(if K9 (BC s)==[] then(NA 0 (Bb s),0) else(0,8))
  else if e=2 then(NA 0 (Bb s),0)
  else if e=3 then((BC s).length,0)
  else if e=4 then((K9 (BC s)).length,0)
  else if e=5 then(NA 0 (BC s),0)
  else if e=6 then(NA 0 (K9 (BC s)),0)
  else(0,1)
 else(0,1)
theorem HZ{s}(h:E6 s=true):CG (Bb s)=true/\CG (BC s)=true/\(Bb s).length<=15/\(BC s).length<=6:=by unfold E6 at h;grind
abbrev HI:=List (Aa×Int)
def B0:HI->Aa->Option Int
 | [],_=>none
 | e::m,n=>if e.1==n then some e.2 else B0 m n
def HA:HI->Aa->Int->HI
 | [],n,k=>[(n,k)]
 | e::m,n,k=>if e.1==n then(e.1,k)::m else e::HA m n k
def Jk(e:Bool)(w f:Aa):Aa:=
 if e&&!(E9 w&&E9 f) then 45::(if f==[] then w else w++46::f) else(if f==[] then w else w++46::f)
def GL(e:Bool)(w f:Aa):Aa×Int:=if decide ((w.length:Int)>15)||decide ((f.length:Int)>6) then([],2) else(Jk e w f,0)
def Fk(w:Aa):Aa:=if Lib.trimLeftS w [48]==[] then[48] else Lib.trimLeftS w [48]
def DW(s:Aa):Aa×Int:=if E6 s then GL (Lw s) (Fk (Bb s++(BC s++[48,48]).take 2)) ((BC s).drop (min 2 (BC s).length)) else([],1)
def MF:List UInt8->List UInt8
 | []=>[49]
 | c::r=>if c==57 then 48::MF r else(c+1)::r
def J6(s:Aa):Aa:=(MF s.reverse).reverse
def Af7:Aa->Bool
 | c::_=>decide ((c.toNat:Int)>=53)
 | []=>false
def DY(s:Aa):Aa×Int:=if E6 s then GL (Lw s) (if BC s==[] then Bb s else if Af7 (BC s) then J6 (Bb s) else Bb s) [] else([],1)
def BD(e:Nat):Nat->Aa->List Aa
 | 0,_=>[]
 | n+1,r=>if r==[] then[] else r.drop (r.length-e)::BD e n (r.take (r.length-e))
def JO(e g:Int)(h d:Aa):Aa:=
 if decide (e<1)||decide ((d.length:Int)<=e) then d
 else Lib.join (d.drop (d.length-e.toNat)::BD (if g<1 then e else g).toNat d.length (d.take (d.length-e.toNat))).reverse h
def FX(L:Du)(n:Aa):Aa:=
 let a:=JO L.prim L.sec L.grp (Bb n);let b:=if(Sq n).isEmpty then a else a++(L.dec++BC n)
 if Lw n then L.minus++b else b
def N9:Aa:=[105,110,116,101,103,101,114]
def Ob:Aa:=[112,101,114,99,101,110,116]
def Dc(L:Du)(n st:Aa):Aa×Int:=
 if !E6 n||(!(st==[])&&!(st==N9)&&!(st==Ob)) then([],1)
 else if L.dec==[] then([],18)
 else if st==N9 then(if(DY n).2==0 then(FX L (DY n).1,0) else([],(DY n).2))
 else if st==Ob then(if(DW n).2==0 then(FX L (DW n).1++L.perc,0) else([],(DW n).2))
 else(FX L n,0)
def Gg:List Aa:=[[121],[77],[77,77],[77,77,77],[69],[100],[100,100]]
def GP(s:Aa):Bool:=Gg.contains s
def Di:List Aa->Aa->List Aa->Option (List Aa)
 | [],rest,out=>if !(rest==[])||out.length==0 then none else some out
 | k::e,rest,out=>
  if rest.take (rest.length-(Lib.trimLeftS rest k).length)==[] then Di e rest out
  else if GP (rest.take (rest.length-(Lib.trimLeftS rest k).length)) then Di e (Lib.trimLeftS rest k) (out++[rest.take (rest.length-(Lib.trimLeftS rest k).length)]) else none
def DH:List Aa:=[[121],[77],[69],[100]]
def CW(s:Aa):Option (List Aa):=Di DH s []
def Bq:Aa:=[65,66,67,68,69,70,71,72,73,74,75,76,77,78,79,80,81,82,83,84,85,86,87,88,89,90,97,98,99,100,101,102,103,104,105,106,107,108,109,110,111,112,113,114,115,116,117,118,119,120,121,122]
def Dq:Nat->Aa->List Aa->Option (List Aa)
 | 0,_,_=>none
 | n+1,p,out=>if p==[] then some out
  else if p.take (p.length-(Lib.trimLeftS p Bq).length)==[] then Dq n (p.drop 1) out
  else if GP (p.take (p.length-(Lib.trimLeftS p Bq).length)) then Dq n (Lib.trimLeftS p Bq) (out++[p.take (p.length-(Lib.trimLeftS p Bq).length)]) else none
def I8(p:Aa):Option (List Aa):=Dq (p.length+1) p []
def M9(l:List Aa):List Aa:=l.mergeSort λx y=>decide (x<=y)
def HO(l:List Aa):Aa×Bool:=(Lib.join (Lib.compact (M9 (l.map λf=>f.take 1))) [],(Lib.compact (M9 (l.map λf=>f.take 1))).length==l.length)
def EB(e p:Aa):Bool:=match CW e,I8 p with
 | some w,some g=>!(g.length==0)&&((HO g).2&&(HO w).1==(HO g).1)
 | _,_=>false
def Bi(i:Nat):Aa:=123::(Lib.decDigits i++[125])
def GX(s:Aa):Bool:=s.any λc=>c==123||c==125
def UJ:Nat->Nat->Aa->Bool
 | 0,_,s=>!GX s
 | k+1,i,s=>if Lib.count s (Bi i)==1 then UJ k (i+1) (Lib.replace s (Bi i) [0] 1) else false
def R8(s:Aa)(n:Nat):Bool:=UJ n 0 s
def Ln(y:Int):Bool:=(y.tmod 4==0&&y.tmod 100 !=0)||y.tmod 400==0
def ED(y:Int):Int:=if Ln y then 366 else 365
def AdL:List Int:=[31,28,31,30,31,30,31,31,30,31,30,31]
def J0(y:Int)(m:Nat):Int:=if m==2&&Ln y then 29 else AdL.getD (m-1) 0
def Hx:Nat->Int->Int->Int×Int
 | 0,y,d=>(y,d)
 | n+1,y,d=>if d>=ED y then Hx n (y+1) (d-ED y) else(y,d)
def Pu(y:Int):Nat->Nat->Int->Nat×Int
 | 0,m,d=>(m,d)
 | n+1,m,d=>if d>=J0 y m then Pu y n (m+1) (d-J0 y m) else(m,d)
def EH(d:Int):Bool:=!(decide (d < -25567)||decide (d>84005))
def IY(d:Int):Int×Int:=Hx (d+25567).toNat 1900 (d+25567)
def GR(d:Int):Nat×Int:=Pu (IY d).1 12 1 (IY d).2
def JX(n:Nat):Aa:=if n<10 then 48::Lib.decDigits n else Lib.decDigits n
def En(d:Int):Aa:=if EH d then Lib.decDigits (IY d).1.toNat++[45]++JX (GR d).1++[45]++JX ((GR d).2+1).toNat else[]
def Gn(l:List Aa):HI:=l.foldl (λm f=>HA m (f.take 1) f.length) []
def M3(a b:HI):Int×Bool:=if a.all (λe=>(B0 b e.1).isSome) then((a.map λe=>max (e.2-(B0 b e.1).getD 0) ((B0 b e.1).getD 0-e.2)).sum,(a.length:Int)==(b.length:Int)) else(0,false)
def DR(e:HI):List E4->Int->Int->Int->Int
 | [],_,g,_=>g
 | p::ps,i,g,h=>match CW p.skel with
  | none=>DR e ps (i+1) g h
  | some l=>if(M3 e (Gn l)).2&&(decide (g<0)||decide ((M3 e (Gn l)).1<h)) then DR e ps (i+1) i (M3 e (Gn l)).1 else DR e ps (i+1) g h
def Fj(l:List E4)(e:Aa):Int×Int:=match CW e with
 | none=>(0,3)
 | some w=>if DR (Gn w) l 0 (-1) 0<0 then(0,8) else(DR (Gn w) l 0 (-1) 0,0)
def cM(p:Aa):Bool:=[[],[121]].any λy=>[[],[77]].any λm=>[[],[69]].any λe=>[[],[100]].any λd=>EB (y++m++e++d) p
def EL(c:UInt8):Bool:=(decide ((c.toNat:Int)>=65)&&decide ((c.toNat:Int)<=90))||(decide ((c.toNat:Int)>=97)&&decide ((c.toNat:Int)<=122))
structure Vu where
 L:Du
 y:Nat
 m:Nat
 d:Nat
 wd:Nat
def GY(x:Vu)(f:Aa):Aa×Int:=
 if f==[121] then(Lib.decDigits x.y,0) else if f==[77] then(Lib.decDigits x.m,0) else if f==[77,77] then(JX x.m,0)
 else if f==[77,77,77] then(if(x.L.months.length:Int) !=12 then([],18) else(x.L.months.getD (x.m-1) [],0))
 else if f==[69] then(if(x.L.days.length:Int) !=7 then([],18) else(x.L.days.getD x.wd [],0))
 else if f==[100] then(Lib.decDigits x.d,0) else(JX x.d,0)
def C4(x:Vu):Nat->Aa->Aa->Aa×Int
 | 0,_,out=>(out,0)
 | n+1,p,out=>if p==[] then(out,0)
  else if(p.takeWhile EL).length==0 then C4 x n (p.drop 1) (out++p.take 1)
  else if(GY x (p.take (p.takeWhile EL).length)).2==0 then C4 x n (p.drop (p.takeWhile EL).length) (out++(GY x (p.take (p.takeWhile EL).length)).1)
  else([],(GY x (p.take (p.takeWhile EL).length)).2)
def Ka(x:Vu)(p:Aa):Aa×Int:=C4 x (p.length+1) p []
def My(L:Du)(d:Int):Vu:=⟨L,(IY d).1.toNat,(GR d).1,((GR d).2+1).toNat,((d+25567).tmod 7).toNat⟩
def FM(L:Du)(e:Aa)(d:Int):Aa×Int:=
 if EH d then
  if(Fj L.dates e).2==8 then([],18) else if(Fj L.dates e).2==0 then
   match L.dates[(Fj L.dates e).1.toNat]? with
   | some p=>if cM p.pat then Ka (My L d) p.pat else([],4)
   | none=>([],4)
  else([],(Fj L.dates e).2)
 else([],2)
def FE(p a b:Aa):Aa:=
 if(Lib.cut (Lib.cut p (Bi 0)).1 (Bi 1)).2.2 then(Lib.cut (Lib.cut p (Bi 0)).1 (Bi 1)).1++b++(Lib.cut (Lib.cut p (Bi 0)).1 (Bi 1)).2.1++a++(Lib.cut p (Bi 0)).2.1
 else(Lib.cut p (Bi 0)).1++a++(Lib.cut (Lib.cut p (Bi 0)).2.1 (Bi 1)).1++b++(Lib.cut (Lib.cut p (Bi 0)).2.1 (Bi 1)).2.1
def Ix(s:Aa):List Ed->Option Ed
 | []=>none
 | x::l=>if x.style==s then some x else Ix s l
def joinR(p:Ed):List Aa->Aa->Aa
 | [],rest=>rest
 | s::r,rest=>if(rest.length:Int)>20000 then rest else joinR p r (FE (if r.isEmpty then p.start else p.mid) s rest)
def Qm(p:Ed)(l:List Aa):Aa:=match l with
 | []=>[]
 | [a]=>a
 | [a,b]=>FE p.two a b
 | l=>joinR p (l.take (l.length-2)).reverse (FE p.fin (l.getD (l.length-2) []) (l.getD (l.length-1) []))
def lI(p:Ed):Bool:=[p.two,p.start,p.mid,p.fin].all λs=>R8 s 2
def GN(L:Du)(st:Aa)(l:List Aa):Aa×Int:=match Ix st L.lists with
 | none=>([],18)
 | some p=>if lI p then(if(l.length:Int)>1000 then([],6) else if((Qm p l).length:Int)>20000 then([],6) else(Qm p l,0)) else([],4)
def MC(u c:Aa):List Fv->Option Aa
 | []=>none
 | x::l=>if x.unit==u&&x.cls==c then some x.pat else MC u c l
def KH(L:Du)(u c:Aa):Option Aa:=match MC u c L.units with
 | some p=>some p
 | none=>MC u [111,116,104,101,114] L.units
end Go.Ir

namespace Go.Ir
open Go.Proofs
variable{P:Program}{O:World}{nt n:Nat}{Q:Exit→St→Prop}{env:BB}{σ:Aq}
def rC:IC:=sQ (.block 1 (oP [m1 11 3,m1 12 0,m1 13 4,iA 14 12 13 9 1,l1 15 14,nS 16 15,bZ 17 .add 16 30,bT 18 .add 11 17,m1 3 18] [0,3,4])) (oP [m1 9 4,bZ 10 .add 9 1,m1 4 10] [0,3,4])
def Agz:IC:=sQ (oS [mZ 4 0] [0,3,4] (.block 0 (.loop (sQ (oS [m1 5 4,m1 6 0,nL 7 6,bT 8 .lss 5 7] [0,3,4,8] (cD 8 .skip (.exit 0))) rC)))) (oR [m1 19 3,m1 2 19] [2])
def AgZ:IC:=oS [mZ 2 0] [0] (oS [mZ 3 0] [0,3] Agz)
def Avy:List R:=[.t 2]
def AzM:=An rC.eq_1<|An Agz.eq_1<|AR AgZ.eq_1
theorem Ars:Ao π 97 20 AgZ Avy=true:=by kernel_rfl
def xO:IC:=sQ (.block 3 (.ops [m1 69 3,fA 70 5 11,l1 71 70,m1 72 6,iA 73 71 72 193 5,fA 74 73 0,l1 75 74,fA 76 5 11,l1 77 76,m1 78 6,iA 79 77 78 193 5,fA 80 79 1,l1 81 80,fA 82 5 11,l1 83 82,m1 84 6,iA 85 83 84 193 5,fA 86 85 2,l1 87 86,fA 88 5 11,l1 89 88,m1 90 6,iA 91 89 90 193 5,fA 92 91 3,l1 93 92,fA 94 5 11,l1 95 94,m1 96 6,iA 97 95 96 193 5,fA 98 97 4,l1 99 98,o1 100 (.msl false 9 1 [.t 75,.t 81,.t 87,.t 93,.t 99]),q1 101 97 100,bT 102 .add 69 101,m1 3 102] [1,3,4,5,6] [[1,2],[2,4],[3,4],[4,5],[5,6],[7,8],[8,10],[9,10],[10,11],[11,12],[13,14],[14,16],[15,16],[16,17],[17,18],[19,20],[20,22],[21,22],[22,23],[23,24],[25,26],[26,28],[27,28],[28,29],[29,30],[6,31],[12,31],[18,31],[24,31],[30,31],[31,32],[0,33],[32,33],[0,34],[33,34]])) (oP [m1 67 6,bZ 68 .add 67 1,m1 6 68] [1,3,4,5,6])
def uJ:IC:=sQ (.block 5 (.ops [m1 110 3,fA 111 5 12,l1 112 111,m1 113 7,iA 114 112 113 195 3,fA 115 114 0,l1 116 115,fA 117 5 12,l1 118 117,m1 119 7,iA 120 118 119 195 3,fA 121 120 1,l1 122 121,fA 123 5 12,l1 124 123,m1 125 7,iA 126 124 125 195 3,fA 127 126 2,l1 128 127,o1 129 (.msl false 9 1 [.t 116,.t 122,.t 128]),q1 130 97 129,bT 131 .add 110 130,m1 3 131] [1,3,4,5,7] [[1,2],[2,4],[3,4],[4,5],[5,6],[7,8],[8,10],[9,10],[10,11],[11,12],[13,14],[14,16],[15,16],[16,17],[17,18],[6,19],[12,19],[18,19],[19,20],[0,21],[20,21],[0,22],[21,22]])) (oP [m1 108 7,bZ 109 .add 108 1,m1 7 109] [1,3,4,5,7])
def jE:IC:=sQ (.block 7 (.ops [m1 139 3,fA 140 5 13,l1 141 140,m1 142 8,iA 143 141 142 197 2,fA 144 143 0,l1 145 144,fA 146 5 13,l1 147 146,m1 148 8,iA 149 147 148 197 2,fA 150 149 1,l1 151 150,o1 152 (.msl false 9 1 [.t 145,.t 151]),q1 153 97 152,bT 154 .add 139 153,m1 3 154] [1,3,4,5,8] [[1,2],[2,4],[3,4],[4,5],[5,6],[7,8],[8,10],[9,10],[10,11],[11,12],[6,13],[12,13],[13,14],[0,15],[14,15],[0,16],[15,16]])) (oP [m1 137 8,bZ 138 .add 137 1,m1 8 138] [1,3,4,5,8])
def z6:IC:=sQ (oS [mZ 7 0] [1,3,4,5,7] (.block 4 (.loop (sQ (oS [m1 103 7,fA 104 5 12,l1 105 104,nL 106 105,bT 107 .lss 103 106] [1,3,4,5,7,107] (cD 107 .skip (.exit 4))) uJ)))) (oS [mZ 8 0] [1,3,4,5,8] (.block 6 (.loop (sQ (oS [m1 132 8,fA 133 5 13,l1 134 133,nL 135 134,bT 136 .lss 132 135] [1,3,4,5,8,136] (cD 136 .skip (.exit 6))) jE))))
def uR:IC:=sQ (.ops [m1 23 3,fA 24 5 0,l1 25 24,fA 26 5 1,l1 27 26,fA 28 5 2,l1 29 28,fA 30 5 5,fA 31 30 0,l1 32 31,fA 33 5 5,fA 34 33 1,l1 35 34,fA 36 5 5,fA 37 36 2,l1 38 37,fA 39 5 5,fA 40 39 3,l1 41 40,o1 42 (.msl false 9 1 [.t 25,.t 27,.t 29,.t 32,.t 35,.t 38,.t 41]),q1 43 97 42,fA 44 5 14,l1 45 44,q1 46 97 45,bT 47 .add 43 46,fA 48 5 15,l1 49 48,q1 50 97 49,bT 51 .add 47 50,fA 52 5 3,l1 53 52,nL 54 53,fA 55 5 4,l1 56 55,nL 57 56,bT 58 .add 54 57,o1 59 (.bin .mul (ci 100) (.t 58)),bT 60 .add 51 59,bT 61 .add 23 60,m1 3 61] [1,3,4,5] [[1,2],[3,4],[5,6],[7,8],[8,9],[10,11],[11,12],[13,14],[14,15],[16,17],[17,18],[2,19],[4,19],[6,19],[9,19],[12,19],[15,19],[18,19],[19,20],[21,22],[22,23],[20,24],[23,24],[25,26],[26,27],[24,28],[27,28],[29,30],[30,31],[32,33],[33,34],[31,35],[34,35],[35,36],[28,37],[36,37],[0,38],[37,38],[0,39],[38,39]]) (sQ (oS [mZ 6 0] [1,3,4,5,6] (.block 2 (.loop (sQ (oS [m1 62 6,fA 63 5 11,l1 64 63,nL 65 64,bT 66 .lss 62 65] [1,3,4,5,6,66] (cD 66 .skip (.exit 2))) xO)))) z6)
def w9:IC:=sQ (.block 1 (oS [fA 18 1 0,l1 19 18,m1 20 4,iA 21 19 20 30 16,lA 22 21 16,o1 5 (.alloc (.agg [.s [],.s [],.s [],.nil,.nil,.s [],.s [],.s [],.s [],.i .i64 0,.i .i64 0,.nil,.nil,.nil,.nil,.nil])),sT 5 22 16] [1,3,4,5] uR)) (oP [m1 16 4,bZ 17 .add 16 1,m1 4 17] [1,3,4])
def sA:IC:=sQ (.block 9 (.ops [m1 162 3,fA 163 1 1,l1 164 163,m1 165 9,iA 166 164 165 199 2,fA 167 166 0,l1 168 167,fA 169 1 1,l1 170 169,m1 171 9,iA 172 170 171 199 2,fA 173 172 1,l1 174 173,o1 175 (.msl false 9 1 [.t 168,.t 174]),q1 176 97 175,bT 177 .add 162 176,m1 3 177] [1,3,9] [[1,2],[2,4],[3,4],[4,5],[5,6],[7,8],[8,10],[9,10],[10,11],[11,12],[6,13],[12,13],[13,14],[0,15],[14,15],[0,16],[15,16]])) (oP [m1 160 9,bZ 161 .add 160 1,m1 9 161] [1,3,9])
def yO:IC:=sQ (.block 11 (.ops [m1 185 3,fA 186 1 2,l1 187 186,m1 188 10,iA 189 187 188 201 3,fA 190 189 0,l1 191 190,fA 192 1 2,l1 193 192,m1 194 10,iA 195 193 194 201 3,fA 196 195 1,l1 197 196,o1 198 (.msl false 9 1 [.t 191,.t 197]),q1 199 97 198,bT 200 .add 185 199,m1 3 200] [1,3,10] [[1,2],[2,4],[3,4],[4,5],[5,6],[7,8],[8,10],[9,10],[10,11],[11,12],[6,13],[12,13],[13,14],[0,15],[14,15],[0,16],[15,16]])) (oP [m1 183 10,bZ 184 .add 183 1,m1 10 184] [1,3,10])
def AaL:IC:=sQ (oS [mZ 10 0] [1,3,10] (.block 10 (.loop (sQ (oS [m1 178 10,fA 179 1 2,l1 180 179,nL 181 180,bT 182 .lss 178 181] [1,3,10,182] (cD 182 .skip (.exit 10))) yO)))) (oR [m1 201 3,m1 2 201] [2])
def AfD:IC:=sQ (oS [mZ 4 0] [1,3,4] (.block 0 (.loop (sQ (oS [m1 11 4,fA 12 1 0,l1 13 12,nL 14 13,bT 15 .lss 11 14] [1,3,4,15] (cD 15 .skip (.exit 0))) w9)))) (sQ (oS [mZ 9 0] [1,3,9] (.block 8 (.loop (sQ (oS [m1 155 9,fA 156 1 1,l1 157 156,nL 158 157,bT 159 .lss 155 158] [1,3,9,159] (cD 159 .skip (.exit 8))) sA)))) AaL)
def Af8:IC:=oS [bX 1 0,mZ 2 0] [1] (oS [mZ 3 0] [1,3] AfD)
def AwM:List R:=[.t 2]
def A0S:=An xO.eq_1<|An uJ.eq_1<|An jE.eq_1<|An z6.eq_1<|An uR.eq_1<|An w9.eq_1<|An sA.eq_1<|An yO.eq_1<|An AaL.eq_1<|An AfD.eq_1<|AR Af8.eq_1
theorem Ar3:Ao π 65 202 Af8 AwM=true:=by kernel_rfl
def sN:IC:=sQ (.block 3 (sQ (.ops [o1 70 (.msl true 113 2 []),fA 71 4 3,l1 72 71,o1 73 (.app (.t 70) (.t 72) 113 2),fA 74 4 4,⟨some 75,.load (.t 74) 1 false,none,[.t 70]⟩,o1 76 (.app (.t 73) (.t 75) 113 2),m1 77 5,iA 78 76 77 113 2,lA 79 78 2,o1 6 (.alloc (.agg [.s [],.nil])),sT 6 79 2] [1,3,4,5,6] [[1,2],[0,3],[2,3],[4,5],[2,3,6],[3,6],[5,6],[3,6,8],[6,8],[7,8],[3,6,8,9],[6,8,9],[8,9],[2,11],[3,11],[5,11],[6,11],[8,11],[9,11],[10,11]]) (oS [fA 80 6 1,l1 81 80,q1 82 64 81,nT 83 82] [1,3,4,5,83] (cD 83 (oR [mC 2 (.b false)] [2]) .skip)))) (oP [m1 68 5,bZ 69 .add 68 1,m1 5 69] [1,3,4,5])
def nM:IC:=sQ (oS [m1 59 5,fA 60 4 3,l1 61 60,nL 62 61,fA 63 4 4,l1 64 63,nL 65 64,bT 66 .add 62 65,bT 67 .lss 59 66] [1,3,4,5,67] (cD 67 .skip (.exit 2))) sN
def xY:IC:=sQ (oS [fA 19 4 3,l1 20 19,nL 21 20,bZ 22 .gtr 21 12,m1 23 22,E5 24 23 4 4,Eh 25 23 24,gF 26 23 (.lenL (.t 25)),Fg 27 23 .gtr 26 12,pO 28 23 27,m1 29 28,E5 30 29 4 11,Eh 31 29 30,gF 32 29 (.lenL (.t 31)),Fg 33 29 .gtr 32 12,pO 34 29 33,m1 35 34,E5 36 35 4 12,Eh 37 35 36,gF 38 35 (.lenL (.t 37)),Fg 39 35 .gtr 38 110,pO 40 35 39,m1 41 40,E5 42 41 4 13,Eh 43 41 42,gF 44 41 (.lenL (.t 43)),Fg 45 41 .gtr 44 40,pO 46 41 45,m1 47 46,E5 48 47 4 14,Eh 49 47 48,gF 50 47 (.lenL (.t 49)),Fg 51 47 .gtr 50 20,pO 52 47 51,m1 53 52,E5 54 53 4 15,Eh 55 53 54,gF 56 53 (.lenL (.t 55)),Fg 57 53 .gtr 56 20,pO 58 53 57] [1,3,4,58] (cD 58 (oR [mC 2 (.b false)] [2]) .skip)) (oS [mZ 5 0] [1,3,4,5] (.block 2 (.loop nM)))
def zC:IC:=sQ (.block 1 (oS [fA 14 1 0,l1 15 14,m1 16 3,iA 17 15 16 30 16,lA 18 17 16,o1 4 (.alloc (.agg [.s [],.s [],.s [],.nil,.nil,.s [],.s [],.s [],.s [],.i .i64 0,.i .i64 0,.nil,.nil,.nil,.nil,.nil])),sT 4 18 16] [1,3,4] xY)) (oP [m1 12 3,bZ 13 .add 12 1,m1 3 13] [1,3])
def jO:IC:=oR [fA 84 1 0,l1 85 84,nL 86 85,bZ 87 .leq 86 62,m1 88 87,Fa 89 88 1 1,E3 90 88 89,gT 91 88 (.lenL (.t 90)),Gi 92 88 .leq 91 205,pA 93 88 92,m1 94 93,Fa 95 94 1 2,E3 96 94 95,gT 97 94 (.lenL (.t 96)),Gi 98 94 .leq 97 205,pA 99 94 98,m1 100 99,gT 101 100 (.load (.t 1) 3 true),gT 102 100 (.call 65 [.t 101]),Gi 103 100 .leq 102 40000,pA 104 100 103,m1 2 104] [2]
def AgB:IC:=oS [bX 1 0,mC 2 (.b false)] [1] (sQ (oS [mZ 3 0] [1,3] (.block 0 (.loop (sQ (oS [m1 7 3,fA 8 1 0,l1 9 8,nL 10 9,bT 11 .lss 7 10] [1,3,11] (cD 11 .skip (.exit 0))) zC)))) jO)
def Axm:List R:=[.t 2]
def AzV:=An sN.eq_1<|An nM.eq_1<|An xY.eq_1<|An zC.eq_1<|An jO.eq_1<|AR AgB.eq_1
theorem Ar8:Ao π 29 105 AgB Axm=true:=by kernel_rfl
def Ahe:IC:=oR [lA 7 3 16,o1 8 (.msl false 30 16 [.t 7]),o1 9 (.build [.nil,.nil,.nil] [(0,1,.t 8)]),q1 10 29 9,m1 11 10,BY 12 11 1,gT 13 11 (.call 30 [.t 12]),pA 14 11 13,m1 15 14,BY 16 15 2,gT 17 15 (.call 31 [.t 16]),pA 18 15 17,m1 6 18] [6]
def Agm:IC:=oS [bX 3 0,mC 6 (.b false)] [1,2,3] Ahe
def Ax9:List R:=[.t 6]
def A0O:=An Ahe.eq_1<|AR Agm.eq_1
theorem AqT:Ao π 13 19 Agm Ax9=true:=by kernel_rfl
def ApZ:IC:=oS [bX 1 0,mC 2 (.b false)] [1] (oR [fA 3 1 0,lA 4 3 16,fA 5 1 16,l1 6 5,fA 7 1 17,l1 8 7,q3 9 13 4 6 8,m1 2 9] [2])
def f5R:List R:=[.t 2]
def f5e:=AR ApZ.eq_1
theorem Axo:Ao π 5 10 ApZ f5R=true:=by kernel_rfl
def AfH:IC:=oR [fA 6 2 0,lA 7 6 16,m1 8 1,fA 9 2 17,l1 10 9,fA 11 2 18,l1 12 11,o1 13 (.call 26 [.t 7,.t 8,.t 10,.t 12]),xT 14 13 0,xT 15 13 1,m1 4 14,m1 5 15] [4,5]
def Agv:IC:=oS [bX 2 0,mC 4 (.s []),mZ 5 0] [1,2] AfH
def AwT:List R:=[.t 4,.t 5]
def AzR:=An AfH.eq_1<|AR Agv.eq_1
theorem AtI:Ao π 10 16 Agv AwT=true:=by kernel_rfl
def nA:IC:=oS [m1 9 0,nC 10 9,fA 11 10 0,o1 12 (.calls 153 [.t 11]),bZ 13 .gtr 12 20000] [0,13] (cD 13 (oP [m1 14 0,nC 15 14,fA 16 15 20,o0 (.store (.t 16) (ci 6) 1)] []) .skip)
def iS:IC:=sQ (.opx [m1 4 0,nC 5 4,fA 6 5 0,m1 7 1] [0,6,7] 8 152 [.t 6,.t 7] [] [0]) nA
def AqO:List R:=[]
def Ay0:=An nA.eq_1<|AR iS.eq_1
theorem AkD:Ao π 114 17 iS AqO=true:=by kernel_rfl
def vD:IC:=oS [m1 17 0,nC 18 17,fA 19 18 19,l1 20 19,m1 16 20] [0,1,16] (cD 16 (.opx [m1 21 0,m1 22 1,q1 23 154 22] [21,23] 24 114 [.t 21,.t 23] [] []) (.opx [m1 6 0,m1 7 1] [6,7] 8 114 [.t 6,.t 7] [] []))
def pI:IC:=.block 0 (oS [m1 10 2,bZ 11 .neq 10 0,m1 9 11] [0,1,2,9] (cD 9 (oP [m1 12 0,m1 13 2,nC 14 12,fA 15 14 20,sT 15 13 1] []) vD))
def ApJ:List R:=[]
def Aze:=An vD.eq_1<|AR pI.eq_1
theorem AnN:Ao π 115 25 pI ApJ=true:=by kernel_rfl
def oX:IC:=sQ (oS [m1 14 0,nC 15 14,fA 16 15 20,l1 17 16,bZ 18 .neq 17 0] [0,2,7,8,9,10,18] (cD 18 .ret .skip)) (.opx [m1 19 0,lA 20 7 6,m1 21 2] [0,2,8,9,10,19,20,21] 22 88 [.t 19,.t 20,.t 21] [] [0,2,8,9,10])
def Aja:IC:=sQ (.block 1 (oS [iA 12 8 10 96 6,lA 13 12 6,o1 7 (.alloc (.agg [.i .i64 0,.s [],.s [],.s [],.nil,.nil])),sT 7 13 6] [0,2,7,8,9,10] oX)) (oP [bZ 23 .add 10 1,m1 10 23] [0,2,8,9,10])
def AiN:IC:=oS [m1 8 1,nL 9 8,mZ 10 0] [0,2,8,9,10] (.block 0 (.loop (oS [bT 11 .lss 10 9] [0,2,8,9,10,11] (sQ (cD 11 .skip (.exit 0)) Aja))))
def AuZ:List R:=[]
def A0m:=An oX.eq_1<|An Aja.eq_1<|AR AiN.eq_1
theorem ApC:Ao π 59 24 AiN AuZ=true:=by kernel_rfl
def zO:IC:=.opx [m1 48 0,m1 49 0,nC 50 49,fA 51 50 2,lA 52 51 16,m1 53 2,o1 54 (.call 116 [.t 52,.t 53,.c (.s [])]),xT 55 54 0,xT 56 54 1] [48,55,56] 57 115 [.t 48,.t 55,.t 56] [] []
def vZ:IC:=sQ (.ops [m1 91 0,nC 92 91,fA 93 92 18,l1 94 93,fA 95 4 2,l1 96 95,q2 97 21 94 96,m1 90 97,xT 98 90 0,xT 99 90 1,o1 8 (.alloc (.agg [.s [],.i .i64 0,.s [],.i .i64 0,.nil])),sT 8 98 5,m1 9 99] [0,4,6,8] [[0,1],[1,2],[2,3],[4,5],[3,6],[5,6],[6,7],[7,8],[7,9],[3,11],[5,11],[8,11],[10,11],[9,12]]) (oP [fA 100 8 2,l1 101 100,m1 2 101] [0,2,4,6])
def l7:IC:=.opx [m1 102 0,fA 103 4 4,l1 104 103,m1 105 6,iA 106 104 105 101 2,fA 107 106 1,l1 108 107,m1 109 2] [102,108,109] 110 59 [.t 102,.t 108,.t 109] [] []
def vQ:IC:=sQ (oS [m1 81 7,bZ 82 .neq 81 0] [0,2,4,6,7,82] (cD 82 (oR [m1 83 0,m1 84 7,nC 85 83,fA 86 85 20,sT 86 84 1] []) .skip)) (sQ (oS [fA 87 4 0,l1 88 87,bZ 89 .neq 88 9] [0,2,4,6,89] (cD 89 vZ .skip)) l7)
def mN:IC:=sQ (.ops [m1 69 0,nC 70 69,fA 71 70 2,lA 72 71 16,lA 73 4 6,m1 74 0,nC 75 74,fA 76 75 18,l1 77 76,q3 78 118 72 73 77,m1 68 78,xT 79 68 0,xT 80 68 1,m1 6 79,m1 7 80] [0,2,4,6,7] [[0,1],[1,2],[2,3],[5,6],[6,7],[7,8],[3,9],[4,9],[8,9],[9,10],[10,11],[10,12],[11,13],[12,14]]) vQ
def qS:IC:=.opxd [m1 29 0,m1 30 0,nC 31 30,fA 32 31 2,lA 33 32 16,lA 34 4 6,lA 35 10 5,q3 36 119 33 34 35,xT 37 36 0,xT 38 36 1] [29,37,38] 39 115 [.t 29,.t 37,.t 38] [] [[1,2],[2,3],[3,4],[4,7],[5,7],[6,7],[7,8],[7,9],[0,10],[1,2,3,4,7,10],[2,3,4,7,10],[3,4,7,10],[4,7,10],[5,7,10],[6,7,10],[7,10],[8,10],[9,10]]
def jD:IC:=sQ (.ops [m1 15 0,nC 16 15,fA 17 16 18,l1 18 17,fA 19 4 2,l1 20 19,q2 21 21 18 20,m1 14 21,xT 22 14 0,xT 23 14 1,o1 10 (.alloc (.agg [.s [],.i .i64 0,.s [],.i .i64 0,.nil])),sT 10 22 5,m1 11 23] [0,4,10,11] [[0,1],[1,2],[2,3],[4,5],[3,6],[5,6],[6,7],[7,8],[7,9],[3,11],[5,11],[8,11],[10,11],[9,12]]) (sQ (oS [m1 24 11,nT 25 24] [0,4,10,25] (cD 25 (oR [m1 26 0,nC 27 26,fA 28 27 20,o0 (.store (.t 28) (ci 12) 1)] []) .skip)) qS)
def kT:IC:=sQ (oS [bZ 65 .eql 13 7,m1 64 65] [0,2,4,13,64] (cD 64 .skip (oS [bZ 66 .eql 13 8,m1 64 66] [0,2,4,13,64] (cD 64 .skip (oP [bZ 67 .eql 13 9,m1 64 67] [0,2,4,64]))))) (cD 64 mN jD)
def AhO:IC:=oS [bZ 47 .eql 13 10,m1 46 47] [0,2,4,13,46] (cD 46 zO (oS [bZ 59 .eql 13 11,m1 58 59] [0,2,4,13,58] (cD 58 (.opx [m1 60 0,lA 61 4 6,m1 62 2] [60,61,62] 63 117 [.t 60,.t 61,.t 62] [] []) kT)))
def AgH:IC:=oS [bX 4 1] [0,2,4] (oS [fA 12 4 0,l1 13 12] [0,2,4,13] (.block 0 (oS [bZ 41 .eql 13 1,m1 40 41] [0,2,4,13,40] (cD 40 (.opx [m1 42 0,fA 43 4 1,l1 44 43] [42,44] 45 114 [.t 42,.t 44] [] []) AhO))))
def Axd:List R:=[]
def AzG:=An zO.eq_1<|An vZ.eq_1<|An l7.eq_1<|An vQ.eq_1<|An mN.eq_1<|An qS.eq_1<|An jD.eq_1<|An kT.eq_1<|An AhO.eq_1<|AR AgH.eq_1
theorem At6:Ao π 88 111 AgH Axd=true:=by kernel_rfl
def mA:IC:=oS [m1 17 0,nC 18 17,fA 19 18 20,l1 20 19,bZ 21 .eql 20 0] [0,4,21] (cD 21 (.opx [m1 22 0,fA 23 4 2,l1 24 23,o1 25 (.bin .add (.c (.s [60,47])) (.t 24)),bC 26 .add 25 (.s [62])] [22,26] 27 114 [.t 22,.t 26] [] []) .skip)
def m8:IC:=sQ (.opx [m1 6 0,fA 7 4 2,l1 8 7,o1 9 (.bin .add (.c (.s [60])) (.t 8)),bC 10 .add 9 (.s [62])] [0,2,4,6,10] 11 114 [.t 6,.t 10] [] [0,2,4]) (sQ (.opx [m1 12 0,fA 13 4 5,l1 14 13,m1 15 2] [0,4,12,14,15] 16 59 [.t 12,.t 14,.t 15] [] [0,4]) mA)
def nO:IC:=oS [bX 4 1] [0,2,4] m8
def Ap5:List R:=[]
def Ayo:=An mA.eq_1<|An m8.eq_1<|AR nO.eq_1
theorem AjS:Ao π 117 28 nO Ap5=true:=by kernel_rfl
def yL:IC:=sQ (oS [m1 22 10,nC 23 22,fA 24 23 20,l1 25 24,bZ 26 .neq 25 0] [10,26] (cD 26 (sQ (.ops [m1 27 10,nC 28 27,fA 29 28 20,l1 30 29,mC 8 (.s []),m1 9 30] [8,9] [[0,1],[1,2],[2,3],[3,5]]) .ret) .skip)) (oR [m1 31 10,nC 32 31,fA 33 32 0,o1 34 (.calls 60 [.t 33]),m1 8 34,mZ 9 0] [8,9])
def AhF:IC:=oS [lA 14 4 16,m1 15 2,m1 16 3,o1 17 (.build [.np,.nil,.s [],.s [],.s [],.nil,.nil,.s [],.s [],.s [],.s [],.i .i64 0,.i .i64 0,.nil,.nil,.nil,.nil,.nil,.nil,.b false,.i .i64 0] [(2,16,.t 14),(18,1,.t 15),(19,1,.t 16)]),o1 18 (.mkm (.tbx 136) [.t 17]),m1 10 18] [1,10] (sQ (.wk (.opx [m1 19 10,m1 20 1] [10,19,20] 21 59 [.t 19,.t 20,.c (.s [])] [] [10])) yL)
def Ahs:IC:=oS [bX 4 0,mC 8 (.s []),mZ 9 0] [1,2,3,4] (sQ (oS [m1 11 1,q1 12 11 11,nT 13 12] [1,2,3,4,13] (cD 13 (oR [mC 8 (.s []),mZ 9 1] [8,9]) .skip)) AhF)
def AwV:List R:=[.t 8,.t 9]
def A0b:=An yL.eq_1<|An AhF.eq_1<|AR Ahs.eq_1
theorem Ao9:Ao π 26 35 Ahs AwV=true:=by kernel_rfl
def nE:IC:=oS [m1 8 0,m1 9 0,nC 10 9,fA 11 10 1,l1 12 11,m1 13 1,o1 14 (.apps (.t 12) (.t 13) 5),nC 15 8,fA 16 15 1,sT 16 14 1] [1] (oR [m1 17 1,nS 18 17,m1 4 18,mC 5 .ni] [4,5])
def AaN:IC:=oS [mZ 4 0,mC 5 .ni] [0,1] (oS [m1 6 0,o1 7 (.calls 167 [.t 6])] [0,1] nE)
def Arm:List R:=[.t 4,.t 5]
def AyX:=An nE.eq_1<|AR AaN.eq_1
theorem sF:Ao π 152 19 AaN Arm=true:=by kernel_rfl
def pU:IC:=oS [mZ 2 0] [0] (oR [m1 3 0,nC 4 3,fA 5 4 1,l1 6 5,nL 7 6,m1 2 7] [2])
def AqW:List R:=[.t 2]
def Ayj:=AR pU.eq_1
theorem Ak6:Ao π 153 8 pU AqW=true:=by kernel_rfl
attribute[push_cast]Avy AzM AwM A0S Axm AzV Ax9 A0O f5R f5e AwT AzR AqO Ay0 ApJ Aze AuZ A0m Axd AzG Ap5 Ayo AwV A0b Arm AyX AqW Ayj
end Go.Ir
section
namespace Go.Ir
structure B4 where
 kind:Int
 name:Aa
 keys:List Aa
def BX(k:Int)(n:Aa)(s:B4):Bool:=s.kind==k&&s.name==n
def B9(l:List B4)(k:Int)(n:Aa):Int:=AV (BX k n) l
def AZ(key:Aa)(s:B4):B4:=if s.keys.contains key then s else{ s with keys:=s.keys++[key] }
def F5(l:List B4)(k:Int)(n:Aa):Nat:=if B9 l k n<0 then l.length else(B9 l k n).toNat
def Br(l:List B4)(k:Int)(n:Aa):List B4:=if B9 l k n<0 then l++[⟨k,n,[]⟩] else l
mutual
def Ad.coll:Ad->List B4->List B4
 | ⟨k,_,e,_,cs,ps⟩,l=>
  if AI k then BG cs (F5 (Av ps l) k e) (Br (Av ps l) k e) else Av ps l
def Av:List Ad->List B4->List B4
 | [],l=>l
 | p::ps,l=>Av ps (p.coll l)
def BG:List (Aa×List Ad)->Nat->List B4->List B4
 | [],_,l=>l
 | (key,ps)::cs,j,l=>BG cs j (Av ps (l.modify j (AZ key)))
end
theorem Ad.coll_eq(p:Ad) l:p.coll l=if AI p.kind then BG p.cases (F5 (Av p.parts l) p.kind p.name) (Br (Av p.parts l) p.kind p.name) else Av p.parts l:=by cases p;simp only[Ad.coll]
theorem CR p ps l:Av (p::ps) l=Av ps (p.coll l):=by simp only[Av]
theorem Cb(c:AD)(cs:List AD) j l:BG (c::cs) j l=BG cs j (Av c.2 (l.modify j (AZ c.1))):=by have ⟨a,b⟩:=c;simp only[BG]
mutual
def Ad.rcoll:Ad->List B4->List B4
 | ⟨k,_,e,_,cs,ps⟩,l=>
  if AI k then GF cs k e (Br (DM ps l) k e) else DM ps l
def DM:List Ad->List B4->List B4
 | [],l=>l
 | p::ps,l=>DM ps (p.rcoll l)
def GF:List (Aa×List Ad)->Int->Aa->List B4->List B4
 | [],_,_,l=>l
 | (key,ps)::cs,k,e,l=>GF cs k e (DM ps (l.modify (B9 l k e).toNat (AZ key)))
end
theorem Ad.rcoll_eq(p:Ad) l:p.rcoll l=if AI p.kind then GF p.cases p.kind p.name (Br (DM p.parts l) p.kind p.name) else DM p.parts l:=by cases p;simp only[Ad.rcoll]
theorem QP p ps l:DM (p::ps) l=DM ps (p.rcoll l):=by simp only[DM]
theorem QO(c:AD)(cs:List AD) k e l:GF (c::cs) k e l=GF cs k e (DM c.2 (l.modify (B9 l k e).toNat (AZ c.1))):=by have ⟨a,b⟩:=c;simp only[GF]
def DA:List B4->Nat
 | []=>0
 | s::l=>1+s.keys.length+DA l
theorem tW a b:DA (a++b)=DA a+DA b:=by
 induction a with
 | nil=>simp[DA]
 | cons s a e=>simp[DA,e];omega
theorem Fb l j key:DA (l.modify j (AZ key))<=DA l+1:=by
 induction l generalizing j with
 | nil=>simp 
 | cons s l e=>
  cases j with
  | zero=>simp only[List.modify_zero_cons,DA];unfold AZ;grind
  | succ j=>simp only[A2a,DA];have:=e j;omega
theorem HE l k n:DA (Br l k n)<=DA l+1:=by
 unfold Br;split
 .rw[tW];simp[DA]
 .omega
theorem KL l:l.length<=DA l:=by
 induction l with
 | nil=>simp
 | cons s l e=>simp[DA];omega
theorem LS{l s}(h:s∈l):s.keys.length<=DA l:=by
 induction l with
 | nil=>cases h
 | cons d l e=>simp only[DA];grind
theorem Aod:∀(N) (ps),A7 ps<N->∀l,DA (Av ps l)<=DA l+A7 ps:=by
 intro N
 induction N with
 | zero=>intro ps h;omega
 | succ N o=>
  have g:∀cs:List AD,De cs<N->∀j l,DA (BG cs j l)<=DA l+De cs:=by
   intro cs
   induction cs with
   | nil=>intro _ j l;simp[BG]
   | cons c cs e=>intro h j l;rw[Bn] at h;rw[Cb,Bn];have q:=o c.2 (by omega) (l.modify j (AZ c.1));have r:=e (by omega) j (Av c.2 (l.modify j (AZ c.1)));have i:=Fb l j c.1;omega
  intro ps
  induction ps with
  | nil=>intro _ l;simp[Av]
  | cons p ps e=>
   intro h l;rw[A5] at h;rw[CR,A5];have i:=e (by omega) (p.coll l);rw[p.wt_eq] at *;rw[p.coll_eq] at *;have q:=o p.parts (by omega) l;split at i
   .have r:=g p.cases (by omega) (F5 (Av p.parts l) p.kind p.name) (Br (Av p.parts l) p.kind p.name);have s:=HE (Av p.parts l) p.kind p.name;grind
   grind
theorem Fm ps l:DA (Av ps l)<=DA l+A7 ps:=Aod _ ps (Ab4 _) l
def BH(l g:List B4):Prop:=l.length<=g.length/\∀(i:Nat) (s e:B4),l[i]?=some s->g[i]?=some e->s.kind=e.kind/\s.name=e.name
theorem BH.refl l:BH l l:=⟨Ab6 _,λi s g h e=>by grind⟩
theorem BH.trans{a b c}(h:BH a b)(k:BH b c):BH a c:=by refine⟨AoW h.1 k.1,λi s p j e=>?_⟩;have o:i<b.length:=AuD (Ao5.1 j).1 h.1;have g:b[i]?=some b[i]:=Am7 o;have q:=h.2 i s _ j g;have r:=k.2 i _ p g e;grind
theorem BH.app l m:BH l (l++m):=by refine⟨by simp,λi s g h e=>?_⟩;grind
theorem Fe key s:(AZ key s).kind=s.kind/\(AZ key s).name=s.name:=by unfold AZ;split<;>exact⟨rfl,rfl⟩
theorem BH.mod l j key:BH l (l.modify j (AZ key)):=by
 refine⟨by simp,λi s p h e=>?_⟩;rw[A0P,h] at e;by_cases o:j=i
 .have g:AZ key s=p:=by simpa[o] using e
  rw[<-g];have:=Fe key s;grind
 grind
theorem HD{l e}(h:BH l e) k n (j:¬B9 l k n<0):B9 e k n=B9 l k n:=by
 induction l generalizing e with
 | nil=>exact absurd (by simp[B9,AV]) j
 | cons s l w=>
  cases e with
  | nil=>have:=h.1;simp at this
  | cons o e=>
   have g:=h.2 0 s o rfl rfl;have u:BH l e:=⟨by have:=h.1;simpa using this,λi a b p q=>h.2 (i+1) a b (by simpa using p) (by simpa using q)⟩
   have r:BX k n o=BX k n s:=by unfold BX;rw[g.1,g.2]
   unfold B9 at *;simp only[AV,r] at j⊢;grind
theorem gU l k n (h:B9 l k n<0):B9 (l++[⟨k,n,[]⟩]) k n=l.length:=by
 unfold B9 at *
 induction l with
 | nil=>simp[AV,BX]
 | cons s l e=>simp only[AV,AvC] at h⊢;grind
theorem O9 l k n:¬B9 (Br l k n) k n<0/\(B9 (Br l k n) k n).toNat=F5 l k n:=by
 unfold Br F5;by_cases h:B9 l k n<0
 .rw[Amm h,Amm h];rw[gU l k n h];omega
 grind
theorem IZ:∀(N) (ps),A7 ps<N->∀l,DM ps l=Av ps l/\BH l (Av ps l):=by
 intro N
 induction N with
 | zero=>intro ps h;omega
 | succ N u=>
  have o:∀cs:List AD,De cs<N->∀(k:Int) (g:Aa) (j:Nat) l,¬B9 l k g<0->(B9 l k g).toNat=j->GF cs k g l=BG cs j l/\BH l (BG cs j l):=by
   intro cs
   induction cs with
   | nil=>intro _ k g j l _ _;simp[GF,BG,BH.refl]
   | cons c cs e=>intro h k g j l r s;rw[Bn] at h;rw[Cb,QO,s];have ⟨h1,h2⟩:=u c.2 (by omega) (l.modify j (AZ c.1));have q:=(BH.mod l j c.1).trans h2;have i:=HD q k g r;have ⟨h3,h4⟩:=e (by omega) k g j (Av c.2 (l.modify j (AZ c.1))) (by rw[i];exact r) (by rw[i];exact s);rw[h1];exact⟨h3,q.trans h4⟩
  intro ps
  induction ps with
  | nil=>intro _ l;simp[DM,Av,BH.refl]
  | cons p ps e=>
   intro h l;rw[A5] at h;rw[CR,QP];have w:=p.wt_eq;have ⟨a1,a2⟩:=u p.parts (by omega) l;have hp:p.rcoll l=p.coll l/\BH l (p.coll l):=by
    rw[p.coll_eq,p.rcoll_eq,a1];split
    .have ⟨b1,b2⟩:=O9 (Av p.parts l) p.kind p.name;have ⟨c1,c2⟩:=o p.cases (by omega) p.kind p.name _ _ b1 b2;refine⟨c1,(a2.trans ?_).trans c2⟩;unfold Br;split
     .exact BH.app _ _
     .exact BH.refl _
    .exact⟨rfl,a2⟩
   have ⟨d1,d2⟩:=e (by omega) (p.coll l);rw[hp.1];exact⟨d1,hp.2.trans d2⟩
end Go.Ir
end
section
namespace Go.Ir
def Dv(l:List Aa):List (V×V):=l.map λk=>(.s k,.b true)
theorem oG l:(Dv l).length=l.length:=by simp[Dv]
def Pd(k:Aa)(l:List Aa):List Aa:=if l.contains k then l else l++[k]
theorem yD k (l:List Aa):∀n,(l.contains k=true/\∃i,BE .str (.s k) (Dv l) n=some (some (n+i,.b true))/\(Dv l).modify i (λe=>(e.1,.b true))=Dv l)\/(l.contains k=false/\BE .str (.s k) (Dv l) n=some none):=by
 induction l with
 | nil=>intro n;exact .inr ⟨rfl,rfl⟩
 | cons x l p=>
  intro n;have o:BE .str (.s k) (Dv (x::l)) n=(match Fl .str (.s k) (.s x) with
   | some true=>some (some (n,.b true))
   | some false=>BE .str (.s k) (Dv l) (n+1)
   | none=>none):=rfl
  have j:Fl .str (.s k) (.s x)=some (k==x):=rfl;rw[o,j,List.contains_cons];by_cases h:k=x
  .subst h;refine .inl ⟨by simp,0,?_,?_⟩
   .simp
   .simp[Dv]
  .have g:(k==x)=false:=by simpa using h
   rw[g,A0Q];rcases p (n+1) with⟨h1,i,h2,h3⟩|⟨h1,h2⟩
   .refine .inl ⟨h1,i+1,?_,?_⟩
    .grind
    .show(Dv (x::l)).modify (i+1) _=_;simp only[Dv,Ao7,A2a] at h3⊢;rw[h3]
   grind
theorem Hu(k:Aa)(l:List Aa):(l.contains k=true/\Pd k l=l/\∃i,BE .str (.s k) (Dv l) 0=some (some (i,.b true))/\(Dv l).modify i (λe=>(e.1,.b true))=Dv l)\/(l.contains k=false/\Pd k l=l++[k]/\BE .str (.s k) (Dv l) 0=some none):=by
 rcases yD k l 0 with⟨h1,i,h2,h3⟩|⟨h1,h2⟩
 .exact .inl ⟨h1,by unfold Pd;rw[h1];rfl,i,by simpa using h2,h3⟩
 .exact .inr ⟨h1,by unfold Pd;rw[h1];rfl,h2⟩
theorem FO(k:Aa) l:Dv l++[(V.s k,V.b true)]=Dv (l++[k]):=by simp[Dv]
theorem Aam{a}{σ:Aq}(h:∀p∈σ,p.1≠a.1):∀i e,lk (a::σ) i=some e->lk (σ++[a]) i=some e:=by
 have ⟨ai,ae⟩:=a
 induction σ with
 | nil=>intro i e h;exact h
 | cons b σ o=>
  have ⟨bi,be⟩:=b;intro i e g;simp only[lk] at g;show(if bi=i then some be else lk (σ++[(ai,ae)]) i)=some e;split at g
  .rename_i j;subst j;have:bi≠ai:=h (bi,be) (by simp);rw[AfL this];exact o (λp hp=>h p (Ab5 _ hp)) ai e (by simp[lk];exact A2e g)
  .rename_i j;split at g
   .grind
   .rename_i q;rw[AfL q];exact o (λp hp=>h p (Ab5 _ hp)) i e (by simp only[lk];rw[AfL j];exact g)
theorem CM{id x}{σ:Aq}:∀i e,lk [(id,x)] i=some e->lk ((id,x)::σ) i=some e:=by intro i e h;simp only[lk] at h⊢;grind
theorem EF{id x a}{σ:Aq}(g:(a.1=id)=False):∀i e,lk [(id,x)] i=some e->lk (a::(id,x)::σ) i=some e:=by intro i e h;have ⟨ai,ae⟩:=a;simp only[lk] at h⊢;grind
section
variable{P:Program}{O:World}{ep d:Nat}{live:List Nat}{Q:Exit→St→Prop}{l:List I}{env:BB}{σ:Aq}
theorem EO{f:FuncId}{vs:List V}{v:V}{id:Id}{e e':AP}{pre:Aq}(h:Ak P O f vs [(id,e)] v [(id,e')])(g:∀p∈pre++σ,p.1≠id)
  (u:J P O ep live Q l ((d,v)::env) ((id,e')::(pre++σ))):HP P O ep live Q f vs l d env (pre++(id,e)::σ):=by
 have o:∀(τ:Aq),(∀p∈τ,p.1≠id)->lk (τ++(id,e)::σ) id=some e:=by
  intro τ q
  induction τ with
  | nil=>simp[lk]
  | cons a τ w=>have ⟨ai,ae⟩:=a;have:ai≠id:=q (ai,ae) (by simp);show(if ai=id then some ae else lk (τ++(id,e)::σ) id)=some e;grind
 refine AX h (λi y j=>?_) ?_
 .simp only[lk] at j;split at j
  .rename_i r;subst r;cases j;exact o pre λp hp=>g p (Axe _ hp)
  .cases j
 .have s:List.filter (λp:Id×AP=>(lk [(id,e)] p.1).isNone) (pre++(id,e)::σ)=pre++σ:=by
   rw[A1L,A1Q (by simp[lk]),<-A1L,A1E];intro p hp;simp[lk,Ao0 (g p hp)]
  unfold over;rw[s];exact u
end
end Go.Ir
end
namespace Go.Ir
open Go.Proofs
variable{P:Program}{O:World}{nt n:Nat}{Q:Exit→St→Prop}{env:BB}{σ:Aq}
def AgG:IC:=oS [bX 4 1,bX 5 2,mZ 6 0] [0,4,5] (oR [m1 7 0,nC 8 7,fA 9 8 0,l1 10 9,o1 11 (.mkfn 101 [] [.t 4,.t 5]),o1 12 (.calls 43 [.t 10,.t 11]),m1 6 12] [6])
def Axp:List R:=[.t 6]
def AzH:=AR AgG.eq_1
theorem Ato:Ao π 73 13 AgG Axp=true:=by kernel_rfl
def wZ:IC:=oR [fA 5 3 0,l1 6 5,l1 7 1,bT 8 .eql 6 7,m1 9 8,Fa 10 9 3 1,E3 11 9 10,E3 12 9 2,gT 13 9 (.bin .eql (.t 11) (.t 12)),pA 14 9 13,m1 4 14] [4]
def Abx:IC:=oS [bX 3 0,mC 4 (.b false)] [1,2,3] wZ
def As8:List R:=[.t 4]
def Aye:=An wZ.eq_1<|AR Abx.eq_1
theorem Amq:Ao π 101 15 Abx As8=true:=by kernel_rfl
def rE:IC:=.ops [m1 36 0,m1 37 0,nC 38 37,fA 39 38 0,l1 40 39,fA 41 5 0,l1 42 41,fA 43 5 2,l1 44 43,o1 45 (.build [.i .i64 0,.s [],.nil] [(0,1,.t 42),(1,1,.t 44)]),o1 46 (.msl false 70 3 [.t 45]),o1 47 (.app (.t 40) (.t 46) 70 3),nC 48 36,fA 49 48 0,sT 49 47 1] [0,5,6,9,10,11] [[1,2],[2,3],[3,4],[5,6],[7,8],[6,9],[8,9],[9,10],[4,11],[6,9,10,11],[8,9,10,11],[10,11],[0,12],[12,13],[4,14],[6,14],[8,14],[11,14],[13,14]]
def Abg:IC:=.ops [m1 57 0,nC 58 57,fA 59 58 0,l1 60 59,m1 61 6,iA 62 60 61 70 3,fA 63 62 2,l1 64 63,fA 65 8 0,l1 66 65,o1 67 (.calls 53 [.t 64,.t 66]),nT 68 67] [0,6,8,9,10,11,51,52,53,68] [[0,1],[1,2],[2,3],[3,5],[4,5],[5,6],[6,7],[8,9],[3,5,6,7,10],[5,6,7,10],[7,10],[9,10],[10,11]]
def wL:IC:=.ops [m1 69 0,nC 70 69,fA 71 70 0,l1 72 71,m1 73 6,m1 74 0,nC 75 74,fA 76 75 0,l1 77 76,m1 78 6,iA 79 77 78 70 3,fA 80 79 2,l1 81 80,fA 82 8 0,l1 83 82,o1 84 (.msl false 9 1 [.t 83]),⟨some 85,.app (.t 81) (.t 84) 9 1,none,[.t 71]⟩,iA 86 72 73 70 3,fA 87 86 2,sT 87 85 1] [0,6,8,9,10,11,51,52,53] [[0,1],[1,2],[2,3],[5,6],[6,7],[7,8],[8,10],[9,10],[10,11],[11,12],[13,14],[14,15],[8,10,11,12,16],[10,11,12,16],[12,16],[14,15,16],[15,16],[3,17],[4,17],[16,17],[17,18],[3,19],[8,19],[10,19],[12,19],[14,19],[16,19],[17,18,19],[18,19]]
def nX:IC:=sQ (.block 3 (oS [iA 55 51 53 101 2,lA 56 55 2,o1 8 (.alloc (.agg [.s [],.nil])),sT 8 56 2] [0,6,8,9,10,11,51,52,53] (sQ (sQ (.wk Abg) (cD 68 wL .skip)) (.opx [m1 88 0,fA 89 8 1,l1 90 89] [0,6,9,10,11,51,52,53,88,90] 91 36 [.t 88,.t 90] [] [0,6,9,10,11,51,52,53])))) (oP [bZ 92 .add 53 1,m1 53 92] [0,6,9,10,11,51,52,53])
def WK:IC:=oS [bT 54 .lss 53 52] [0,6,9,10,11,51,52,53,54] (sQ (cD 54 .skip (.exit 2)) nX)
def tQ:IC:=sQ (oS [m1 29 6,bZ 30 .lss 29 0] [0,5,6,9,10,11,30] (cD 30 (oS [m1 31 0,nC 32 31,fA 33 32 0,l1 34 33,nL 35 34,m1 6 35] [0,5,6,9,10,11] rE) .skip)) (oS [fA 50 5 4,l1 51 50,nL 52 51,mZ 53 0] [0,6,9,10,11,51,52,53] (.block 2 (.loop WK)))
def mU:IC:=sQ (.opx [m1 15 0,fA 16 5 5,l1 17 16] [0,5,9,10,11,15,17] 18 36 [.t 15,.t 17] [] [0,5,9,10,11]) (sQ (sQ (.wk (oP [fA 19 5 0,l1 20 19,q1 21 42 20,nT 22 21] [0,5,9,10,11,22])) (cD 22 (.exit 1) .skip)) (oS [m1 23 0,fA 24 5 0,l1 25 24,fA 26 5 2,l1 27 26,o1 28 (.calls 73 [.t 23,.t 25,.t 27]),m1 6 28] [0,5,6,9,10,11] tQ))
def AgV:IC:=sQ (.block 1 (oS [iA 13 9 11 96 6,lA 14 13 6,o1 5 (.alloc (.agg [.i .i64 0,.s [],.s [],.s [],.nil,.nil])),sT 5 14 6] [0,5,9,10,11] mU)) (oP [bZ 93 .add 11 1,m1 11 93] [0,9,10,11])
def AhG:IC:=oS [m1 9 1,nL 10 9,mZ 11 0] [0,9,10,11] (.block 0 (.loop (oS [bT 12 .lss 11 10] [0,9,10,11,12] (sQ (cD 12 .skip (.exit 0)) AgV))))
def Avi:List R:=[]
def A0I:=An rE.eq_1<|An Abg.eq_1<|An wL.eq_1<|An nX.eq_1<|An WK.eq_1<|An tQ.eq_1<|An mU.eq_1<|An AgV.eq_1<|AR AhG.eq_1
theorem Asq:Ao π 36 94 AhG Avi=true:=by kernel_rfl
def mW:IC:=.ops [m1 18 3,nC 19 18,fA 20 19 0,l1 21 20,m1 22 4,m1 23 3,nC 24 23,fA 25 24 0,l1 26 25,m1 27 4,iA 28 26 27 70 3,lA 29 28 3,q1 30 37 29,iA 31 21 22 70 3,fA 32 31 2,sT 32 30 1] [3,14,15] [[0,1],[1,2],[2,3],[5,6],[6,7],[7,8],[8,10],[9,10],[10,11],[11,12],[3,13],[4,13],[13,14],[3,15],[8,15],[10,15],[11,15],[12,15],[13,14,15],[14,15]]
def Aa9:IC:=oS [bT 16 .lss 15 14] [3,14,15,16] (sQ (cD 16 .skip (.exit 0)) (sQ (.block 1 (oS [m1 17 15,m1 4 17] [3,4,14,15] mW)) (oP [bZ 33 .add 15 1,m1 15 33] [3,14,15])))
def Aif:IC:=sQ (.opx [m1 7 3,m1 8 0] [3,7,8] 9 36 [.t 7,.t 8] [] [3]) (sQ (sQ (.wk (oP [m1 10 3,nC 11 10,fA 12 11 0,l1 13 12,nL 14 13,mZ 15 0] [3,14,15])) (.block 0 (.loop Aa9))) (oR [m1 34 3,nC 35 34,fA 36 35 0,l1 37 36,m1 2 37] [2]))
def AfX:IC:=oS [mC 2 .nil] [0] (oS [o1 5 (.build [.nil] []),bX 6 5,m1 3 6] [0,3] Aif)
def Avh:List R:=[.t 2]
def A0J:=An mW.eq_1<|An Aa9.eq_1<|An Aif.eq_1<|AR AfX.eq_1
theorem ArW:Ao π 16 38 AfX Avh=true:=by kernel_rfl
def zV:IC:=oS [m1 15 5,bC 16 .neq 15 (.s [111,116,104,101,114]),m1 17 16,Fa 18 17 1 0,E3 19 17 18,Gi 20 17 .eql 19 9,BY 21 17 20,BU 22 21 5,gF 23 21 (.call 74 [.t 22,.c (.s [61])]),gT 24 17 (.pick (.t 21) (.c (.b true)) (.t 23)),pA 25 17 24] [1,3,5,9,10,11,25] (cD 25 (oP [m1 26 3,m1 27 5,o1 28 (.msl false 9 1 [.t 27]),o1 29 (.app (.t 26) (.t 28) 9 1),m1 3 29] [1,3,9,10,11]) .skip)
def Ah6:IC:=oS [bT 12 .lss 11 10] [1,3,9,10,11,12] (sQ (cD 12 .skip (.exit 0)) (sQ (.block 1 (oS [iA 13 9 11 9 1,l1 14 13,m1 5 14] [1,3,5,9,10,11] zV)) (oP [bZ 30 .add 11 1,m1 11 30] [1,3,9,10,11])))
def mI:IC:=oS [fA 40 1 2,l1 41 40,m1 42 7,q2 43 53 41 42] [1,3,7,34,35,36,43] (cD 43 (oP [m1 44 3,m1 45 7,o1 46 (.msl false 9 1 [.t 45]),o1 47 (.app (.t 44) (.t 46) 9 1),m1 3 47] [1,3,34,35,36]) .skip)
def nH:IC:=oS [bT 37 .lss 36 35] [1,3,34,35,36,37] (sQ (cD 37 .skip (.exit 2)) (sQ (.block 3 (oS [iA 38 34 36 9 1,l1 39 38,m1 7 39] [1,3,7,34,35,36] mI)) (oP [bZ 48 .add 36 1,m1 36 48] [1,3,34,35,36])))
def m6:IC:=sQ (oS [fA 31 1 0,l1 32 31,bZ 33 .neq 32 9] [1,3,33] (cD 33 (oS [o1 34 (.call 75 []),nL 35 34,mZ 36 0] [1,3,34,35,36] (.block 2 (.loop nH))) .skip)) (oR [m1 49 3,o1 50 (.msl false 9 1 [.c (.s [111,116,104,101,114])]),o1 51 (.app (.t 49) (.t 50) 9 1),m1 2 51] [2])
def AhK:IC:=oS [bX 1 0,mC 2 .nil] [1] (oS [mC 3 .nil] [1,3] (sQ (oS [fA 8 1 2,l1 9 8,nL 10 9,mZ 11 0] [1,3,9,10,11] (.block 0 (.loop Ah6))) m6))
def Avj:List R:=[.t 2]
def A0c:=An zV.eq_1<|An Ah6.eq_1<|An mI.eq_1<|An nH.eq_1<|An m6.eq_1<|AR AhK.eq_1
theorem ArT:Ao π 37 52 AhK Avj=true:=by kernel_rfl
def AiL:IC:=oR [o1 1 (.msl false 9 1 [.c (.s [122,101,114,111]),.c (.s [111,110,101]),.c (.s [116,119,111]),.c (.s [102,101,119]),.c (.s [109,97,110,121])]),m1 0 1] [0]
def AhV:IC:=oS [mC 0 .nil] [] AiL
def Axa:List R:=[.t 0]
def A0x:=An AiL.eq_1<|AR AhV.eq_1
theorem AoE:Ao π 75 2 AhV Axa=true:=by kernel_rfl
def oK:IC:=oS [m1 12 3,fA 13 5 2,l1 14 13,nL 15 14,bT 16 .mul 12 15,m1 3 16] [3,6,7,8] (oS [m1 17 3,bZ 18 .gtr 17 400] [3,6,7,8,18] (cD 18 (oR [m1 19 3,m1 2 19] [2]) .skip))
def wE:IC:=sQ (.block 1 (oS [iA 10 6 8 70 3,lA 11 10 3,o1 5 (.alloc (.agg [.i .i64 0,.s [],.nil])),sT 5 11 3] [3,5,6,7,8] oK)) (oP [bZ 20 .add 8 1,m1 8 20] [3,6,7,8])
def AfW:IC:=sQ (oS [m1 6 0,nL 7 6,mZ 8 0] [3,6,7,8] (.block 0 (.loop (oS [bT 9 .lss 8 7] [3,6,7,8,9] (sQ (cD 9 .skip (.exit 0)) wE))))) (oR [m1 21 3,m1 2 21] [2])
def AiW:IC:=oS [mZ 2 0] [0] (oS [mZ 3 1] [0,3] AfW)
def Avn:List R:=[.t 2]
def A0Z:=An oK.eq_1<|An wE.eq_1<|An AfW.eq_1<|AR AiW.eq_1
theorem Art:Ao π 17 22 AiW Avn=true:=by kernel_rfl
attribute[push_cast]Axp AzH As8 Aye Avi A0I Avh A0J Avj A0c Axa A0x Avn A0Z
end Go.Ir

namespace Go.Ir
open Go.Proofs
theorem Hv{σ i e}(h:lk σ i=some e):(i,e)∈σ:=by
 induction σ with
 | nil=>cases h
 | cons p σ g=>have ⟨k,x⟩:=p;simp only[lk] at h;grind
theorem FR{σ i e}(g:(σ.map (·.1)).Nodup)(h:(i,e)∈σ):lk σ i=some e:=by
 induction σ with
 | nil=>cases h
 | cons p σ j=>have ⟨k,x⟩:=p;rw[Ao7,AzI] at g;simp only[lk];grind
theorem Gr{σ i}(h:∀p∈σ,p.1≠i):lk σ i=none:=by
 cases g:lk σ i with
 | none=>rfl
 | some e=>exact absurd rfl (h _ (Hv g))
theorem TF{σ i}(h:∀p∈σ,p.1≠i):del σ i=σ:=by
 induction σ with
 | nil=>rfl
 | cons p σ e=>have ⟨k,x⟩:=p;simp only[del];simp_all
theorem AK{σ τ i e}(h:lk σ i=some e):lk (σ++τ) i=some e:=by
 induction σ with
 | nil=>cases h
 | cons p σ g=>have ⟨k,x⟩:=p;rw[AvC];simp only[lk] at h⊢;grind
theorem Gw{σi σo pre post}(j:∀p∈pre,∀q∈σi,p.1≠q.1)(o:∀p∈post,∀q∈σi,p.1≠q.1):over σi σo (pre++σi++post)=σo++(pre++post):=by
 have keep:∀τ:Aq,(∀p∈τ,∀q∈σi,p.1≠q.1)->List.filter (λp:Id×AP=>(lk σi p.1).isNone) τ=τ:=by intro τ h;rw[A1E];intro p hp;rw[Gr λq r=>Ao0 (h p hp q r)];rfl
 have g:List.filter (λp:Id×AP=>(lk σi p.1).isNone) σi=[]:=by
  rw[List.filter_eq_nil_iff];intro p hp s;cases i:lk σi p.1 with
  | none=>
   clear keep
   revert hp i
   generalize σi=τ;intro hp i
   induction τ with
   | nil=>cases hp
   | cons q τ u=>have ⟨k,x⟩:=q;simp only[lk] at i;grind
  | some e=>grind
 unfold over;rw[A1L,A1L,keep pre j,g,keep post o,At9]
theorem Ag.sub{O:World}{nt n n':Nat}{env:BB}{σ σ':Aq}(g:(σ.map (·.1)).Nodup)(h:∀p∈σ',p∈σ)(o:n<=n'):Ag O nt ⟨env,σ,n⟩ ⟨env,σ',n'⟩:=
 Ag.drop (λi e j=>FR g (h _ (Hv j))) o
theorem Ag.pre{O nt n n' env σ τ}(h:n<=n'):Ag O nt ⟨env,σ++τ,n⟩ ⟨env,σ,n'⟩:=
 Ag.drop (λi e g=>AK g) h
abbrev OS:=B4×Option Id
def sv(o:Option Id):V:=match o with
 | none=>.nil
 | some id=>.arr id
def Hf(x:OS):V:=.agg [.i .i64 x.1.kind,.s x.1.name,sv x.2]
def OY(x:OS):Aq:=match x.2 with
 | none=>[]
 | some id=>[(id,.arr 9 1 (x.1.keys.map V.s))]
def Bc(L:List OS):Aq:=L.flatMap OY
def slE(e:Nat)(g:Option Id)(L:List OS):Aq:=match g with
 | none=>[]
 | some id=>[(id,.arr e 3 (L.map Hf))]
def OM(e:Nat)(g:Option Id)(L:List OS):Aq:=slE e g L++Bc L
theorem Cx A B:Bc (A++B)=Bc A++Bc B:=by simp[Bc]
theorem Dk x B:Bc (x::B)=OY x++Bc B:=by simp[Bc]
structure AyA (e:Nat) (hd:Aq) (lo:Option Id) (L:List OS) (n:Nat):Prop where
 nd:((hd++OM e lo L).map (·.1)).Nodup
 lt:∀p∈hd++OM e lo L,p.1.1<n
 ne:lo=none->L=[]
 kn:∀x∈L,x.2=none->x.1.keys=[]
end Go.Ir

namespace Go.Ir
open Go.Proofs
variable(O:World)
theorem Gt{id:Id}{a j}(h:id.1<a):((a,j)=id)=False:=by grind
theorem Ae1 x k (n:Aa) kid o σ (p:lk σ kid=some (.box (.i .i64 k)))(q:lk σ o=some (.box (.s n))) :
  Ak π O 101 [Hf x,.ref kid 0,.ref o 0] σ (.b (BX k n x.1)) σ:=by
 generalize hS:BX k n x.1=S;unfold BX at hS;refine Ac (vs:=[.b S]) Amq (by simp) (λ_ h=>h) λn0 g=>?_;have r:∀j,((n0,j)=kid)=False:=λj=>Gt (g _ _ p);have u:∀j,((n0,j)=o)=False:=λj=>Gt (g _ _ q);unfold Hf;simp only[push_cast,rq,r,p]
 repeat' (first|((apply AL<;>intro _h)<;>simp only[push_cast,rq,_h,u,q])|intro _)
 all_goals subst hS
 all_goals (refine Aw (by simp[get, *]) (λi e h=>DJ (g i e h) h))
theorem Akx k (n:Aa) g r L (G:L.length<=2^40)(y:r=none->L=[])(u:∀id,r=some id->id≠g) :
  Ak π O 73 [.ref g 0,.i .i64 k,.s n] ((g,.box (.agg [sv r]))::slE 70 r L) (.i .i64 (B9 (L.map (·.1)) k n)) ((g,.box (.agg [sv r]))::slE 70 r L):=by
 generalize hS:B9 (L.map (·.1)) k n=S;refine Ac (vs:=[.i .i64 S]) Ato (by simp) (λ_ h=>h) λn0 o=>?_;have F:g.1<n0:=o g (.box (.agg [sv r])) (by simp[lk]);have C:∀j,((n0,j)=g)=False:=λj=>Gt F;cases r with
 | none=>
  have E:=y rfl;subst E;have z:S=-1:=by rw[<-hS];rfl
  subst z;unfold slE sv;simp only[push_cast,rq,C];intro _;refine AX (σi:=[]) (σo:=[]) (NP O (f:=43) (e:=70) (sz:=3) (ag:=true) (by kernel_rfl) _ _ _ []) (λ_ _ h=>by cases h) ?_;rw[show ∀σ,over [] [] σ=σ from I0];simp only[push_cast];intro _;exact Aw (by simp[get]) (λi e h=>DJ (o i e h) (DJ (o i e h) h))
 | some p=>
  have w:=u p rfl;have B:p.1<n0:=o p (.arr 70 3 (L.map Hf)) (by simp[slE,lk,Ao0 w]);have D:∀j,((n0,j)=p)=False:=λj=>Gt B;unfold slE sv;simp only[push_cast,rq,C];intro k1;have q:=OG O (P:=π) (f:=43) (e:=70) (sz:=3) (ag:=true) (by kernel_rfl) Hf L (λx=>BX k n x.1) 101 [] [.ref (n0,4) 0,.ref (n0,5) 0]
   [((n0,5),.box (.s n)),((n0,4),.box (.i .i64 k)),(g,.box (.agg [.arr p])),(p,.arr 70 3 (L.map Hf))] p 70 (by simp[lk,D,Ao0 w]) (λx _=>Fh rfl) (λx _=>Ae1 O x k n _ _ _ (by simp[lk]) (by simp[lk])) (by omega)
  have A:AV (λx:OS=>BX k n x.1) L=S:=by
   rw[<-hS];unfold B9;clear hS q G o y u
   induction L with
   | nil=>rfl
   | cons x L H=>simp only[Ao7,AV,H]
  rw[A] at q;refine AX q (λ_ _ h=>h) ?_;rw[B5];simp only[push_cast];intro _;exact Aw (by simp[get]) (λi e h=>DJ (o i e h) (DJ (o i e h) h))
end Go.Ir

namespace Go.Ir
open Go.Proofs
structure SelO (T:Nat) (lo:Option Id) (L:List OS) (n:Nat):Prop where
 nd:((OM T lo L).map (·.1)).Nodup
 lt:∀p∈OM T lo L,p.1.1<n
 ne:lo=none->L=[]
 kn:∀x∈L,x.2=none->x.1.keys=[]
theorem SelO.more{T e L n n'}(h:SelO T e L n)(g:n<=n'):SelO T e L n':=⟨h.nd,λp hp=>AuD (h.lt p hp) g,h.ne,h.kn⟩
theorem Ji{T L}:OM T none L=Bc L:=rfl
theorem AB{T id L}:OM T (some id) L=(id,.arr T 3 (L.map Hf))::Bc L:=rfl
theorem BP{a}{σ:Aq}(h:(σ.map (·.1)).Nodup)(e:∀p∈σ,p.1≠a.1):((a::σ).map (·.1)).Nodup:=by grind
theorem Aj7{a}{σ:Aq}(h:((a::σ).map (·.1)).Nodup):(σ.map (·.1)).Nodup/\∀p∈σ,p.1≠a.1:=by grind
theorem uW{σ τ:Aq}(h:(σ.map (·.1)).Nodup)(k:(τ.map (·.1)).Nodup)(e:∀p∈σ,∀q∈τ,p.1≠q.1):((σ++τ).map (·.1)).Nodup:=by grind
theorem HK{σ τ:Aq}(h:((σ++τ).map (·.1)).Nodup):(σ.map (·.1)).Nodup/\(τ.map (·.1)).Nodup/\∀p∈σ,∀q∈τ,p.1≠q.1:=by rw[A0D,A0n] at h;exact⟨h.1,h.2.1,λp hp q e=>h.2.2 _ (Aov.2 ⟨p,hp,rfl⟩) _ (Aov.2 ⟨q,e,rfl⟩)⟩
theorem WR{σ τ:Aq}(h:(σ.map (·.1)).Nodup)(e:List.Sublist τ σ):(τ.map (·.1)).Nodup:=h.sublist (e.map _)
theorem SelO.arr{T:Nat}{e:Id}{L:List OS}{n:Nat}(h:SelO T (some e) L n):e.1<n/\(∀p∈Bc L,p.1≠e)/\(∀p∈Bc L,p.1.1<n)/\((Bc L).map (·.1)).Nodup:=by have g:((Bc L).map (·.1)).Nodup/\∀p∈Bc L,p.1≠e:=Aj7 (a:=(e,.arr T 3 (L.map Hf))) h.nd;exact⟨h.lt (e,.arr T 3 (L.map Hf)) (by simp[AB]),g.2,λp hp=>h.lt p (by simp[AB,hp]),g.1⟩
theorem SelO.add{T:Nat}{q:Option Id}{L:List OS}{n n':Nat}{id:Id}(h:SelO T q L n)(w:n<=id.1)(i:id.1<n')(k:Int)(r:Aa):SelO T (some id) (L++[(⟨k,r,[]⟩,none)]) n':=by
 have o:Bc (L++[(⟨k,r,[]⟩,none)])=Bc L:=by rw[Cx];simp[Bc,OY]
 have e:∀p∈Bc L,p∈OM T q L:=λp hp=>Axf _ hp;have j:((Bc L).map (·.1)).Nodup:=WR h.nd (A1l _ _);refine⟨?_,?_,(by simp),?_⟩
 .rw[AB,o];refine BP j λp hp u=>?_;have:=h.lt p (e p hp);grind
 .rw[AB,o];intro p hp;rcases Ahk.1 hp with rfl|hp
  .exact i
  .have:=h.lt p (e p hp);omega
 .intro x g s;rcases AfJ.1 g with g|g
  .exact h.kn x g s
  grind
theorem SelO.key{T:Nat}{g:Id}{A B:List OS}{x:OS}{n n':Nat}{id:Id}(h:SelO T (some g) (A++x::B) n)(D:n<=id.1)(z:id.1<n')(s:B4):SelO T (some g) (A++(s,some id)::B) n':=by
 have ⟨h1,h2,h3,h4⟩:=h.arr;have w:Bc (A++x::B)=Bc A++(OY x++Bc B):=by rw[Cx,Dk]
 have i:Bc (A++(s,some id)::B)=Bc A++((id,.arr 9 1 (s.keys.map V.s))::Bc B):=by rw[Cx,Dk];rfl
 rw[w] at h2 h3 h4;have u:∀p∈Bc A++Bc B,p.1≠g/\p.1.1<n:=by
  intro p hp;have:p∈Bc A++(OY x++Bc B):=by grind
  grind
 have o:((Bc A++Bc B).map (·.1)).Nodup:=WR h4 ((List.Sublist.refl _).append (A1l _ _));have ⟨n1,n2,n3⟩:=HK o;refine⟨?_,?_,(by simp),?_⟩
 .rw[AB,i];refine BP (uW n1 (BP n2 λp hp C=>?_) λp hp q r=>?_) λp hp=>?_
  .grind
  .rcases Ahk.1 r with rfl|r
   .grind
   .exact n3 p hp q r
  grind
 .rw[AB,i];intro p hp;rcases Ahk.1 hp with rfl|hp
  .simp only;omega
  grind
 .intro y e j;rcases AfJ.1 e with e|e
  .exact h.kn y (Axe _ e) j
  .rcases Ahk.1 e with rfl|e
   .cases j
   .exact h.kn y (Axf _ (Ab5 _ e)) j
theorem Fs{σi σo pre}(e:∀p∈pre,∀q∈σi,p.1≠q.1):over σi σo (pre++σi)=σo++pre:=by have:=Gw (σi:=σi) (σo:=σo) (pre:=pre) (post:=[]) e (by simp);simpa using this
theorem Y8 A B x y:((A++x::B).map Hf).set A.length (Hf y)=(A++y::B).map Hf:=by simp_all
end Go.Ir
namespace Go.Proofs
open Go.Shelf
def Tryz.lays103_ren:Go.Shelf.Ren:=⟨fun|103=>84|210=>106|206=>102|n=>n,fun|9=>9|4=>4|24=>164|3=>3|n=>n,fun|n=>n⟩
theorem Tryz.lays103:Go.Proofs.Lays.n103 Tryz.prog Tryz.lays103_ren:=by constructor;all_goals intros;kernel_rfl
def Tryz.lays219_ren:Go.Shelf.Ren:=⟨fun|219=>183|217=>220|225=>221|224=>222|267=>223|266=>255|314=>256|n=>n,fun|9=>9|3=>3|4=>4|5=>5|46=>205|146=>325|51=>244|n=>n,fun|1=>0|n=>n⟩
theorem Tryz.lays219:Go.Proofs.Lays.n219 Tryz.prog Tryz.lays219_ren:=by constructor;all_goals intros;kernel_rfl
def Tryz.lays160_ren:Go.Shelf.Ren:=⟨fun|160=>147|232=>185|231=>184|227=>186|234=>188|233=>187|236=>190|235=>189|228=>224|271=>227|151=>226|197=>225|120=>259|152=>258|260=>257|137=>216|119=>276|224=>222|225=>221|217=>220|266=>255|n=>n,fun|9=>9|4=>4|3=>3|5=>5|117=>275|116=>274|0=>0|124=>278|21=>21|105=>304|46=>205|119=>340|139=>343|138=>342|n=>n,fun|3=>1|4=>2|n=>n⟩
theorem Tryz.lays160:Go.Proofs.Lays.n160 Tryz.prog Tryz.lays160_ren:=by constructor;all_goals intros;kernel_rfl
def Tryz.lays162_ren:Go.Shelf.Ren:=⟨fun|162=>191|232=>185|227=>186|234=>188|236=>190|228=>224|271=>227|151=>226|120=>259|197=>225|152=>258|260=>257|137=>216|119=>276|224=>222|225=>221|217=>220|266=>255|n=>n,fun|9=>9|4=>4|3=>3|5=>5|117=>275|116=>274|0=>0|124=>278|21=>21|105=>304|46=>205|119=>340|139=>343|138=>342|n=>n,fun|3=>1|4=>2|n=>n⟩
theorem Tryz.lays162:Go.Proofs.Lays.n162 Tryz.prog Tryz.lays162_ren:=by constructor;all_goals intros;kernel_rfl
def Tryz.lays172_ren:Go.Shelf.Ren:=⟨fun|172=>228|244=>260|245=>261|247=>277|279=>278|280=>279|281=>280|282=>281|287=>291|316=>292|171=>213|205=>293|321=>298|322=>299|243=>253|246=>274|283=>287|284=>288|285=>289|286=>290|129=>144|317=>294|318=>295|319=>296|320=>297|337=>300|338=>301|n=>n,fun|9=>9|3=>3|75=>220|76=>253|4=>4|5=>5|167=>345|37=>132|0=>0|85=>346|2=>2|168=>348|53=>246|175=>356|46=>205|210=>359|127=>176|145=>367|143=>365|21=>21|171=>352|173=>354|212=>362|51=>244|20=>20|213=>363|232=>368|233=>369|80=>138|n=>n,fun|15=>3|16=>4|17=>5|18=>6|19=>7|n=>n⟩
theorem Tryz.lays172:Go.Proofs.Lays.n172 Tryz.prog Tryz.lays172_ren:=by constructor;all_goals intros;kernel_rfl
def Tryz.lays171_ren:Go.Shelf.Ren:=⟨fun|171=>213|243=>253|246=>274|283=>287|284=>288|285=>289|286=>290|129=>144|317=>294|318=>295|319=>296|320=>297|337=>300|338=>301|n=>n,fun|3=>3|9=>9|2=>2|4=>4|171=>352|0=>0|53=>246|37=>132|5=>5|173=>354|212=>362|51=>244|20=>20|213=>363|46=>205|232=>368|233=>369|n=>n,fun|17=>5|18=>6|19=>7|n=>n⟩
theorem Tryz.lays171:Go.Proofs.Lays.n171 Tryz.prog Tryz.lays171_ren:=by constructor;all_goals intros;kernel_rfl
end Go.Proofs
section
namespace Go.Ir
open Go.Proofs Go.RowKit
theorem Hp.below{O σ n μ H w w'}(hp:Hp O σ n μ H w)(g:Below w.heap.size w w'):Hp O σ n μ H w'/\Fr μ H σ w μ H σ w':=by
 have p:By (λ_=>False) w w':=⟨g.os,g.tape,g.output,g.size,λk i _=>g.block k i⟩
 refine⟨⟨hp.base_turned p (λ_ h=>h.elim),hp.pins_turned p (λ_ h=>h.elim),λid e o=>?_,hp.unp,hp.sep,hp.bd⟩,⟨λ_ _ h=>h,λ_ _ h=>h,g.size,λj i _=>g.block j i,λ_ _ _=>rfl,λ_ _ h=>h⟩⟩;exact(hp.ents id e o).keep (λ_ _ h=>h) (λ_ _ h=>h) (λj i=>g.block j ((hp.ents id e o).block i).2)
theorem Ba{P:Program}{O:World}{f:FuncId}{args:List V}{v:V}(j:callable P f=true)
  (h:∀w g,Below O.heap.size O w->(∃μ H,VRels μ H args g)->Calls P f g.toArray w λe w'=>∃val,e=.returned val/\(∀μ H,Ap μ H v val)/\Below w.heap.size w w'):Ak P O f args [] v [] where
 callable:=j
 dom id h:=h
 run n w μ H g hp hv:=by refine(h w g hp.base ⟨μ,H,hv⟩).mono λe w' ⟨val,o,p,i⟩=>?_;have ⟨h1,h2⟩:=hp.below i;exact⟨val,μ,H,n,o,p μ H,h1,Ab6 _,h2,λ_ _ h=>h⟩
theorem Below.drewN_{B a w}(h:Below B a w) n:Below B a (w.drewN n):=⟨h.os,h.tape,h.output,h.size,h.block⟩
theorem VRels.one_s{μ H}{l:Aa}{e}(h:VRels μ H [.s l] e):e=[.string ⟨l.toArray⟩]/\l.length<=AG:=by
 have ⟨v,g,h2⟩:=h.get (k:=0) rfl;have:=h.len
 match e,this,g with
 | [x],_,g=>
  simp at g;subst g;cases h2 with
  | s l i=>exact⟨rfl,i⟩
theorem VRels.two{μ H a b e}(h:VRels μ H [a,b] e):∃x y,e=[x,y]/\Ap μ H a x/\Ap μ H b y:=by
 have:=h.len
 match e,this with
 | [x,y],_=>exact⟨x,y,rfl,h.at_ 0 _ _ rfl rfl,h.at_ 1 _ _ rfl rfl⟩
variable(O:World)
theorem Bx{l:Aa}{μ H x}(h:Ap μ H (.s l) x):x=.string ⟨l.toArray⟩/\l.length<=AG:=by
 cases h with
 | s l e=>exact⟨rfl,e⟩
theorem TL{a b x y}(g:∀μ H,Ap μ H a x)(h:∀μ H,Ap μ H b y):∀μ H,Ap μ H (.tup [a,b]) (.tuple #[x,y]):=
 λμ H=>Ap.tup [a,b] [x,y] rfl λk c v e i=>by
  match k with
  | 0=>grind
  | 1=>grind
  | k+2=>simp at e
theorem Tt(s cs:Aa):(Lib.trimRightS s cs).length<=s.length:=by unfold Lib.trimRightS;rw[A2k];exact AoW (A1e _).length_le (by simp)
theorem AbJ(s cs:Aa):(Lib.trimS s cs).length<=s.length:=by unfold Lib.trimS Lib.trimLeftS;exact AoW (A1e _).length_le (Tt s cs)
theorem Eb(s p:Aa):Ak π O 84 [.s s,.s p] [] (.tup [.s (Lib.trimPrefix s p),.b (Lib.hasPrefix s p)]) []:=by
 refine Ba (by kernel_rfl) λw g u ⟨μ,H,j⟩=>?_;obtain⟨x,y,rfl,q,r⟩:=j.two;obtain⟨rfl,i⟩:=Bx q;obtain⟨rfl,_⟩:=Bx r;refine(Any.strings_CutPrefix Tryz.lays103 ⟨s.toArray⟩ ⟨p.toArray⟩ w).mono λe w' ⟨h,o⟩=>?_;subst o;refine⟨_,h,TL (λ_ _=>.s _ ?_) (λ_ _=>.b _),AyF _ _⟩;unfold Lib.trimPrefix;split
 .rw[A1W];omega
 .exact i
theorem NE(s:Aa) c:Ak π O 183 [.s s,.s [c]] [] (.i .i64 (Lib.indexByte s c)) []:=by refine Ba (by kernel_rfl) λw g r ⟨μ,H,j⟩=>?_;obtain⟨x,y,rfl,p,q⟩:=j.two;obtain⟨rfl,u⟩:=Bx p;obtain⟨rfl,_⟩:=Bx q;refine(Any.stringslite_Index_one Tryz.lays219 ⟨s.toArray⟩ c w).mono λe w' ⟨h,o⟩=>?_;subst o;exact⟨_,h,λ_ _=>.i _ _,AyF _ _⟩
theorem VA(s cs:Aa)(g:cs.length<4294967281)(o:∀b∈cs,b.toNat<128):Ak π O 147 [.s s,.s cs] [] (.s (Lib.trimS s cs)) []:=by refine Ba (by kernel_rfl) λw i B ⟨μ,H,r⟩=>?_;obtain⟨x,y,rfl,z,A⟩:=r.two;obtain⟨rfl,h⟩:=Bx z;obtain⟨rfl,_⟩:=Bx A;refine(Any.strings_Trim_laid Tryz.lays160 (by kernel_rfl) ⟨s.toArray⟩ ⟨cs.toArray⟩ w (by show s.toArray.size<=_;unfold AG at h;simp;omega) (by simpa[ByteArray.size] using g) (λj b q=>o b (Ao6 q))).mono λe w' ⟨p,u⟩=>?_;exact⟨_,p,λ_ _=>.s _ (AoW (AbJ s cs) h),u⟩
theorem Adr(s cs:Aa)(g:cs.length<4294967281)(o:∀b∈cs,b.toNat<128):Ak π O 191 [.s s,.s cs] [] (.s (Lib.trimRightS s cs)) []:=by refine Ba (by kernel_rfl) λw i B ⟨μ,H,r⟩=>?_;obtain⟨x,y,rfl,z,A⟩:=r.two;obtain⟨rfl,h⟩:=Bx z;obtain⟨rfl,_⟩:=Bx A;refine(Any.strings_TrimRight_laid Tryz.lays162 (by kernel_rfl) ⟨s.toArray⟩ ⟨cs.toArray⟩ w (by show s.toArray.size<=_;unfold AG at h;simp;omega) (by simpa[ByteArray.size] using g) (λj b q=>o b (Ao6 q))).mono λe w' ⟨p,u⟩=>?_;exact⟨_,p,λ_ _=>.s _ (AoW (Tt s cs) h),u⟩
theorem Ajz(s:Aa) n (o:s.length<=18)(j:Lib.atoi s=some n):Ak Tryz.prog O 228 [.s s] [] (.tup [.i .i64 n,.ni]) []:=by refine Ba (by kernel_rfl) λw g r ⟨μ,H,p⟩=>?_;obtain⟨rfl,u⟩:=p.one_s;refine(Any.strconv_Atoi Tryz.lays172 ⟨s.toArray⟩ n (by simpa[ByteArray.size] using o) j w).mono λe w' ⟨h,t,q⟩=>?_;refine⟨_,h,TL (λ_ _=>.i _ _) (λ_ _=>.ni),?_⟩;rw[q];exact Lib.bytesWorld_below _ _ _
theorem AkK(i:Nat)(p:i<100):Ak π O 213 [.i .i64 i] [] (.s (Lib.decDigits i)) []:=by
 refine Ba (by kernel_rfl) λw g u ⟨μ,H,j⟩=>?_;have h:=j.len;obtain⟨x,rfl⟩:∃x,g=[x]:=by
  match g,h with
  | [x],_=>exact⟨x,rfl⟩
 have r:=j.at_ 0 _ _ rfl rfl;cases r;refine(Any.strconv_Itoa_small Tryz.lays171 i p w).mono λe w' ⟨o,q⟩=>?_;subst q;refine⟨_,o,λ_ _=>.s _ ?_,AyF _ _⟩;unfold AG;unfold Lib.decDigits;split
 .simp
 .unfold Lib.decDigits;rw[dif_pos (by omega)];simp
end Go.Ir
end
namespace Go.Ir
open Go.Proofs
variable{P:Program}{O:World}{nt n:Nat}{Q:Exit→St→Prop}{env:BB}{σ:Aq}
def zJ:IC:=oS [mC 4 (.s []),mC 5 (.s []),mC 6 (.b false)] [0,1] (oR [m1 7 0,m1 8 1,q2 9 146 7 8,xT 10 9 0,xT 11 9 1,xT 12 9 2,m1 4 10,m1 5 11,m1 6 12] [4,5,6])
def Asx:List R:=[.t 4,.t 5,.t 6]
def Azb:=AR zJ.eq_1
theorem Ake:Ao π 107 13 zJ Asx=true:=by kernel_rfl
def lL:IC:=sQ (.ops [m1 13 0,m1 14 7,o1 15 (.slS (.t 13) none (some (.t 14))),m1 16 0,m1 17 7,m1 18 1,nS 19 18,bT 20 .add 17 19,o1 21 (.slS (.t 16) (some (.t 20)) none),m1 4 15,m1 5 21,mC 6 (.b true)] [4,5,6] [[0,2],[1,2],[5,6],[4,7],[6,7],[3,8],[7,8],[2,9],[8,10]]) .ret
def Abd:IC:=sQ (oS [m1 8 0,m1 9 1,q2 10 183 8 9,m1 7 10] [0,1,7] (oS [m1 11 7,bZ 12 .geq 11 0] [0,1,7,12] (cD 12 lL .skip))) (oR [m1 22 0,m1 4 22,mC 5 (.s []),mC 6 (.b false)] [4,5,6])
def nU:IC:=oS [mC 4 (.s []),mC 5 (.s []),mC 6 (.b false)] [0,1] Abd
def Ap3:List R:=[.t 4,.t 5,.t 6]
def AyR:=An lL.eq_1<|An Abd.eq_1<|AR nU.eq_1
theorem oL:Ao π 146 23 nU Ap3=true:=by kernel_rfl
def v6:IC:=oS [mC 2 (.b false)] [0] (oR [m1 3 0,o1 4 (.call 147 [.t 3,.c (.s [48,49,50,51,52,53,54,55,56,57])]),bC 5 .eql 4 (.s []),m1 2 5] [2])
def Atq:List R:=[.t 2]
def AxZ:=AR v6.eq_1
theorem Alz:Ao π 108 6 v6 Atq=true:=by kernel_rfl
def vT:IC:=oS [mC 2 (.b false)] [0] (oR [m1 3 0,o1 4 (.call 147 [.t 3,.c (.s [48])]),bC 5 .eql 4 (.s []),m1 2 5] [2])
def Aqx:List R:=[.t 2]
def Ay4:=AR vT.eq_1
theorem Alu:Ao π 148 6 vT Aqx=true:=by kernel_rfl
def wX:IC:=oS [bX 1 0,mC 2 (.b false)] [1] (oR [fA 3 1 1,l1 4 3,q1 5 148 4,m1 6 5,Fa 7 6 1 2,E3 8 6 7,gT 9 6 (.call 148 [.t 8]),pA 10 6 9,m1 2 10] [2])
def Aqf:List R:=[.t 2]
def AyH:=AR wX.eq_1
theorem uE:Ao π 109 11 wX Aqf=true:=by kernel_rfl
def mX:IC:=oS [m1 51 8,m1 52 51,BY 53 52 7,gT 54 52 (.lenS (.t 53)),Gi 55 52 .eql 54 0,pA 56 52 55,m1 57 56,BU 58 57 7,gF 59 57 (.lenS (.t 58)),Fg 60 57 .gtr 59 6,pO 61 57 60,m1 62 61,BU 63 62 7,gF 64 62 (.call 108 [.t 63]),gF 65 62 (.not (.t 64)),pO 66 62 65,m1 50 66] [2,5,9,50] (cD 50 (oR [lA 67 9 3,sT 2 67 3,mC 3 (.b false)] [2,3]) .skip)
def nQ:IC:=sQ (.ops [lA 68 9 3,m1 69 5,nT 70 69,m1 71 70,gF 72 71 (.load (.t 9) 3 true),gF 73 71 (.call 109 [.t 72]),gF 74 71 (.not (.t 73)),pO 75 71 74,sT 2 68 3,m1 3 75] [2,3] [[1,2],[2,3],[3,4],[3,5],[4,5],[3,6],[5,6],[3,7],[6,7],[0,8],[4,5,8],[7,9]]) .ret
def AgA:IC:=sQ (.block 0 (oS [m1 26 6,nS 27 26,bZ 28 .lss 27 1,m1 29 28,BU 30 29 6,gF 31 29 (.lenS (.t 30)),Fg 32 29 .gtr 31 15,pO 33 29 32,m1 34 33,BU 35 34 6,gF 36 34 (.call 108 [.t 35]),gF 37 34 (.not (.t 36)),pO 38 34 37,m1 39 38,BU 40 39 6,gF 41 39 (.lenS (.t 40)),Fg 42 39 .gtr 41 1,BU 43 39 42,BY 44 43 6,gT 45 43 (.idx (.t 44) (ci 0)),gT 46 43 (.bin .eql (.t 45) (.c (.i .u8 48))),gF 47 39 (.pick (.t 43) (.t 46) (.c (.b false))),pO 48 39 47,m1 25 48] [2,5,7,8,9,25] (cD 25 (oR [lA 49 9 3,sT 2 49 3,mC 3 (.b false)] [2,3]) mX))) nQ
def Aic:IC:=oS [m1 21 5,m1 22 6,m1 23 7,o1 24 (.build [.b false,.s [],.s []] [(0,1,.t 21),(1,1,.t 22),(2,1,.t 23)]),o1 9 (.alloc (.agg [.b false,.s [],.s []])),sT 9 24 3] [2,5,6,7,8,9] AgA
def Agd:IC:=oS [m1 11 0,o1 12 (.call 84 [.t 11,.c (.s [45])]),m1 10 12,xT 13 10 0,xT 14 10 1,m1 4 13,m1 5 14] [2,4,5] (oS [m1 16 4,o1 17 (.call 107 [.t 16,.c (.s [46])]),m1 15 17,xT 18 15 0,xT 19 15 1,xT 20 15 2,m1 6 18,m1 7 19,m1 8 20] [2,5,6,7,8] Aic)
def AiT:IC:=oS [o1 2 (.alloc (.agg [.b false,.s [],.s []])),mC 3 (.b false)] [0,2] Agd
def AwZ:List R:=[.c 2 3 true,.t 3]
def Az8:=An mX.eq_1<|An nQ.eq_1<|An AgA.eq_1<|An Aic.eq_1<|An Agd.eq_1<|AR AiT.eq_1
theorem Ag4:Ao π 86 76 AiT AwZ=true:=by kernel_rfl
def AhA:IC:=oS [mC 2 (.b false)] [0] (oS [m1 6 0,q1 7 86 6,m1 5 7,xT 8 5 0,xT 9 5 1,o1 3 (.alloc (.agg [.b false,.s [],.s []])),sT 3 8 3,m1 4 9] [4] (oR [m1 10 4,m1 2 10] [2]))
def AwQ:List R:=[.t 2]
def A0a:=AR AhA.eq_1
theorem As1:Ao π 52 11 AhA AwQ=true:=by kernel_rfl
def yK:IC:=oS [mZ 2 0] [0] (oS [m1 6 0,o1 7 (.bin .add (.c (.s [48])) (.t 6)),q1 8 228 7,m1 5 8,xT 9 5 0,xT 10 5 1,m1 3 9,m1 4 10] [3] (oR [m1 11 3,m1 2 11] [2]))
def Aq8:List R:=[.t 2]
def Azi:=AR yK.eq_1
theorem AnJ:Ao π 192 12 yK Aq8=true:=by kernel_rfl
def XO:IC:=sQ (oS [m1 22 8,bC 23 .neq 22 (.s [])] [6,23] (cD 23 (oR [mZ 4 0,mZ 5 8] [4,5]) .skip)) (oR [fA 24 6 1,l1 25 24,q1 26 192 25,m1 4 26,mZ 5 0] [4,5])
def YE:IC:=cD 41 (oR [fA 43 6 2,l1 44 43,q1 45 192 44,m1 4 45,mZ 5 0] [4,5]) (oS [bZ 47 .eql 19 6,m1 46 47] [8,46] (cD 46 (oR [m1 48 8,q1 49 192 48,m1 4 49,mZ 5 0] [4,5]) .skip))
def YV:IC:=cD 32 (oR [fA 34 6 2,l1 35 34,nS 36 35,m1 4 36,mZ 5 0] [4,5]) (oS [bZ 38 .eql 19 4,m1 37 38] [6,8,19,37] (cD 37 (oR [m1 39 8,nS 40 39,m1 4 40,mZ 5 0] [4,5]) (oS [bZ 42 .eql 19 5,m1 41 42] [6,8,19,41] YE)))
def YG:IC:=cD 20 XO (oS [bZ 28 .eql 19 2,m1 27 28] [6,8,19,27] (cD 27 (oR [fA 29 6 1,l1 30 29,q1 31 192 30,m1 4 31,mZ 5 0] [4,5]) (oS [bZ 33 .eql 19 3,m1 32 33] [6,8,19,32] YV)))
def ZY:IC:=oS [fA 16 6 2,l1 17 16,o1 18 (.call 191 [.t 17,.c (.s [48])]),m1 8 18] [1,6,8] (sQ (oS [m1 19 1] [6,8,19] (.block 0 (oS [bZ 21 .eql 19 1,m1 20 21] [6,8,19,20] YG))) (oR [mZ 4 0,mZ 5 1] [4,5]))
def mK:IC:=oS [m1 10 0,q1 11 86 10,m1 9 11,xT 12 9 0,xT 13 9 1,o1 6 (.alloc (.agg [.b false,.s [],.s []])),sT 6 12 3,m1 7 13] [1,6,7] (sQ (oS [m1 14 7,nT 15 14] [1,6,15] (cD 15 (oR [mZ 4 0,mZ 5 1] [4,5]) .skip)) ZY)
def zL:IC:=oS [mZ 4 0,mZ 5 0] [0,1] mK
def ArG:List R:=[.t 4,.t 5]
def Ay2:=An XO.eq_1<|An YE.eq_1<|An YV.eq_1<|An YG.eq_1<|An ZY.eq_1<|An mK.eq_1<|AR zL.eq_1
theorem m5:Ao π 150 50 zL ArG=true:=by kernel_rfl
attribute[push_cast]Asx Azb Ap3 AyR Atq AxZ Aqx Ay4 Aqf AyH AwZ Az8 AwQ A0a Aq8 Azi ArG Ay2
end Go.Ir

namespace Go.Ir
open Go.Proofs
variable(O:World)
theorem Alh(w r:Aa)(h:∀x∈w,(x !=46)=true)(i:∀x∈r.head?,(x !=46)=false)(g:w.length<=2^40):Ak π O 146 [.s (w++r),.s [46]] [] (.tup [.s w,.s r.tail,.b (!r.isEmpty)]) []:=by
 cases r with
 | nil=>
  refine Ac (vs:=[.s w,.s [],.b false]) oL (by simp) (by simp) λn0 e=>?_;clear e;simp only[push_cast,seval];repeat' (first|(first|(apply AL<;>intro _h)|refine Ab (NE O _ _) ?_)<;>(simp only[push_cast,seval,kV h];try (have _g:=_h;simp at _g))|intro _)
  all_goals (first|(refine Af ?_;simp[get]<;>(intros;omega);done)|(exact Gj;done)|skip)
 | cons c t=>
  have:c=46:=by simp_all
  subst this;refine Ac (vs:=[.s w,.s t,.b true]) oL (by simp) (by simp) λn0 e=>?_;clear e;simp only[push_cast,seval];repeat' (first|(first|(apply AL<;>intro _h)|refine Ab (NE O _ _) ?_)<;>(simp only[push_cast,seval,AdM h,Ae (46:UInt8) (dn:=w) (by omega)];try (have _g:=_h;simp at _g))|intro _)
  all_goals (first|(refine Af ?_;simp[get]<;>(intros;omega);done)|(exact Gj;done)|skip)
theorem Ara(w r:Aa)(h:∀x∈w,(x !=46)=true)(i:∀x∈r.head?,(x !=46)=false)(g:w.length<=2^40):Ak π O 107 [.s (w++r),.s [46]] [] (.tup [.s w,.s r.tail,.b (!r.isEmpty)]) []:=by
 refine Ac (vs:=[.s w,.s r.tail,.b (!r.isEmpty)]) Ake (by simp) (by simp) λn0 e=>?_;clear e;push_cast;repeat' (first|(first|(apply AL<;>intro _h)|refine Ab (Alh O w r h i g) ?_)<;>(push_cast[_h];try (have _g:=_h;simp at _g))|intro _)
 all_goals (first|(refine Af ?_;simp[get]<;>(intros;omega);done)|(exact Gj;done)|skip)
theorem KG(s:Aa):Ak π O 108 [.s s] [] (.b (CG s)) []:=by
 refine Ac (vs:=[.b (CG s)]) Alz (by simp) (by simp) λn0 e=>?_;clear e;push_cast;repeat' (first|(first|(apply AL<;>intro _h)|refine Ab (VA O _ _ (by decide) (by decide)) ?_)<;>(push_cast[_h,SC];try (have _g:=_h;simp at _g))|intro _)
 all_goals (first|(refine Af ?_;simp[get]<;>(intros;omega);done)|(exact Gj;done)|skip)
theorem Abh(s:Aa):Ak π O 148 [.s s] [] (.b (E9 s)) []:=by
 refine Ac (vs:=[.b (E9 s)]) Alu (by simp) (by simp) λn0 e=>?_;clear e;push_cast;repeat' (first|(first|(apply AL<;>intro _h)|refine Ab (VA O _ _ (by decide) (by decide)) ?_)<;>(push_cast[_h,Vs];try (have _g:=_h;simp at _g))|intro _)
 all_goals (first|(refine Af ?_;simp[get]<;>(intros;omega);done)|(exact Gj;done)|skip)
def Mj(s:Aa):V:=.agg [.b (Lw s),.s (Bb s),.s (BC s)]
theorem XK s:Ak π O 109 [Mj s] [] (.b (E9 (Bb s)&&E9 (BC s))) []:=by
 unfold Mj;refine Ac (vs:=[.b (E9 (Bb s)&&E9 (BC s))]) uE (by simp) (by simp) λn0 e=>?_;clear e;simp only[push_cast,rq];repeat' (first|(first|(apply AL<;>intro _h)|refine Ab (Abh O _) ?_)<;>(simp only[push_cast,rq,_h];try (have _g:=_h;simp at _g))|intro _)
 all_goals (first|(refine Af ?_;simp[get]<;>(intros;omega);done)|(refine Ah ?_;simp[push_cast,get, *];done)|skip)
theorem W5 s (e:s.length<=2^40):Ak π O 107 [.s (IM s),.s [46]] [] (.tup [.s (Bb s),.s (BC s),.b (!(Sq s).isEmpty)]) []:=by have:=Mi s;rw[K4];exact Ara O _ _ (Pv _) (mF s) (by omega)
theorem MQ(s:Aa)(h:s.length<=2^40):Ak π O 86 [.s s] [] (.tup [Mj s,.b (E6 s)]) []:=by
 generalize hS:E6 s=S;unfold E6 at hS;rcases hW:(Bb s)[0]? with _|c
 .have g:(Bb s).length=0:=by simpa using hW
  rw[g] at hS;subst hS;refine Ac (vs:=[Mj s,.b _]) Ag4 (by simp) (by simp) λn0 e=>?_;clear e;simp only[push_cast,seval];repeat' (first|(first|(apply AL<;>intro _h)|refine Ab ((Eb O s [45])) ?_|refine Ab (W5 O s h) ?_|refine Ab (KG O (Bb s)) ?_|refine Ab (KG O (BC s)) ?_|refine Ab (XK O s) ?_)<;>(simp only[push_cast,seval,EZ,FY,g];try (have _g:=_h;simp at _g))|intro _)
  all_goals (first|(refine Af ?_;simp[get,Mj]<;>(intros;omega);done)|(refine Ah ?_;simp[push_cast,Mj];done)|skip)
 .have i:AaF (Bb s)=((c.toNat:Int)==48):=by simp[AaF,hW]
  rw[i] at hS;subst hS;refine Ac (vs:=[Mj s,.b _]) Ag4 (by simp) (by simp) λn0 e=>?_;clear e;simp only[push_cast,seval];repeat' (first|(first|(apply AL<;>intro _h)|refine Ab ((Eb O s [45])) ?_|refine Ab (W5 O s h) ?_|refine Ab (KG O (Bb s)) ?_|refine Ab (KG O (BC s)) ?_|refine Ab (XK O s) ?_)<;>(simp only[push_cast,seval,_h,EZ,FY,hW];try (have _g:=_h;simp at _g))|intro _)
  all_goals (first|(refine Af ?_;simp[get,Mj, *]<;>(intros;omega);done)|(refine Ah ?_;simp[push_cast,get,Mj, *];done)|skip)
theorem I3(s:Aa)(g:s.length<=2^40):Ak π O 52 [.s s] [] (.b (E6 s)) []:=by
 have:=MQ O s g;unfold Mj at this;refine Ac (vs:=[.b (E6 s)]) As1 (by simp) (by simp) λn0 e=>?_;clear e;simp only[push_cast,rq];repeat' (first|(first|(apply AL<;>intro _h)|refine Ab this ?_)<;>(simp only[push_cast,rq];try (have _g:=_h;simp at _g))|intro _)
 all_goals (first|(refine Af ?_;simp[get]<;>(intros;omega);done)|(exact Gj;done)|skip)
theorem QL s (h:CG s=true)(o:s.length<=15):Ak π O 192 [.s s] [] (.i .i64 (NA 0 s)) []:=by
 have j:=Ajz O (48::s) _ (by simp;omega) (pZ s h);have g:1+s.length<=AG:=by unfold AG;omega
 refine Ac (vs:=[.i .i64 (NA 0 s)]) AnJ (by simp) (by simp) λn0 e=>?_;clear e;push_cast[g];repeat' (first|(first|(apply AL<;>intro _h)|refine Ab j ?_)<;>(push_cast[_h,g];try (have _g:=_h;simp at _g))|intro _)
 all_goals (first|(refine Af ?_;simp[get]<;>(intros;omega);done)|(exact Gj;done)|skip)
theorem Apu(s:Aa) o (p:s.length<=2^40):Ak π O 150 [.s s,.i .i64 o] [] (.tup [.i .i64 (opV s o).1,.i .i64 (opV s o).2]) []:=by
 have g:=MQ O s p;have h:=Adr O (BC s) [48] (by decide) (by decide);unfold Mj at g;rw[show Lib.trimRightS (BC s) [48]=K9 (BC s) from rfl] at h;by_cases j:E6 s=true
 .have ⟨hd1,hd2,hl1,hl2⟩:=HZ j;have q:=uI (BC s);have v1:=QL O (Bb s) hd1 hl1;have v2:=QL O (BC s) hd2 (by omega);have v3:=QL O (K9 (BC s)) (RL hd2) (by omega);generalize hS:opV s o=S;unfold opV at hS;refine Ac (vs:=[.i .i64 S.1,.i .i64 S.2]) m5 (by simp) (by simp) λn0 e=>?_;clear e;simp only[push_cast,rq];repeat' (first|(first|(apply AL<;>intro _h)|refine Ab g ?_|refine Ab h ?_|refine Ab v1 ?_|refine Ab v2 ?_|refine Ab v3 ?_)<;>(simp only[push_cast,rq,_h,j];try (have _g:=_h;simp at _g))|intro _)
  all_goals subst hS
  all_goals (first|(refine Af ?_;simp[get, *]<;>(intros;omega);done)|(refine Ah ?_;simp[push_cast, *];done)|skip)
 .generalize hS:opV s o=S;unfold opV at hS;rw[AfL j] at hS;subst hS;rw[Bool.not_eq_true] at j;refine Ac (vs:=[.i .i64 0,.i .i64 1]) m5 (by simp) (by simp) λn0 e=>?_;clear e;simp only[push_cast,rq];repeat' (first|(first|(apply AL<;>intro _h)|refine Ab g ?_|refine Ab h ?_)<;>(simp only[push_cast,rq,j];try (have _g:=_h;simp at _g))|intro _)
  all_goals (first|(refine Af ?_;simp[get, *]<;>(intros;omega);done)|(refine Ah ?_;simp[push_cast];done)|skip)

end Go.Ir

namespace Go.Ir
open Go.Proofs
variable{P:Program}{O:World}{nt n:Nat}{Q:Exit→St→Prop}{env:BB}{σ:Aq}
def YB:IC:=oR [m1 16 1,q1 17 166 16,m1 18 17,BU 19 18 6,BU 20 18 19,BY 21 20 5,gT 22 20 (.call 52 [.t 21]),gF 23 18 (.pick (.t 20) (.t 22) (.c (.b false))),pO 24 18 23,m1 4 24] [4]
def rZ:IC:=sQ (oS [m1 7 0,bZ 8 .eql 7 9] [1,8] (cD 8 (oR [m1 9 1,q1 10 47 9,m1 4 10] [4]) .skip)) (oS [m1 12 1,o1 13 (.call 84 [.t 12,.c (.s [61])]),m1 11 13,xT 14 11 0,xT 15 11 1,m1 5 14,m1 6 15] [1,5,6] YB)
def oT:IC:=oS [mC 4 (.b false)] [0,1] rZ
def As6:List R:=[.t 4]
def Aza:=An YB.eq_1<|An rZ.eq_1<|AR oT.eq_1
theorem WF:Ao π 121 25 oT As6=true:=by kernel_rfl
def rF:IC:=oS [bZ 21 .eql 9 7,m1 18 21] [1,3,4,9,18] (cD 18 .skip (oS [bZ 22 .eql 9 8,m1 18 22] [1,3,4,9,18] (cD 18 .skip (oP [bZ 23 .eql 9 9,m1 18 23] [1,3,4,9,18]))))
def AaG:IC:=oP [fA 35 1 3,l1 36 35,bC 37 .eql 36 (.s []),m1 38 37,E5 39 38 1 3,Eh 40 38 39,gF 41 38 (.bin .eql (.t 40) (.c (.s [105,110,116,101,103,101,114]))),pO 42 38 41,m1 43 42,E5 44 43 1 3,Eh 45 43 44,gF 46 43 (.bin .eql (.t 45) (.c (.s [112,101,114,99,101,110,116]))),pO 47 43 46,m1 4 47] [1,3,4]
def zG:IC:=sQ (.ops [fA 29 1 2,l1 30 29,fA 31 1 3,l1 32 31,fA 33 3 2,⟨none,.store (.t 33) (.t 30) 1,none,[.t 31]⟩,fA 34 3 3,sT 34 32 1] [1,3] [[0,1],[2,3],[1,5],[4,5],[1,7],[3,7],[5,7],[6,7]]) AaG
def xM:IC:=sQ (.ops [fA 51 1 2,l1 52 51,fA 53 1 3,l1 54 53,fA 55 3 2,⟨none,.store (.t 55) (.t 52) 1,none,[.t 53]⟩,fA 56 3 3,sT 56 54 1] [1,3] [[0,1],[2,3],[1,5],[4,5],[1,7],[3,7],[5,7],[6,7]]) (oP [fA 57 1 3,l1 58 57,q1 59 47 58,m1 4 59] [1,3,4])
def Aa4:IC:=sQ (.ops [fA 62 1 2,l1 63 62,fA 64 1 3,l1 65 64,fA 66 3 2,⟨none,.store (.t 66) (.t 63) 1,none,[.t 64]⟩,fA 67 3 3,sT 67 65 1] [1,3] [[0,1],[2,3],[1,5],[4,5],[1,7],[3,7],[5,7],[6,7]]) (oP [fA 68 1 3,l1 69 68,q1 70 120 69,m1 4 70] [1,3,4])
def uN:IC:=oS [bZ 61 .eql 9 5,m1 60 61] [1,3,4,9,60] (cD 60 Aa4 (oS [bZ 72 .eql 9 10,m1 71 72] [1,3,4,71] (cD 71 .skip (oP [mC 4 (.b false)] [1,3,4]))))
def zN:IC:=oS [bZ 28 .eql 9 3,m1 27 28] [1,3,4,9,27] (cD 27 zG (sQ (oS [bZ 49 .eql 9 4,m1 48 49] [1,3,4,9,48] (cD 48 .skip (oP [bZ 50 .eql 9 6,m1 48 50] [1,3,4,9,48]))) (cD 48 xM uN)))
def rX:IC:=sQ (oS [bZ 19 .eql 9 2,m1 18 19] [1,3,4,9,18] (cD 18 .skip (oS [bZ 20 .eql 9 11,m1 18 20] [1,3,4,9,18] (cD 18 .skip rF)))) (cD 18 (oP [fA 24 1 2,l1 25 24,fA 26 3 2,sT 26 25 1] [1,3,4]) zN)
def Ais:IC:=.block 0 (oS [bZ 11 .eql 9 1,m1 10 11] [1,3,4,9,10] (cD 10 (oS [fA 12 1 1,l1 13 12,fA 14 3 1,sT 14 13 1] [1,3] (oP [fA 15 1 1,l1 16 15,bC 17 .neq 16 (.s []),m1 4 17] [1,3,4])) rX))
def oU:IC:=oR [m1 92 4,m1 93 92,Fa 94 93 1 1,E3 95 93 94,Fa 96 93 3 1,E3 97 93 96,gT 98 93 (.bin .eql (.t 95) (.t 97)),pA 99 93 98,m1 100 99,Fa 101 100 1 2,E3 102 100 101,Fa 103 100 3 2,E3 104 100 103,gT 105 100 (.bin .eql (.t 102) (.t 104)),pA 106 100 105,m1 107 106,Fa 108 107 1 3,E3 109 107 108,Fa 110 107 3 3,E3 111 107 110,gT 112 107 (.bin .eql (.t 109) (.t 111)),pA 113 107 112,m1 114 113,Fa 115 114 1 4,E3 116 114 115,gT 117 114 (.lenL (.t 116)),Gi 118 114 .eql 117 0,BY 119 114 118,E5 120 119 1 0,Eh 121 119 120,gF 122 119 (.call 42 [.t 121]),gT 123 114 (.pick (.t 119) (.c (.b true)) (.t 122)),pA 124 114 123,m1 125 124,Fa 126 125 1 5,E3 127 125 126,gT 128 125 (.lenL (.t 127)),Gi 129 125 .eql 128 0,BY 130 125 129,E5 131 130 1 0,Eh 132 130 131,Fg 133 130 .eql 132 11,gT 134 125 (.pick (.t 130) (.c (.b true)) (.t 133)),pA 135 125 134,m1 2 135] [2]
def xZ:IC:=sQ (oS [fA 73 3 2,l1 74 73,bC 75 .neq 74 (.s []),m1 76 75,E5 77 76 1 0,Eh 78 76 77,Fg 79 76 .neq 78 1,BU 80 76 79,Fa 81 80 1 0,E3 82 80 81,Gi 83 80 .neq 82 10,gF 84 76 (.pick (.t 80) (.t 83) (.c (.b false))),pO 85 76 84] [1,3,4,85] (cD 85 (oP [m1 86 4,m1 87 86,Fa 88 87 1 2,E3 89 87 88,gT 90 87 (.call 47 [.t 89]),pA 91 87 90,m1 4 91] [1,3,4]) .skip)) oU
def Aix:IC:=oS [fA 5 1 0,l1 6 5,o1 7 (.build [.i .i64 0,.s [],.s [],.s [],.nil,.nil] [(0,1,.t 6)]),o1 3 (.alloc (.agg [.i .i64 0,.s [],.s [],.s [],.nil,.nil])),sT 3 7 6] [1,3] (oS [mC 4 (.b true)] [1,3,4] (sQ (oS [fA 8 1 0,l1 9 8] [1,3,4,9] Ais) xZ))
def Aga:IC:=oS [bX 1 0,mC 2 (.b false)] [1] Aix
def AwJ:List R:=[.t 2]
def Az3:=An rF.eq_1<|An AaG.eq_1<|An zG.eq_1<|An xM.eq_1<|An Aa4.eq_1<|An uN.eq_1<|An zN.eq_1<|An rX.eq_1<|An Ais.eq_1<|An oU.eq_1<|An xZ.eq_1<|An Aix.eq_1<|AR Aga.eq_1
theorem Iq:Ao π 89 136 Aga AwJ=true:=by kernel_rfl
attribute[push_cast]As6 Aza AwJ Az3
end Go.Ir

namespace Go.Ir
open Go.Proofs
variable(O:World)
def bV:Aa->Bool
 | []=>false
 | c::t=>(c.toNat:Int)==61&&E6 t
def Lv(kind:Int)(s:Aa):Bool:=if kind==9 then BF s else Kt s||bV s
theorem Tb:E6 []=false:=by decide
theorem Ajv kind (s:Aa)(r:s.length<=2^30):Ak π O 121 [.i .i64 kind,.s s] [] (.b (Lv kind s)) []:=by
 generalize hS:Lv kind s=S;unfold Lv at hS;have h:=Ds O s (by unfold AG;omega);have j:=Aah O s;have g:=Eb O s [61];cases s with
 | nil=>
  have o:=I3 O [] (by simp);refine Ac (vs:=[.b S]) WF (by simp) (by simp) λn0 e=>?_;clear e;simp only[push_cast,rq];repeat' (first|(first|(apply AL<;>intro _h)|refine Ab h ?_|refine Ab j ?_|refine Ab g ?_|refine Ab o ?_)<;>(simp only[push_cast,rq,_h];try (have _g:=_h;simp at _g))|intro _)
  all_goals subst hS
  all_goals (first|(refine Af ?_;simp[get,bV,Tb, *]<;>(intros;omega);done)|(refine Ah ?_;simp[push_cast,get,bV,Tb, *];done)|skip)
 | cons c t=>
  have hp:Lib.hasPrefix (c::t) [61]=((c.toNat:Int)==61):=by unfold Lib.hasPrefix;simp only[List.isPrefixOf,A0e];rw[Aym];simp[<-A1y];omega
  have q:Lib.trimPrefix (c::t) [61]=if((c.toNat:Int)==61)=true then t else c::t:=by unfold Lib.trimPrefix;rw[hp];rfl
  rw[hp,q] at g;generalize BF (c::t)=N at h hS;generalize Kt (c::t)=C at j hS;rw[bV] at hS;have o:=I3 O t (by simp at r;omega);rcases Ay8 ((c.toNat:Int)==61) with p|p
  all_goals (rw[p] at g hS;simp only[AbA,AxA,AyN,Ab7,Ab9] at g hS)
  .skip;refine Ac (vs:=[.b S]) WF (by simp) (by simp) λn0 e=>?_;clear e;simp only[push_cast,rq];repeat' (first|(first|(apply AL<;>intro _h)|refine Ab h ?_|refine Ab j ?_|refine Ab g ?_|refine Ab o ?_)<;>(simp only[push_cast,rq,_h];try (have _g:=_h;simp at _g))|intro _)
   all_goals subst hS
   all_goals (first|(refine Af ?_;simp[get, *]<;>(intros;omega);done)|(refine Ah ?_;simp[push_cast,get, *];done)|skip)
  .skip;refine Ac (vs:=[.b S]) WF (by simp) (by simp) λn0 e=>?_;clear e;simp only[push_cast,rq];repeat' (first|(first|(apply AL<;>intro _h)|refine Ab h ?_|refine Ab j ?_|refine Ab g ?_)<;>(simp only[push_cast,rq,_h];try (have _g:=_h;simp at _g))|intro _)
   all_goals subst hS
   all_goals (first|(refine Af ?_;simp[get, *]<;>(intros;omega);done)|(refine Ah ?_;simp[push_cast,get, *];done)|skip)
def wT(p:Ad):Aa:=if p.kind==1 then p.text else[]
def wN(p:Ad):Aa:=if p.kind==1 then[] else if p.kind==10 then[] else if p.kind==2 then p.name else if p.kind==3||p.kind==4||p.kind==5||p.kind==6 then p.name else[]
def wS(p:Ad):Aa:=if p.kind==1 then[] else if p.kind==10 then[] else if p.kind==2 then[] else if p.kind==3||p.kind==4||p.kind==5||p.kind==6 then p.style else[]
def OJ(p:Ad)(c:Bool):Bool:=
 if p.kind==1 then !(p.text==[]) else if p.kind==10 then c else if p.kind==2 then BF p.name
 else if p.kind==3||p.kind==4||p.kind==5||p.kind==6 then BF p.name&&(if p.kind==3 then p.style==[]||p.style==[105,110,116,101,103,101,114]||p.style==[112,101,114,99,101,110,116] else if p.kind==5 then FQ p.style else BF p.style)
 else false
def IB(p:Ad)(c:Bool):Bool:=OJ p c&&((p.cases.length:Int)==0)&&((p.parts.length:Int)==0)&&(p.text==wT p)&&(p.name==wN p)&&(p.style==wS p)
end Go.Ir
section
namespace Go.Ir
open Go.Proofs
variable(O:World)
theorem Ag.frz{O:World}{nt n n':Nat}{env env':BB}{σ:Aq}{id:Id}{e sz:Nat}{es:List V}(q:lk σ id=none)(w:∀y∈es,y.ok=true)
  (j:∀s,get env' s=get env s\/(get env s=.arr id/\get env' s=.sl es))(p:n<=n'):Ag O nt ⟨env,(id,.arr e sz es)::σ,n⟩ ⟨env',σ,n'⟩:=by
 refine Ag.weak (λi=>if i=id then some es else none) (λi es' h=>?_) (λs=>?_) (λi e' h=>?_) p
 .split at h
  .rename_i u;subst u;cases h;exact⟨⟨e,sz,by simp[lk]⟩,q⟩
  .cases h
 .rcases j s with h|⟨o,g⟩
  .rw[h];exact .refl _
  .rw[o,g];refine .arr id es es (by simp) rfl (λk c r o g=>?_) (λk c r o g=>?_)
   .rw[o] at g;cases g;exact .refl _
   grind
 .refine⟨e',Cj q i e' h,.refl _⟩
theorem Ag.frzAt{O nt n n' s env σ id}{e sz:Nat}{es}(o:get env s=.arr id)(j:lk σ id=none)(i:∀y∈es,y.ok=true)(g:n<=n') :
  Ag O nt ⟨env,(id,.arr e sz es)::σ,n⟩ ⟨(s,.sl es)::env,σ,n'⟩:=by
 refine Ag.frz j i (λt=>?_) g;by_cases h:s=t
 .subst h;exact .inr ⟨o,by simp[get]⟩
 .exact .inl (by simp[get,h])
theorem Ag.envD{O nt n n' env env' σ}(e:∀s,get env' s=get env s\/get env' s=.any)(g:n<=n'):Ag O nt ⟨env,σ,n⟩ ⟨env',σ,n'⟩:=by
 refine Ag.weak (λ_=>none) (λ_ _ h=>by cases h) (λs=>?_) (λi e' h=>⟨e',h,.refl _⟩) g;rcases e s with h|h
 .rw[h];exact .refl _
 .rw[h];exact .any _
def AdU(k:Int)(n:Aa)(l:List Aa):List Aa:=if decide (k>=2)&&decide (k<=9)&&!l.contains n then l++[n] else l
mutual
def Ad.names:Ad->List Aa->List Aa
 | ⟨k,_,n,_,cs,ps⟩,l=>G4 cs (DL ps (AdU k n l))
def DL:List Ad->List Aa->List Aa
 | [],l=>l
 | p::ps,l=>DL ps (p.names l)
def G4:List (Aa×List Ad)->List Aa->List Aa
 | [],l=>l
 | (_,ps)::cs,l=>G4 cs (DL ps l)
end
theorem Ad.names_eq(p:Ad) l:p.names l=G4 p.cases (DL p.parts (AdU p.kind p.name l)):=by cases p;simp only[Ad.names]
theorem RG p ps l:DL (p::ps) l=DL ps (p.names l):=by simp only[DL]
theorem R2(c:AD)(cs:List AD) l:G4 (c::cs) l=G4 cs (DL c.2 l):=by have ⟨k,q⟩:=c;simp only[G4]
end Go.Ir
end
section
namespace Go.Ir
open Go.Proofs
variable(O:World)
def AH:Aa:=[111,116,104,101,114]
def Jc(d:Int)(e t st:Aa)(q c:Int):Bool:=!(decide (d>8)||!BF e||!(t==[])||!(st==[])||decide (q>0)||decide (c<1)||decide (c>20))
def N5(d:Int)(e t st:Aa)(c:Int):Bool:=!(decide (d>8)||!BF e||!(t==[])||!(st==[])||decide (c>0))
mutual
def Ad.formedB:Ad->Int->Bool->Bool
 | ⟨k,t,e,st,cs,ps⟩,d,c=>
  if k==11 then N5 d e t st cs.length&&Be ps (d+1) c false
  else if AI k then Jc d e t st ps.length cs.length&&Cc cs k d c []
  else IB ⟨k,t,e,st,cs,ps⟩ c
def Be:List Ad->Int->Bool->Bool->Bool
 | [],_,_,_=>true
 | p::ps,d,c,e=>!(p.kind==1&&e)&&(p.formedB d c&&Be ps d c (p.kind==1))
def Cc:List (Aa×List Ad)->Int->Int->Bool->List Aa->Bool
 | [],_,_,_,keys=>keys.contains AH
 | (key,ps)::cs,k,d,c,keys=>!(!Lv k key||keys.contains key)&&(Be ps (d+1) (c||w8 k) false&&Cc cs k d c (keys++[key]))
end
theorem Ad.formedB_eq p d c:p.formedB d c=(if p.kind==11 then N5 d p.name p.text p.style p.cases.length&&Be p.parts (d+1) c false else if AI p.kind then Jc d p.name p.text p.style p.parts.length p.cases.length&&Cc p.cases p.kind d c [] else IB p c):=by cases p;simp only[Ad.formedB]
theorem Bv p ps d c e:Be (p::ps) d c e=(!(p.kind==1&&e)&&(p.formedB d c&&Be ps d c (p.kind==1))):=by simp only[Be]
theorem Dj(x:AD)(cs:List AD) k d c keys:Cc (x::cs) k d c keys=(!(!Lv k x.1||keys.contains x.1)&&(Be x.2 (d+1) (c||w8 k) false&&Cc cs k d c (keys++[x.1]))):=by have ⟨a,b⟩:=x;simp only[Cc]
def Q4(dn:List Ad):Bool:=match dn.getLast? with
 | some q=>q.kind==1
 | none=>false
end Go.Ir
end
