/-
  Contracts: formed, of the reference.
  Contracts: FewRules.
  The IR of functions of the program, printed by our own tool
  Contracts: conditions of the program.
  Contracts: rules of the program.
  Contracts: conditions and rules of the reference.
  Contracts: the keys of a selector in their order, of both ..
  Contracts: what collects the selectors, in the program.
  Contracts: what collects the selectors, in the program: the ..
  Contracts: the selectors of a message, in the program.
  Contracts: the selectors of a message, in the reference: ..
  Contracts: the selectors of a message, in the reference.
  Contracts: combinations, rules, add and Join, of both sides.
  Resolved messages as plain Lean data: the case that a key ..
  Contracts: the case that a key determines, of both sides.
  Contracts: resolve, of the program.
  Contracts: Clone of cases, cloned.
  Contracts: values
  Contracts: the fields of parts.
  Contracts: the checker of the program.
  Contracts: the checker of the program: parts.
  Contracts: Escape of the reference.
  Contracts: the text of a message, of the reference.
  DERIVED: THE SHELF's CONTRACTS AT THIS DUMP, IN PLAIN WORDS ..
  A builder of the library at this program: the check of ..
  Contracts: the length of a message's text, of the program.
  Contracts: the length of a message's text, of the program: ..
  Contracts: Valid, of the program.
  Contracts: resolve, of the reference.
  Contracts: Flat, of the program.
  Itoa, for any number: where the library's table of powers ..
  Contracts: Valid, of the reference.
  The library's functions as the evaluator is handed them: ..
  The two checks of a message agree, and what a message has ..
  What a message has that the checks accept: the cases of its ..
  Flat forms as plain Lean data: the two sides agree.
  What a AN form has: its variants have neither selections ..
  How heavy resolved parts are.
  Contracts: leaves, of the program
  Contracts: leaves and Leaves, of the program.
  Contracts: SameForm of a form with itself, formOf.
  Shapes, leaves and what is built of them, as plain Lean ..
  Shapes of messages that the check accepts are such
  The paths of leaves are different
  How many leaves a message of a shape takes, and its weight
  Contracts: within and shape, of the program.
  Contracts: the builder of the program.
  Messages read back out of abstract values
  Contracts: Flat, of the reference.
  Contracts: number, shape of the reference.
  What an input vR as, as an abstract value: plain data ..
  The end of a law's proof: from the A0 of the DE to ..
  Inputs that are messages: every well-formed slice of parts ..
  Inputs that are locales: their rules, and the rest.
  Inputs that are forms or values.
  Messages without some cases, as plain Lean data: the two ..
  Contracts: findings
  Contracts: removed, Remove of the program
-/
import Derived.Test.YtdeldicoigeabaaGreatDoorPad
import Derived.BigCall
import Derived.Lib.LaidTab
import Derived.Lib.ItoaLen
import Derived.MakeChecks
import Derived.Shelf.Small.Strs
import Derived.Shelf.Strings.OnBuilder
import Derived.Test.YtdeldicoigeabaaGreatDoorRows
import Derived.ChangeArms
import Derived.Carry
import Derived.ChangeSame
import Derived.OpenShut
import Derived.Test.YtdeldicoigeabaaGreatDoorChecked
set_option linter.all false
open Nat (reduceEqDiff)
section
namespace Go.Ir
open Go.Proofs
variable(W0:World)
def Bd:Aa:=[111,116,104,101,114]
def G7(d:Int)(a t b:Aa)(q c:Int):Bool:=!(decide (d>8)||!BA a||!(t==[])||!(b==[])||decide (q>0)||decide (c<1)||decide (c>20))
def I5(d:Int)(a t b:Aa)(c:Int):Bool:=!(decide (d>8)||!BA a||!(t==[])||!(b==[])||decide (c>0))
mutual
def Ab.formedB:Ab->Int->Bool->Bool
 | ⟨k,t,a,b,cs,ps⟩,d,c=>
  if k==11 then I5 d a t b cs.length&&AG ps (d+1) c false
  else if AJ k then G7 d a t b ps.length cs.length&&Bq cs k d c []
  else Fz ⟨k,t,a,b,cs,ps⟩ c
def AG:List Ab->Int->Bool->Bool->Bool
 | [],_,_,_=>true
 | p::ps,d,c,a=>!(p.kind==1&&a)&&(p.formedB d c&&AG ps d c (p.kind==1))
def Bq:List (Aa×List Ab)->Int->Int->Bool->List Aa->Bool
 | [],_,_,_,a=>a.contains Bd
 | (key,ps)::cs,k,d,c,a=>!(!Gp k key||a.contains key)&&(AG ps (d+1) (c||K7 k) false&&Bq cs k d c (a++[key]))
end
theorem Ab.formedB_eq(p:Ab)(d:Int)(c:Bool):p.formedB d c=(if p.kind==11 then I5 d p.name p.text p.style p.cases.length&&AG p.parts (d+1) c false else if AJ p.kind then G7 d p.name p.text p.style p.parts.length p.cases.length&&Bq p.cases p.kind d c [] else Fz p c):=by cases p;simp only[Ab.formedB]
theorem By(p:Ab)(ps:List Ab)(d:Int)(c a:Bool):AG (p::ps) d c a=(!(p.kind==1&&a)&&(p.formedB d c&&AG ps d c (p.kind==1))):=by simp only[AG]
theorem Ce(x:Ar)(cs:List Ar)(k d:Int)(c:Bool)(e:List Aa):Bq (x::cs) k d c e=(!(!Gp k x.1||e.contains x.1)&&(AG x.2 (d+1) (c||K7 k) false&&Bq cs k d c (e++[x.1]))):=by obtain⟨a,b⟩:=x;simp only[Bq]
def GW(dn:List Ab):Bool:=match dn.getLast? with
 | some q=>q.kind==1
 | none=>false
set_option maxHeartbeats 4000000 in
theorem X3:∀(N:Nat) (ps:List Ab) (d:Int) (c:Bool),Aw ps<N->Aw ps<=2^24->0<=d->d+N<=2^30->
  An π W0 36 [.sl (ps.map Ab.enc),.i .i64 d,.b c] [] (.b (AG ps d c false)) []:=by
 intro N
 induction N with
 | zero=>intro ps d c h;omega
 | succ N ih=>
 intro ps d c hN hb ap aq;have al:=C7 ps;generalize hS:AG ps d c false=S;refine Ak (vs:=[.b S]) AoI (by simp) (by simp) λn0 af=>?_;clear af;simp only[push_cast,seval,reduceEqDiff];intros;refine As ps.length (Inv:=λm st=>∃dn f n,ps=dn++f/\m=f.length/\AG f d c (GW dn)=S/\st=⟨[(0,.sl (ps.map Ab.enc)),(1,.i .i64 d),(2,.b c),(7,.i .i64 dn.length)],[],n⟩) ⟨_,Al.refl,[],ps,_,rfl,rfl,hS,rfl⟩ ?_;clear hS;rintro m _ ⟨dn,f,n,o,rfl,g,rfl⟩;cases f with
 | nil=>
  rw[AG] at g;subst g;simp only[push_cast,seval,reduceEqDiff,o]
  repeat' (first|(((first|apply Ad|apply Ai|apply Ah)<;>intro _h)<;>simp only[push_cast,seval,reduceEqDiff,_h])|intro _)
  all_goals (first|(refine Af ?_;simp[get]<;>(intros;omega);done)|(refine Ag ?_;simp[push_cast,get];done)|skip)
 | cons p f=>
  have an:=AW o;have hw:=CC (ps:=ps) (p:=p) (by rw[o];simp);rw[p.wt_eq] at hw;have M:GW (dn++[p])=(p.kind==1):=by simp[GW]
  rw[By] at g;have ae:(decide ((dn.length:Int)>0)=false/\GW dn=false)\/(∃q:Ab,decide ((dn.length:Int)>0)=true/\(List.map Ab.enc (dn++p::f))[(IntKind.i64.wrap ((dn.length:Int)-1)).toNat]?=some q.enc/\(0<=IntKind.i64.wrap ((dn.length:Int)-1))=True/\GW dn=(q.kind==1)):=by
   rcases List.eq_nil_or_concat dn with rfl|⟨X,q,rfl⟩
   .exact .inl ⟨rfl,rfl⟩
   .rw[List.concat_eq_append] at *;refine .inr ⟨q,by simp<;>omega,?_,?_,by simp[GW]⟩
    .have:IntKind.i64.wrap (((X++[q]).length:Int)-1)=(X.length:Int):=by
      rw[wrap64]<;>simp at *<;>omega
     rw[this];simp
    .have:IntKind.i64.wrap (((X++[q]).length:Int)-1)=(X.length:Int):=by
      rw[wrap64]<;>simp at *<;>omega
     rw[this];simp
  have D:=LD W0 p.name (by unfold AO;omega);have B:=SB W0 p.kind;have G:=TA W0 p.kind;have z:=VI W0 p c (by unfold AO;omega) (by unfold AO;omega);have l:=ih p.parts (d+1) c (by omega) (by omega) (by omega) (by omega);have A:=fun(x:Ar) (Z:x∈p.cases)=>ih x.2 (d+1) (c||K7 p.kind) (by have:=Bj Z;omega) (by have:=Bj Z;omega) (by omega) (by omega);have ad:=fun(x:Ar) (Z:x∈p.cases)=>AfV W0 p.kind x.1 (by have:=Bj Z;omega);have u:IntKind.i64.wrap (d+1)=d+1:=wrap64 (by omega) (by omega);have au:=Cc p.cases;rw[p.formedB_eq] at g;unfold I5 G7 at g;generalize ac:Bq p.cases p.kind d c []=FC at g;generalize Fz p c=PB at g z;generalize BA p.name=A1 at g D;generalize AG p.parts (d+1) c false=F1 at g l;generalize hR:AG f d c (p.kind==1)=R1 at g;rw[Ab.enc_eq] at z;rcases ae with⟨e1,hl⟩|⟨q,e1,e2,e3,hl⟩
  case' inl=>
   rw[hl] at g;simp only[push_cast,seval,reduceEqDiff,o,Ac p (dn:=dn) (by omega),u,e1]
   repeat' (first|(((first|apply Ad|apply Ai|apply Ah)<;>intro _h)<;>simp only[push_cast,seval,reduceEqDiff,_h,o,Ac p (dn:=dn) (by omega),u,e1])|((first|refine Ae (by exact D) ?_|refine Ae (by exact B) ?_|refine Ae (by exact l) ?_|refine Ae (by exact z) ?_);simp only[push_cast,seval,reduceEqDiff,o,Ac p (dn:=dn) (by omega),u,e1])|intro _)
  case' inr=>
   rw[hl] at g;simp only[push_cast,seval,reduceEqDiff,o,Ac p (dn:=dn) (by omega),u,e1,e2,e3]
   repeat' (first|(((first|apply Ad|apply Ai|apply Ah)<;>intro _h)<;>simp only[push_cast,seval,reduceEqDiff,_h,o,Ac p (dn:=dn) (by omega),u,e1,e2,e3])|((first|refine Ae (by exact D) ?_|refine Ae (by exact B) ?_|refine Ae (by exact l) ?_|refine Ae (by exact z) ?_);simp only[push_cast,seval,reduceEqDiff,o,Ac p (dn:=dn) (by omega),u,e1,e2,e3])|intro _)
  all_goals (try simp only[Bool.not_eq_true',Bool.not_eq_false'] at *)
  all_goals (first|(subst g;refine Af ?_;simp only[Be,if_true,if_false, *,bq,reduceEqDiff];done)|skip)
  all_goals (first|exact⟨_,_,Nat.lt_succ_self _,Al.drop1 rfl (Nat.le_refl _),dn++[p],f,_,by simp,rfl,by rw[M,hR,<-g];simp only[Be,if_true,if_false, *,bq,reduceEqDiff],rfl⟩|skip)
  all_goals
   have I:(Bq p.cases p.kind d c []&&R1)=S:=by rw[ac,<-g];simp only[Be,if_true,if_false, *,bq,reduceEqDiff]
   clear g;have Y:p.cases.length<=20:=by
    have aa:decide ((p.cases.length:Int)>20)=false:=by assumption
    simp at aa;omega
   refine As p.cases.length (Inv:=λm st=>∃r C n' a U O,p.cases=r++C/\m=C.length/\(Bq C p.kind d c a&&R1)=S/\a.length=r.length/\st=⟨[(0,.sl (List.map Ab.enc (dn++p::f))),(1,.i .i64 d),(2,.b c),(7,.i .i64 dn.length),(8,.ref (U,8) 0),(9,.arr (O,157)),(10,.i .i64 r.length)],[((O,157),.arr 9 1 (a.map V.s)),((U,8),.box p.v)],n'⟩) ⟨_,(Al.own (s:=9) (e:=9) (sz:=1) (k:=157) rfl).trans (Al.envD (λt=>?_) (Nat.le_refl _)),[],p.cases,_,[],_,_,rfl,rfl,I,rfl,rfl⟩ ?_
   .left;by_cases h9:9=t
    .subst h9;rfl
    .simp[get,h9]
   clear I;rintro m _ ⟨r,C,n',a,U,O,j,rfl,g,L,rfl⟩;unfold Ab.v;have ak:a.length<=20:=by rw[L];have:r.length<=p.cases.length:=by{ rw[j];simp };omega
   cases C with
   | nil=>
    have l:=wD W0 a Bd (O,157) 9 (by omega);rw[Bq] at g;generalize a.contains Bd=KC at *;simp only[push_cast,seval,reduceEqDiff,j,Ac p (dn:=dn) (by omega)];intros;refine T7 l (by simp) ?_;simp only[push_cast,seval,reduceEqDiff]
    repeat' (first|(((first|apply Ad|apply Ai|apply Ah)<;>intro _h)<;>simp only[push_cast,seval,reduceEqDiff,_h,Ac p (dn:=dn) (by omega)])|intro _)
    all_goals (try simp only[Bool.not_eq_true',Bool.not_eq_false'] at *)
    all_goals (first|(subst g;refine Af ?_;simp only[Be,if_true,if_false, *,bq,reduceEqDiff];done)|skip)
    all_goals (first|exact⟨_,_,Nat.lt_succ_self _,Al.drop (λid e h=>by simp[lk] at h) (Nat.le_refl _),dn++[p],f,_,by simp,rfl,by rw[M,hR,<-g];simp only[Be,if_true,if_false, *,bq,reduceEqDiff],rfl⟩|skip)
   | cons x C=>
    have ao:=AW j;have E:x∈p.cases:=by rw[j];simp
    rw[Ce] at g;have K:c=true->An π W0 36 [.sl (x.2.map Ab.enc),.i .i64 (d+1),.b true] [] (.b (AG x.2 (d+1) (c||K7 p.kind) false)) []:=by intro hc;have:=A x E;rw[hc] at this⊢;exact this
    have J:c=false->An π W0 36 [.sl (x.2.map Ab.enc),.i .i64 (d+1),.b (K7 p.kind)] [] (.b (AG x.2 (d+1) (c||K7 p.kind) false)) []:=by intro hc;have:=A x E;rw[hc] at this⊢;exact this
    have hk:=ad x E;have l:=wD W0 a x.1 (O,157) 9 (by omega);have e0:a.length+1<=Bf:=by unfold Bf;omega
    have F:∀y∈List.map V.s a,(cells y).length=1:=by intro y hy;obtain⟨x,_,rfl⟩:=List.mem_map.1 hy;rfl
    generalize AG x.2 (d+1) (c||K7 p.kind) false=F2 at *;generalize Gp p.kind x.1=K2 at *;generalize a.contains x.1=IN at *;generalize K7 p.kind=CN at *;simp only[push_cast,seval,reduceEqDiff,j,o,Ac x (dn:=r) (by omega),u,eq_true e0,eq_true F];intros
    repeat' (first|(((first|apply Ad|apply Ai|apply Ah)<;>intro _h)<;>simp only[push_cast,seval,reduceEqDiff,_h,j,o,Ac x (dn:=r) (by omega),u,eq_true e0,eq_true F])|(refine Ae (by exact hk) ?_;simp only[push_cast,seval,reduceEqDiff,j,o,Ac x (dn:=r) (by omega),u,eq_true e0,eq_true F])|intro _)
    all_goals (try simp only[Bool.not_eq_true',Bool.not_eq_false'] at *)
    all_goals (first|(subst g;refine Af ?_;simp only[Be,if_true,if_false, *,bq,reduceEqDiff];done)|skip)
    refine N2 l (by simp) ?_;simp only[push_cast,seval,reduceEqDiff,j,o,Ac x (dn:=r) (by omega),u,eq_true e0,eq_true F]
    repeat' (first|(((first|apply Ad|apply Ai|apply Ah)<;>intro _h)<;>simp only[push_cast,seval,reduceEqDiff,_h,j,o,Ac x (dn:=r) (by omega),u,eq_true e0,eq_true F])|((first|refine Ae (by exact G) ?_|refine Ae (by exact K (by assumption)) ?_|refine Ae (by exact J (by assumption)) ?_);simp only[push_cast,seval,reduceEqDiff,j,o,Ac x (dn:=r) (by omega),u,eq_true e0,eq_true F])|intro _)
    all_goals (try simp only[Bool.not_eq_true',Bool.not_eq_false'] at *)
    all_goals subst_vars
    all_goals (first|(refine Af ?_;simp only[Be,if_true,if_false, *,bq,reduceEqDiff];done)|skip)
    all_goals rw[show List.map V.s a++[V.s x.1]=List.map V.s (a++[x.1]) by simp]
    all_goals (exact⟨_,_,Nat.lt_succ_self _,Al.dropM (by simp[lk]) (Nat.le_refl _),r++[x],C,_,a++[x.1],U,_,by simp,rfl,by simp only[Be,if_true,if_false, *,bq,reduceEqDiff],by simp[L],rfl⟩)
end Go.Ir
end
namespace Go.Ir
open Go.Proofs
variable(W0:World)
end Go.Ir

namespace Go.Ir
open Go.Proofs
variable{P:Program}{W0:World}{nt n:Nat}{Q:Exit→St→Prop}{env:AB}{σ:Aj}
end Go.Ir

namespace Go.Ir
open Go.Proofs
variable(W0:World)
def KP:List Aa:=[[122,101,114,111],[111,110,101],[116,119,111],[102,101,119],[109,97,110,121]]

end Go.Ir

namespace Go.Ir
open Go.Proofs
variable{P:Program}{W0:World}{nt n:Nat}{Q:Exit→St→Prop}{env:AB}{σ:Aj}

end Go.Ir

namespace Go.Ir
open Go.Proofs
variable(W0:World)
theorem LF{W0:World}{nt n s:Nat}{env:AB}{σ:Aj}{id:Id}{e sz:Nat}{es:List V}(m:get env s=.arr id)(l:∀y∈es,y.ok=true)(j:lk σ id=some (.arr e sz es)):I1 W0 nt [.t s] [.sl es] [] .ret ⟨env,σ,n⟩:=by
 refine⟨⟨[(s,.sl es)],[],n⟩,Al.weak (λi=>if i=id then some es else none) (λi es' h=>?_) (λt=>?_) (λi e' h=>by cases h) (Nat.le_refl _),⟨by simp[KU,get],trivial⟩,λ_ _ h=>by cases h⟩
 .split at h
  .rename_i g;subst g;cases h;exact⟨⟨e,sz,j⟩,rfl⟩
  .cases h
 .by_cases d:s=t
  .subst d;rw[m];simp only[get];refine .arr id es es (by simp) rfl (λk c f b a=>?_) (λk c f b a=>?_)
   .rw[b] at a;cases a;exact .refl _
   grind
  .simp only[get,if_neg d];exact .any _
def Di:Aa->Bool
 | []=>false
 | c::_=>(c.toNat:Int)==61
def xF(a:Int)(k:Aa):Bool:=!(k==Bd)&&(a==9||Di k)
def RV(b:Int)(a:List Aa):List Aa:=if b==9 then[] else KP.filter λk=>a.contains k
def Q6(b:Int)(a:List Aa):List Aa:=a.filter (xF b)++(RV b a++[Bd])
def TS:Nat:=86
structure If (cid:Id) (lo:Option Id) (L:List OS) (n:Nat):Prop extends SelO TS lo L n where
 c_lt:cid.1<n
 c_ne:∀p∈MX TS lo L,p.1≠cid
def EL(n:Nat)(a:Option Id)(b:List OS)(c:Option Id)(L:List OS):Prop:=∀p∈MX TS c L,n<=p.1.1\/p.1∈(MX TS a b).map (·.1)
theorem EL.refl(n:Nat)(a:Option Id)(L:List OS):EL n a L a L:=λp hp=>.inr (List.mem_map.2 ⟨p,hp,rfl⟩)
theorem EL.trans{n n':Nat}{b f a:Option Id}{d L c:List OS}(h:EL n b d f L)(k:EL n' f L a c)(l:n<=n'):EL n b d a c:=by
 intro p hp;rcases k p hp with e|e
 .grind
 .obtain⟨q,i,j⟩:=List.mem_map.1 e;rcases h q i with g|g
  .grind
  grind
theorem If.more{a:Id}{c:Option Id}{L:List OS}{n n':Nat}(h:If a c L n)(b:n<=n'):If a c L n':=⟨h.toSelO.more b,Nat.lt_of_lt_of_le h.c_lt b,h.c_ne⟩
theorem If.key{b a:Id}{A B:List OS}{x:OS}{n n':Nat}{id:Id}(h:If b (some a) (A++x::B) n)(e:n<=id.1)(d:id.1<n')(s:BK):If b (some a) (A++(s,some id)::B) n':=by
 refine⟨h.toSelO.key e d s,by have:=h.c_lt;omega,λp hp c=>?_⟩;rw[Bv,DA,Fl] at hp;rcases List.mem_cons.1 hp with rfl|hp
 .exact h.c_ne (a,.arr TS 3 ((A++x::B).map UH)) (by simp[Bv]) c
 .rcases List.mem_append.1 hp with hp|hp
  .exact h.c_ne p (by rw[Bv,DA];grind) c
  .rcases List.mem_append.1 hp with hp|hp
   .simp[k7] at hp;subst hp;have:=h.c_lt;grind
   .exact h.c_ne p (by rw[Bv,DA,Fl];grind) c
theorem EL.key{a:Id}{A B:List OS}{x:OS}{n:Nat}{id:Id}(b:n<=id.1)(s:BK):EL n (some a) (A++x::B) (some a) (A++(s,some id)::B):=by
 intro p hp;rw[Bv,DA,Fl] at hp;rw[Bv,DA,Fl];rcases List.mem_cons.1 hp with rfl|hp
 .right;simp
 .rcases List.mem_append.1 hp with hp|hp
  .grind
  .rcases List.mem_append.1 hp with hp|hp
   .simp[k7] at hp;grind
   grind
theorem If.add{a:Id}{g:Option Id}{L:List OS}{n n':Nat}{id:Id}(h:If a g L n)(f:n<=id.1)(b:id.1<n')(k:Int)(d:Aa):If a (some id) (L++[(⟨k,d,[]⟩,none)]) n':=by
 refine⟨h.toSelO.add f b k d,by have:=h.c_lt;omega,λp hp e=>?_⟩;rw[Bv,DA] at hp;rcases List.mem_cons.1 hp with rfl|hp
 .have:=h.c_lt;grind
 .have c:p∈C1 L:=by simpa[C1,k7] using hp
  exact h.c_ne p (List.mem_append_right _ c) e
theorem EL.add{c:Option Id}{L:List OS}{n:Nat}{id:Id}(b:n<=id.1)(k:Int)(d:Aa):EL n c L (some id) (L++[(⟨k,d,[]⟩,none)]):=by
 intro p hp;rw[Bv,DA] at hp;rcases List.mem_cons.1 hp with rfl|hp
 .exact .inl b
 .have a:p∈C1 L:=by simpa[C1,k7] using hp
  exact .inr (List.mem_map.2 ⟨p,List.mem_append_right _ a,rfl⟩)
def BK.enc(s:BK):V:=.agg [.i .i64 s.kind,.s s.name,.sl (s.keys.map V.s)]
@[push_cast] theorem BK.enc_eq(s:BK):s.enc=.agg [.i .i64 s.kind,.s s.name,.sl (s.keys.map V.s)]:=rfl
def BK.ord(s:BK):BK:={ s with keys:=Q6 s.kind s.keys }



def Lp:Nat:=59
theorem aI(l:List Ab):∀y∈l.map Ab.enc,y.ok=true:=by intro y a;obtain⟨x,_,rfl⟩:=List.mem_map.1 a;rw[Ab.enc_eq];rfl
theorem Ajd(l:List Ab):∀y∈l.map Ab.enc,(cells y).length=6:=by intro y a;obtain⟨x,_,rfl⟩:=List.mem_map.1 a;rw[Ab.enc_eq];rfl
end Go.Ir

namespace Go.Ir
end Go.Ir

namespace Go.Ir
open Go.Proofs
variable(W0:World)
end Go.Ir
section
namespace Go.Ir
open Go.Proofs
variable(W0:World)
mutual
def Ab.all(f:Ab->Prop):Ab->Prop
 | ⟨k,t,a,b,cs,ps⟩=>f ⟨k,t,a,b,cs,ps⟩/\Bl f cs/\Ax f ps
def Ax(f:Ab->Prop):List Ab->Prop
 | []=>True
 | p::ps=>p.all f/\Ax f ps
def Bl(f:Ab->Prop):List (Aa×List Ab)->Prop
 | []=>True
 | (k,ps)::cs=>Ax f ps/\Bl f cs
end
theorem Ab.all_eq(f:Ab->Prop)(p:Ab):p.all f↔f p/\Bl f p.cases/\Ax f p.parts:=by cases p;simp only[Ab.all]
theorem A9(f:Ab->Prop)(p:Ab)(ps:List Ab):Ax f (p::ps)↔p.all f/\Ax f ps:=by simp only[Ax]
theorem AP(f:Ab->Prop)(c:Ar)(cs:List Ar):Bl f (c::cs)↔Ax f c.2/\Bl f cs:=by obtain⟨a,b⟩:=c;simp only[Bl]
theorem Wi{W0:World}{nt n s:Nat}{env:AB}{σ σ':Aj}{id:Id}{e sz:Nat}{es:List V}(p:get env s=.arr id)(o:∀y∈es,y.ok=true)(l:lk σ id=some (.arr e sz es))(b:∀i e',lk σ' i=some e'->lk σ i=some e'/\i≠id):I1 W0 nt [.t s] [.sl es] σ' .ret ⟨env,σ,n⟩:=by
 refine⟨⟨[(s,.sl es)],σ',n⟩,Al.weak (λi=>if i=id then some es else none) (λi es' h=>?_) (λt=>?_) (λi e' h=>⟨e',(b i e' h).1,.refl _⟩) (Nat.le_refl _),⟨by simp[KU,get],trivial⟩,λ_ _ h=>h⟩
 .split at h
  .rename_i j;subst j;cases h;refine⟨⟨e,sz,l⟩,?_⟩;cases m:lk σ' i with
   | none=>rfl
   | some e'=>grind
  .cases h
 .by_cases f:s=t
  .subst f;rw[p];simp only[get,if_true];refine .arr id es es (by simp) rfl (λk c g d a=>?_) (λk c g d a=>?_)
   .rw[d] at a;cases a;exact .refl _
   grind
  .simp only[get,if_neg f];exact .any _
end Go.Ir
end
namespace Go.Ir
open Go.Proofs
variable{P:Program}{W0:World}{nt n:Nat}{Q:Exit→St→Prop}{env:AB}{σ:Aj}
end Go.Ir

namespace Go.Ir
open Go.Proofs
variable(W0:World)
theorem AjL(l:List Ar):∀y∈l.map Ar.enc,y.ok=true:=by intro y a;obtain⟨x,_,rfl⟩:=List.mem_map.1 a;rfl
def MD:Nat:=56
theorem Zv{W0:World}{nt n n' e sz:Nat}{env env':AB}{σ τ:Aj}{rid kid:Id}{A B es:List V}(j:rid≠kid)(u:lk σ rid=some (.box (.agg (A++.arr kid::B))))(g:lk σ kid=some (.arr e sz es))(l:∀i e',lk τ i=some e'->lk σ i=some e'/\i≠kid)(p:lk τ rid=none)(t:∀y∈es,y.ok=true)(d:∀s,get env' s=get env s\/get env' s=.any)(r:n<=n') :
  Al W0 nt ⟨env,σ,n⟩ ⟨env',(rid,.box (.agg (A++.sl es::B)))::τ,n'⟩:=by
 refine Al.weak (λi=>if i=kid then some es else none) (λi es' h=>?_) (λs=>?_) (λi e' h=>?_) r
 .split at h
  .rename_i f;subst f;cases h;refine⟨⟨e,sz,g⟩,?_⟩;simp only[lk,if_neg j];cases v:lk τ i with
   | none=>rfl
   | some x=>grind
  .cases h
 .rcases d s with h|h
  .rw[h];exact .refl _
  .rw[h];exact .any _
 .simp only[lk] at h;by_cases f:rid=i
  .rw[if_pos f] at h;cases h;subst f;refine⟨_,u,.box _ _ (.agg _ _ (by simp) λk c m b a=>?_) (by simp[cells]) rfl rfl⟩;by_cases g:k<A.length
   .rw[List.getElem?_append_left g] at b a;rw[b] at a;cases a;exact .refl _
   .rw[List.getElem?_append_right (by omega)] at b a;cases o:k-A.length with
    | zero=>
     rw[o] at b a;simp at b a;subst b a;refine .arr kid es es (by simp) rfl (λk c m b a=>?_) (λk c m b a=>?_)
     .rw[b] at a;cases a;exact .refl _
     grind
    | succ q=>rw[o] at b a;simp only[List.getElem?_cons_succ] at b a;rw[b] at a;cases a;exact .refl _
  .rw[if_neg f] at h;exact⟨_,(l i e' h).1,.refl _⟩
end Go.Ir

namespace Go.Ir
open Go.Proofs
variable{P:Program}{W0:World}{nt n:Nat}{Q:Exit→St→Prop}{env:AB}{σ:Aj}
end Go.Ir

namespace Go.Ir
open Go.Proofs
variable(W0:World)
structure Nt where
 name:Aa
 type:Int
 text:Aa
 date:Int
 list:List Aa
def Nt.enc(v:Nt):V:=.agg [.s v.name,.i .i64 v.type,.s v.text,.i .i64 v.date,.sl (v.list.map V.s)]
def Nt.wt(v:Nt):Nat:=1+v.name.length+v.text.length+v.list.length
theorem Nt.enc_eq(v:Nt):v.enc=.agg [.s v.name,.i .i64 v.type,.s v.text,.i .i64 v.date,.sl (v.list.map V.s)]:=rfl
def Gf(s:Aa):Bool:=s==[]||s==[105,110,116,101,103,101,114]||s==[112,101,114,99,101,110,116]
def AI(k:Int)(t b a:Aa)(c q:Int):Bool:=
 if k==1 then !(t==[])&&(b==[]&&(a==[]&&(c==0&&q==0)))
 else if k==10 then t==[]&&(b==[]&&(a==[]&&(c==0&&q==0)))
 else BA b&&(t==[]&&(
  if k==2 then a==[]&&(c==0&&q==0)
  else if k==11 then a==[]&&c==0
  else if k==7||k==8||k==9 then a==[]&&q==0
  else if k==3 then Gf a&&(c==0&&q==0)
  else if k==4||k==6 then BA a&&(c==0&&q==0)
  else if k==5 then Dv a&&(c==0&&q==0)
  else false))
def Ab.fieldsB(p:Ab):Bool:=AI p.kind p.text p.name p.style p.cases.length p.parts.length
theorem Xz(t d e:Aa)(cs:List Ar)(ps:List Ab)(j:d.length<AO)(h:e.length<AO):An π W0 74 [.agg [.i .i64 1,.s t,.s d,.s e,.sl (cs.map Ar.enc),.sl (ps.map Ab.enc)]] [] (.b (AI 1 t d e cs.length ps.length)) []:=by
 generalize hS:AI 1 t d e cs.length ps.length=S;unfold AI Gf at hS;simp only[Int.reduceBEq,bq,if_true,if_false] at hS;have g:(t==t)=true:=by simp
 have a:(d==d)=true:=by simp
 have c:(e==e)=true:=by simp
 have s1:AJ 1=false:=rfl;refine Ak (vs:=[.b S]) GX (by simp) (by simp) λn0 f=>?_;clear f;simp only[push_cast,seval,reduceEqDiff,g,a,c,s1,Int.reduceBEq,Int.reduceBNe]
 repeat' (first|(((first|apply Ad|apply Ai|apply Ah)<;>intro _h)<;>simp only[push_cast,seval,reduceEqDiff,_h,g,a,c,s1,Int.reduceBEq,Int.reduceBNe])|(refine Ae (by exact D5 W0 1) ?_;simp only[push_cast,seval,reduceEqDiff,g,a,c,s1,Int.reduceBEq,Int.reduceBNe])|intro _)
 all_goals subst hS
 all_goals (refine Af ?_;simp only[Be,if_true,if_false, *,bq,reduceEqDiff];done)
theorem SU(t d e:Aa)(cs:List Ar)(ps:List Ab)(j:d.length<AO)(h:e.length<AO):An π W0 74 [.agg [.i .i64 10,.s t,.s d,.s e,.sl (cs.map Ar.enc),.sl (ps.map Ab.enc)]] [] (.b (AI 10 t d e cs.length ps.length)) []:=by
 generalize hS:AI 10 t d e cs.length ps.length=S;unfold AI Gf at hS;simp only[Int.reduceBEq,bq,if_true,if_false] at hS;have g:(t==t)=true:=by simp
 have a:(d==d)=true:=by simp
 have c:(e==e)=true:=by simp
 have s1:AJ 10=false:=rfl;refine Ak (vs:=[.b S]) GX (by simp) (by simp) λn0 f=>?_;clear f;simp only[push_cast,seval,reduceEqDiff,g,a,c,s1,Int.reduceBEq,Int.reduceBNe]
 repeat' (first|(((first|apply Ad|apply Ai|apply Ah)<;>intro _h)<;>simp only[push_cast,seval,reduceEqDiff,_h,g,a,c,s1,Int.reduceBEq,Int.reduceBNe])|(refine Ae (by exact D5 W0 10) ?_;simp only[push_cast,seval,reduceEqDiff,g,a,c,s1,Int.reduceBEq,Int.reduceBNe])|intro _)
 all_goals subst hS
 all_goals (refine Af ?_;simp only[Be,if_true,if_false, *,bq,reduceEqDiff];done)
theorem Xv(t a e:Aa)(cs:List Ar)(ps:List Ab)(j:a.length<AO)(k:e.length<AO):An π W0 74 [.agg [.i .i64 2,.s t,.s a,.s e,.sl (cs.map Ar.enc),.sl (ps.map Ab.enc)]] [] (.b (AI 2 t a e cs.length ps.length)) []:=by
 generalize hS:AI 2 t a e cs.length ps.length=S;unfold AI Gf at hS;simp only[Int.reduceBEq,bq,if_true,if_false] at hS;have g:(t==t)=true:=by simp
 have c:(a==a)=true:=by simp
 have d:(e==e)=true:=by simp
 have s1:AJ 2=false:=rfl;have h:=DF W0 a j;generalize BA a=l at h hS;refine Ak (vs:=[.b S]) GX (by simp) (by simp) λn0 f=>?_;clear f;simp only[push_cast,seval,reduceEqDiff,g,c,d,s1,Int.reduceBEq,Int.reduceBNe]
 repeat' (first|(((first|apply Ad|apply Ai|apply Ah)<;>intro _h)<;>simp only[push_cast,seval,reduceEqDiff,_h,g,c,d,s1,Int.reduceBEq,Int.reduceBNe])|((first|refine Ae (by exact D5 W0 2) ?_|refine Ae (by exact h) ?_);simp only[push_cast,seval,reduceEqDiff,g,c,d,s1,Int.reduceBEq,Int.reduceBNe])|intro _)
 all_goals subst hS
 all_goals (refine Af ?_;simp only[Be,if_true,if_false, *,bq,reduceEqDiff];done)
theorem T5(t a e:Aa)(cs:List Ar)(ps:List Ab)(j:a.length<AO)(k:e.length<AO):An π W0 74 [.agg [.i .i64 11,.s t,.s a,.s e,.sl (cs.map Ar.enc),.sl (ps.map Ab.enc)]] [] (.b (AI 11 t a e cs.length ps.length)) []:=by
 generalize hS:AI 11 t a e cs.length ps.length=S;unfold AI Gf at hS;simp only[Int.reduceBEq,bq,if_true,if_false] at hS;have g:(t==t)=true:=by simp
 have c:(a==a)=true:=by simp
 have d:(e==e)=true:=by simp
 have s1:AJ 11=false:=rfl;have h:=DF W0 a j;generalize BA a=l at h hS;refine Ak (vs:=[.b S]) GX (by simp) (by simp) λn0 f=>?_;clear f;simp only[push_cast,seval,reduceEqDiff,g,c,d,s1,Int.reduceBEq,Int.reduceBNe]
 repeat' (first|(((first|apply Ad|apply Ai|apply Ah)<;>intro _h)<;>simp only[push_cast,seval,reduceEqDiff,_h,g,c,d,s1,Int.reduceBEq,Int.reduceBNe])|((first|refine Ae (by exact D5 W0 11) ?_|refine Ae (by exact h) ?_);simp only[push_cast,seval,reduceEqDiff,g,c,d,s1,Int.reduceBEq,Int.reduceBNe])|intro _)
 all_goals subst hS
 all_goals (refine Af ?_;simp only[Be,if_true,if_false, *,bq,reduceEqDiff];done)
theorem Xn(t a e:Aa)(cs:List Ar)(ps:List Ab)(j:a.length<AO)(k:e.length<AO):An π W0 74 [.agg [.i .i64 7,.s t,.s a,.s e,.sl (cs.map Ar.enc),.sl (ps.map Ab.enc)]] [] (.b (AI 7 t a e cs.length ps.length)) []:=by
 generalize hS:AI 7 t a e cs.length ps.length=S;unfold AI Gf at hS;simp only[Int.reduceBEq,bq,if_true,if_false] at hS;have g:(t==t)=true:=by simp
 have c:(a==a)=true:=by simp
 have d:(e==e)=true:=by simp
 have s1:AJ 7=true:=rfl;have h:=DF W0 a j;generalize BA a=l at h hS;refine Ak (vs:=[.b S]) GX (by simp) (by simp) λn0 f=>?_;clear f;simp only[push_cast,seval,reduceEqDiff,g,c,d,s1,Int.reduceBEq,Int.reduceBNe]
 repeat' (first|(((first|apply Ad|apply Ai|apply Ah)<;>intro _h)<;>simp only[push_cast,seval,reduceEqDiff,_h,g,c,d,s1,Int.reduceBEq,Int.reduceBNe])|((first|refine Ae (by exact D5 W0 7) ?_|refine Ae (by exact h) ?_);simp only[push_cast,seval,reduceEqDiff,g,c,d,s1,Int.reduceBEq,Int.reduceBNe])|intro _)
 all_goals subst hS
 all_goals (refine Af ?_;simp only[Be,if_true,if_false, *,bq,reduceEqDiff];done)
theorem WP(t a e:Aa)(cs:List Ar)(ps:List Ab)(j:a.length<AO)(k:e.length<AO):An π W0 74 [.agg [.i .i64 8,.s t,.s a,.s e,.sl (cs.map Ar.enc),.sl (ps.map Ab.enc)]] [] (.b (AI 8 t a e cs.length ps.length)) []:=by
 generalize hS:AI 8 t a e cs.length ps.length=S;unfold AI Gf at hS;simp only[Int.reduceBEq,bq,if_true,if_false] at hS;have g:(t==t)=true:=by simp
 have c:(a==a)=true:=by simp
 have d:(e==e)=true:=by simp
 have s1:AJ 8=true:=rfl;have h:=DF W0 a j;generalize BA a=l at h hS;refine Ak (vs:=[.b S]) GX (by simp) (by simp) λn0 f=>?_;clear f;simp only[push_cast,seval,reduceEqDiff,g,c,d,s1,Int.reduceBEq,Int.reduceBNe]
 repeat' (first|(((first|apply Ad|apply Ai|apply Ah)<;>intro _h)<;>simp only[push_cast,seval,reduceEqDiff,_h,g,c,d,s1,Int.reduceBEq,Int.reduceBNe])|((first|refine Ae (by exact D5 W0 8) ?_|refine Ae (by exact h) ?_);simp only[push_cast,seval,reduceEqDiff,g,c,d,s1,Int.reduceBEq,Int.reduceBNe])|intro _)
 all_goals subst hS
 all_goals (refine Af ?_;simp only[Be,if_true,if_false, *,bq,reduceEqDiff];done)
theorem Xc(t a e:Aa)(cs:List Ar)(ps:List Ab)(j:a.length<AO)(k:e.length<AO):An π W0 74 [.agg [.i .i64 9,.s t,.s a,.s e,.sl (cs.map Ar.enc),.sl (ps.map Ab.enc)]] [] (.b (AI 9 t a e cs.length ps.length)) []:=by
 generalize hS:AI 9 t a e cs.length ps.length=S;unfold AI Gf at hS;simp only[Int.reduceBEq,bq,if_true,if_false] at hS;have g:(t==t)=true:=by simp
 have c:(a==a)=true:=by simp
 have d:(e==e)=true:=by simp
 have s1:AJ 9=true:=rfl;have h:=DF W0 a j;generalize BA a=l at h hS;refine Ak (vs:=[.b S]) GX (by simp) (by simp) λn0 f=>?_;clear f;simp only[push_cast,seval,reduceEqDiff,g,c,d,s1,Int.reduceBEq,Int.reduceBNe]
 repeat' (first|(((first|apply Ad|apply Ai|apply Ah)<;>intro _h)<;>simp only[push_cast,seval,reduceEqDiff,_h,g,c,d,s1,Int.reduceBEq,Int.reduceBNe])|((first|refine Ae (by exact D5 W0 9) ?_|refine Ae (by exact h) ?_);simp only[push_cast,seval,reduceEqDiff,g,c,d,s1,Int.reduceBEq,Int.reduceBNe])|intro _)
 all_goals subst hS
 all_goals (refine Af ?_;simp only[Be,if_true,if_false, *,bq,reduceEqDiff];done)
set_option maxHeartbeats 4000000 in
theorem Wu(t a e:Aa)(cs:List Ar)(ps:List Ab)(j:a.length<AO)(k:e.length<AO):An π W0 74 [.agg [.i .i64 3,.s t,.s a,.s e,.sl (cs.map Ar.enc),.sl (ps.map Ab.enc)]] [] (.b (AI 3 t a e cs.length ps.length)) []:=by
 generalize hS:AI 3 t a e cs.length ps.length=S;unfold AI Gf at hS;simp only[Int.reduceBEq,bq,if_true,if_false] at hS;have g:(t==t)=true:=by simp
 have c:(a==a)=true:=by simp
 have d:(e==e)=true:=by simp
 have s1:AJ 3=false:=rfl;have h:=DF W0 a j;generalize BA a=l at h hS;refine Ak (vs:=[.b S]) GX (by simp) (by simp) λn0 f=>?_;clear f;simp only[push_cast,seval,reduceEqDiff,g,c,d,s1,Int.reduceBEq,Int.reduceBNe]
 repeat' (first|(((first|apply Ad|apply Ai|apply Ah)<;>intro _h)<;>simp only[push_cast,seval,reduceEqDiff,_h,g,c,d,s1,Int.reduceBEq,Int.reduceBNe])|((first|refine Ae (by exact D5 W0 3) ?_|refine Ae (by exact h) ?_);simp only[push_cast,seval,reduceEqDiff,g,c,d,s1,Int.reduceBEq,Int.reduceBNe])|intro _)
 all_goals subst hS
 all_goals (refine Af ?_;simp only[Be,if_true,if_false, *,bq,reduceEqDiff];done)
theorem VG(t a c:Aa)(cs:List Ar)(ps:List Ab)(k:a.length<AO)(g:c.length<AO):An π W0 74 [.agg [.i .i64 4,.s t,.s a,.s c,.sl (cs.map Ar.enc),.sl (ps.map Ab.enc)]] [] (.b (AI 4 t a c cs.length ps.length)) []:=by
 generalize hS:AI 4 t a c cs.length ps.length=S;unfold AI Gf at hS;simp only[Int.reduceBEq,bq,if_true,if_false] at hS;have h:(t==t)=true:=by simp
 have d:(a==a)=true:=by simp
 have e:(c==c)=true:=by simp
 have s1:AJ 4=false:=rfl;have j:=DF W0 a k;generalize BA a=l at j hS;have v2:=DF W0 c g;generalize BA c=m at v2 hS;refine Ak (vs:=[.b S]) GX (by simp) (by simp) λn0 f=>?_;clear f;simp only[push_cast,seval,reduceEqDiff,h,d,e,s1,Int.reduceBEq,Int.reduceBNe]
 repeat' (first|(((first|apply Ad|apply Ai|apply Ah)<;>intro _h)<;>simp only[push_cast,seval,reduceEqDiff,_h,h,d,e,s1,Int.reduceBEq,Int.reduceBNe])|((first|refine Ae (by exact D5 W0 4) ?_|refine Ae (by exact j) ?_|refine Ae (by exact v2) ?_);simp only[push_cast,seval,reduceEqDiff,h,d,e,s1,Int.reduceBEq,Int.reduceBNe])|intro _)
 all_goals subst hS
 all_goals (refine Af ?_;simp only[Be,if_true,if_false, *,bq,reduceEqDiff];done)
theorem W1(t a c:Aa)(cs:List Ar)(ps:List Ab)(k:a.length<AO)(g:c.length<AO):An π W0 74 [.agg [.i .i64 6,.s t,.s a,.s c,.sl (cs.map Ar.enc),.sl (ps.map Ab.enc)]] [] (.b (AI 6 t a c cs.length ps.length)) []:=by
 generalize hS:AI 6 t a c cs.length ps.length=S;unfold AI Gf at hS;simp only[Int.reduceBEq,bq,if_true,if_false] at hS;have h:(t==t)=true:=by simp
 have d:(a==a)=true:=by simp
 have e:(c==c)=true:=by simp
 have s1:AJ 6=false:=rfl;have j:=DF W0 a k;generalize BA a=l at j hS;have v2:=DF W0 c g;generalize BA c=m at v2 hS;refine Ak (vs:=[.b S]) GX (by simp) (by simp) λn0 f=>?_;clear f;simp only[push_cast,seval,reduceEqDiff,h,d,e,s1,Int.reduceBEq,Int.reduceBNe]
 repeat' (first|(((first|apply Ad|apply Ai|apply Ah)<;>intro _h)<;>simp only[push_cast,seval,reduceEqDiff,_h,h,d,e,s1,Int.reduceBEq,Int.reduceBNe])|((first|refine Ae (by exact D5 W0 6) ?_|refine Ae (by exact j) ?_|refine Ae (by exact v2) ?_);simp only[push_cast,seval,reduceEqDiff,h,d,e,s1,Int.reduceBEq,Int.reduceBNe])|intro _)
 all_goals subst hS
 all_goals (refine Af ?_;simp only[Be,if_true,if_false, *,bq,reduceEqDiff];done)
theorem VJ(t a c:Aa)(cs:List Ar)(ps:List Ab)(k:a.length<AO)(g:c.length<AO):An π W0 74 [.agg [.i .i64 5,.s t,.s a,.s c,.sl (cs.map Ar.enc),.sl (ps.map Ab.enc)]] [] (.b (AI 5 t a c cs.length ps.length)) []:=by
 generalize hS:AI 5 t a c cs.length ps.length=S;unfold AI Gf at hS;simp only[Int.reduceBEq,bq,if_true,if_false] at hS;have h:(t==t)=true:=by simp
 have d:(a==a)=true:=by simp
 have e:(c==c)=true:=by simp
 have s1:AJ 5=false:=rfl;have j:=DF W0 a k;generalize BA a=l at j hS;have v3:=QD W0 c g;generalize Dv c=m at v3 hS;refine Ak (vs:=[.b S]) GX (by simp) (by simp) λn0 f=>?_;clear f;simp only[push_cast,seval,reduceEqDiff,h,d,e,s1,Int.reduceBEq,Int.reduceBNe]
 repeat' (first|(((first|apply Ad|apply Ai|apply Ah)<;>intro _h)<;>simp only[push_cast,seval,reduceEqDiff,_h,h,d,e,s1,Int.reduceBEq,Int.reduceBNe])|((first|refine Ae (by exact D5 W0 5) ?_|refine Ae (by exact j) ?_|refine Ae (by exact v3) ?_);simp only[push_cast,seval,reduceEqDiff,h,d,e,s1,Int.reduceBEq,Int.reduceBNe])|intro _)
 all_goals subst hS
 all_goals (refine Af ?_;simp only[Be,if_true,if_false, *,bq,reduceEqDiff];done)
theorem VO(k:Int)(t q r:Aa)(cs:List Ar)(ps:List Ab)(d:(k==1)=false)(e:(k==2)=false)(f:(k==3)=false)(g:(k==4)=false)(h:(k==5)=false)(j:(k==6)=false)(l:(k==7)=false)(m:(k==8)=false)(o:(k==9)=false)(a:(k==10)=false)(c:(k==11)=false):An π W0 74 [.agg [.i .i64 k,.s t,.s q,.s r,.sl (cs.map Ar.enc),.sl (ps.map Ab.enc)]] [] (.b (AI k t q r cs.length ps.length)) []:=by
 generalize hS:AI k t q r cs.length ps.length=S;unfold AI at hS;simp only[d,e,f,g,h,j,l,m,o,a,c,Bool.or_false,Bool.false_eq_true,if_false,Bool.and_false] at hS;subst hS;have u:(k !=1)=true:=by simp at d⊢;exact d
 have v:(k !=10)=true:=by simp at a⊢;exact a
 refine Ak (vs:=[.b false]) GX (by simp) (by simp) λn0 p=>?_;clear p;simp only[push_cast,seval,reduceEqDiff,d,e,f,g,h,j,l,m,o,a,c,u,v]
 repeat' (first|(((first|apply Ad|apply Ai|apply Ah)<;>intro _h)<;>simp only[push_cast,seval,reduceEqDiff,_h,d,e,f,g,h,j,l,m,o,a,c,u,v])|intro _)
 all_goals (refine Af ?_;simp only[Be,if_true,if_false, *,bq,reduceEqDiff];done)
theorem fY(p:Ab)(a:p.name.length<AO)(c:p.style.length<AO):An π W0 74 [p.enc] [] (.b p.fieldsB) []:=by
 unfold Ab.fieldsB;obtain⟨k,t,d,e,cs,ps⟩:=p;simp only at a c⊢;rw[Ab.enc_eq];simp only;have u:k=1\/k=2\/k=3\/k=4\/k=5\/k=6\/k=7\/k=8\/k=9\/k=10\/k=11\/((k==1)=false/\(k==2)=false/\(k==3)=false/\(k==4)=false/\(k==5)=false/\(k==6)=false/\(k==7)=false/\(k==8)=false/\(k==9)=false/\(k==10)=false/\(k==11)=false):=by simp only[beq_eq_false_iff_ne];omega
 rcases u with rfl|rfl|rfl|rfl|rfl|rfl|rfl|rfl|rfl|rfl|rfl|⟨h,i,j,l,m,o,q,r,s,f,g⟩
 .exact Xz W0 t d e cs ps a c
 .exact Xv W0 t d e cs ps a c
 .exact Wu W0 t d e cs ps a c
 .exact VG W0 t d e cs ps a c
 .exact VJ W0 t d e cs ps a c
 .exact W1 W0 t d e cs ps a c
 .exact Xn W0 t d e cs ps a c
 .exact WP W0 t d e cs ps a c
 .exact Xc W0 t d e cs ps a c
 .exact SU W0 t d e cs ps a c
 .exact T5 W0 t d e cs ps a c
 .exact VO W0 k t d e cs ps h i j l m o q r s f g
end Go.Ir

namespace Go.Ir
open Go.Proofs
variable{P:Program}{W0:World}{nt n:Nat}{Q:Exit→St→Prop}{env:AB}{σ:Aj}
def kF:IC:=sQ (oS [fA 20 5 0,l1 21 20,fA 22 11 0,l1 23 22,q2 24 94 21 23,nT 25 24,m1 26 25,B0 27 26 9,C4 28 26 11 0,C3 29 26 28,gF 30 26 (.rdm (.mget .str (.b false) false) (.t 27) [.t 29]),pO 31 26 30,m1 32 31,gF 33 32 (.load (.t 4) 1 true),C4 34 32 11 1,C3 35 32 34,B0 36 32 2,B0 37 32 3,B0 38 32 37,C4 39 38 5 0,C3 40 38 39,EZ 41 38 .neq 40 9,gF 42 32 (.pick (.t 38) (.c (.b true)) (.t 41)),gF 43 32 (.calls 54 [.t 33,.t 35,.t 36,.t 42]),gF 44 32 (.not (.t 43)),pO 45 32 44] [2,3,4,5,9,11,14,15,16,45] (cD 45 (oR [mC 8 (.b false)] [8]) .skip)) (oP [m1 46 9,fA 47 11 0,l1 48 47,o0 (.wrm (.mput .str) (.t 46) [.t 48,.c (.b true)])] [2,3,4,5,9,14,15,16])
def kK:IC:=sQ (.block 1 (oS [iA 18 14 16 56 2,lA 19 18 2,o1 11 (.alloc (.agg [.s [],.nil])),sT 11 19 2] [2,3,4,5,9,11,14,15,16] kF)) (oP [bZ 49 .add 16 1,m1 16 49] [2,3,4,5,9,14,15,16])
def fP:IC:=oR [fA 50 5 4,l1 51 50,nL 52 51,bZ 53 .leq 52 20,m1 54 53,BX 55 54 9,gT 56 54 (.rdm (.mget .str (.b false) false) (.t 55) [.c (.s [111,116,104,101,114])]),pA 57 54 56,m1 8 57] [8]
def yW:IC:=sQ (oS [fA 13 5 4,l1 14 13,nL 15 14,mZ 16 0] [2,3,4,5,9,14,15,16] (.block 0 (.loop (oS [bT 17 .lss 16 15] [2,3,4,5,9,14,15,16,17] (sQ (cD 17 .skip (.exit 0)) kK))))) fP
def vK:IC:=oS [bX 4 0,bX 5 1,mC 8 (.b false)] [2,3,4,5] (oS [o1 12 (.mkm .mkmap []),m1 9 12] [2,3,4,5,9] yW)
@[push_cast]def Auh:List R:=[.t 8]
@[push_cast]def Awh:=AL kF.eq_1<|AL kK.eq_1<|AL fP.eq_1<|AL yW.eq_1<|AZ vK.eq_1
theorem AjR:AD π 75 58 vK Auh=true:=by kernel_rfl
def Zc:IC:=oS [fA 81 10 0,l1 82 81,bZ 83 .neq 82 11,m1 84 83,D0 85 84 10 2,Dm 86 84 85,gT 87 84 (.bin .neq (.t 86) (.c (.s []))),pA 88 84 87] [1,2,3,4,10,11,12,13,88] (cD 88 (oP [fA 89 4 0,l1 90 89,fA 91 10 2,l1 92 91,o0 (.wrm (.mput .str) (.t 90) [.t 92,.c (.b true)])] [1,2,3,4,11,12,13]) .skip)
def kU:IC:=sQ (oS [fA 65 10 0,l1 66 65,q1 67 35 66,m1 68 67,BX 69 68 2,F7 70 68 .geq 69 8,BX 71 68 70,gF 72 71 (.load (.t 4) 1 true),gF 73 71 (.load (.t 10) 6 true),B0 74 71 2,EZ 75 71 .add 74 1,B0 76 71 3,gF 77 71 (.calls 75 [.t 72,.t 73,.t 75,.t 76]),gF 78 71 (.not (.t 77)),gT 79 68 (.pick (.t 71) (.c (.b true)) (.t 78)),pA 80 68 79] [1,2,3,4,10,11,12,13,80] (cD 80 (oR [mC 8 (.b false)] [8]) .skip)) Zc
def ZJ:IC:=sQ (oS [fA 48 10 0,l1 49 48,bZ 50 .eql 49 11,m1 51 50,BX 52 51 2,F7 53 51 .geq 52 8,BX 54 51 53,gF 55 54 (.load (.t 4) 1 true),C4 56 54 10 5,C3 57 54 56,B0 58 54 2,EZ 59 54 .add 58 1,B0 60 54 3,gF 61 54 (.calls 54 [.t 55,.t 57,.t 59,.t 60]),gF 62 54 (.not (.t 61)),gT 63 51 (.pick (.t 54) (.c (.b true)) (.t 62)),pA 64 51 63] [1,2,3,4,10,11,12,13,64] (cD 64 (oR [mC 8 (.b false)] [8]) .skip)) kU
def Yk:IC:=sQ (oS [lA 18 10 6,q1 19 74 18,nT 20 19,m1 21 20,C4 22 21 10 0,C3 23 21 22,EZ 24 21 .eql 23 10,B0 25 21 24,BX 26 25 3,gT 27 25 (.not (.t 26)),gF 28 21 (.pick (.t 25) (.t 27) (.c (.b false))),pO 29 21 28,m1 30 29,B0 31 30 9,EZ 32 30 .gtr 31 0,B0 33 30 32,D0 34 33 10 0,Dm 35 33 34,F7 36 33 .eql 35 1,gF 37 30 (.pick (.t 33) (.t 36) (.c (.b false))),B0 38 30 37,BX 39 38 1,BX 40 38 9,F7 41 38 .sub 40 1,gT 42 38 (.iaddr (.t 39) (.t 41) 59 6),D0 43 38 42 0,Dm 44 38 43,F7 45 38 .eql 44 1,gF 46 30 (.pick (.t 38) (.t 45) (.c (.b false))),pO 47 30 46] [1,2,3,4,10,11,12,13,47] (cD 47 (oR [mC 8 (.b false)] [8]) .skip)) ZJ
def iF:IC:=sQ (.block 1 (oS [m1 15 13,iA 16 11 13 59 6,lA 17 16 6,o1 10 (.alloc (.agg [.i .i64 0,.s [],.s [],.s [],.nil,.nil])),m1 9 15,sT 10 17 6] [1,2,3,4,9,10,11,12,13] Yk)) (oP [bZ 93 .add 13 1,m1 13 93] [1,2,3,4,11,12,13])
def vA:IC:=sQ (oS [m1 11 1,nL 12 11,mZ 13 0] [1,2,3,4,11,12,13] (.block 0 (.loop (oS [bT 14 .lss 13 12] [1,2,3,4,11,12,13,14] (sQ (cD 14 .skip (.exit 0)) iF))))) (oR [mC 8 (.b true)] [8])
def Aah:IC:=oS [bX 4 0,mC 8 (.b false)] [1,2,3,4] vA
@[push_cast]def AuB:List R:=[.t 8]
@[push_cast]def AxC:=AL Zc.eq_1<|AL kU.eq_1<|AL ZJ.eq_1<|AL Yk.eq_1<|AL iF.eq_1<|AL vA.eq_1<|AZ Aah.eq_1
theorem Al6:AD π 54 94 Aah AuB=true:=by kernel_rfl
def vF:IC:=oR [o1 1 (.mkm .mkmap []),o0 (.wrm (.mput .str) (.t 1) [.c (.s [110,117,109,98,101,114]),ci 3]),o0 (.wrm (.mput .str) (.t 1) [.c (.s [117,110,105,116]),ci 4]),o0 (.wrm (.mput .str) (.t 1) [.c (.s [100,97,116,101]),ci 5]),o0 (.wrm (.mput .str) (.t 1) [.c (.s [108,105,115,116]),ci 6]),o0 (.wrm (.mput .str) (.t 1) [.c (.s [112,108,117,114,97,108]),ci 7]),o0 (.wrm (.mput .str) (.t 1) [.c (.s [111,114,100,105,110,97,108]),ci 8]),o0 (.wrm (.mput .str) (.t 1) [.c (.s [115,101,108,101,99,116]),ci 9]),m1 2 1,m1 0 2] [0]
def Aab:IC:=oS [mC 0 .nm] [] vF
@[push_cast]def Au2:List R:=[.t 0]
@[push_cast]def Aw3:=AL vF.eq_1<|AZ Aab.eq_1
theorem AmX:AD π 77 3 Aab Au2=true:=by kernel_rfl
def Y4:IC:=.ops [m1 96 3,fA 97 5 2,l1 98 97,nS 99 98,o1 100 (.bin .add (ci 2) (.t 99)),fA 101 5 5,l1 102 101,q1 103 55 102,bT 104 .add 100 103,bT 105 .add 96 104,m1 3 105] [3,10,11,12] [[1,2],[2,3],[3,4],[5,6],[6,7],[4,8],[7,8],[0,9],[8,9],[0,10],[9,10]]
def eQ:IC:=oS [m1 86 3,fA 87 5 2,l1 88 87,nS 89 88,o1 90 (.bin .add (ci 3) (.t 89)),bT 91 .add 86 90,m1 3 91] [3,5,10,11,12] (oS [fA 92 5 5,l1 93 92,nL 94 93,bZ 95 .gtr 94 0] [3,5,10,11,12,95] (cD 95 Y4 .skip))
def bA:IC:=oS [m1 31 7,fA 32 5 0,l1 33 32,bT 34 .eql 31 33] [3,5,6,10,11,12,25,34] (cD 34 (oP [m1 35 3,m1 36 6,nS 37 36,o1 38 (.bin .add (ci 2) (.t 37)),bT 39 .add 35 38,m1 3 39] [3,5,10,11,12,25]) .skip)
def hO:IC:=sQ (.mnext 26 27 (.t 25) [3,5,10,11,12,25,27]) (sQ (cD 27 .skip (.exit 3)) (.block 4 (oS [o1 28 (.mentry (.t 25)),xT 29 28 0,xT 30 28 1,m1 6 29,m1 7 30] [3,5,6,7,10,11,12,25] bA)))
def bK:IC:=.ops [m1 61 3,fA 62 9 0,l1 63 62,nS 64 63,o1 65 (.bin .add (ci 4) (.t 64)),fA 66 9 1,l1 67 66,q1 68 55 67,bT 69 .add 65 68,bT 70 .add 61 69,m1 3 70] [3,10,11,12,55,56,57] [[1,2],[2,3],[3,4],[5,6],[6,7],[4,8],[7,8],[0,9],[8,9],[0,10],[9,10]]
def cS:IC:=sQ (.block 6 (oS [iA 59 55 57 56 2,lA 60 59 2,o1 9 (.alloc (.agg [.s [],.nil])),sT 9 60 2] [3,9,10,11,12,55,56,57] bK)) (oP [bZ 71 .add 57 1,m1 57 71] [3,10,11,12,55,56,57])
def ZN:IC:=oS [fA 54 5 4,l1 55 54,nL 56 55,mZ 57 0] [3,10,11,12,55,56,57] (.block 5 (.loop (oS [bT 58 .lss 57 56] [3,10,11,12,55,56,57,58] (sQ (cD 58 .skip (.exit 5)) cS))))
def YD:IC:=sQ (oS [fA 40 5 3,l1 41 40,bC 42 .neq 41 (.s [])] [3,5,10,11,12,42] (cD 42 (oP [m1 43 3,fA 44 5 3,l1 45 44,nS 46 45,o1 47 (.bin .add (ci 2) (.t 46)),bT 48 .add 43 47,m1 3 48] [3,5,10,11,12]) .skip)) (sQ (oS [fA 49 5 0,l1 50 49,q1 51 35 50] [3,5,10,11,12,51] (cD 51 (oP [m1 52 3,bZ 53 .add 52 1,m1 3 53] [3,5,10,11,12]) .skip)) ZN)
def jT:IC:=oS [m1 18 3,fA 19 5 2,l1 20 19,nS 21 20,o1 22 (.bin .add (ci 2) (.t 21)),bT 23 .add 18 22,m1 3 23] [3,5,10,11,12] (sQ (oS [o1 24 (.calln 77 []),o1 25 (.mrange (.t 24))] [3,5,10,11,12,25] (.block 3 (.loop hO))) YD)
def Yd:IC:=cD 72 (oP [m1 74 3,fA 75 5 1,l1 76 75,q1 77 76 76,nS 78 77,bT 79 .add 74 78,m1 3 79] [3,10,11,12]) (oS [bZ 81 .eql 17 10,m1 80 81] [3,5,10,11,12,17,80] (cD 80 (oP [m1 82 3,bZ 83 .add 82 1,m1 3 83] [3,10,11,12]) (oS [bZ 85 .eql 17 11,m1 84 85] [3,5,10,11,12,84] (cD 84 eQ jT))))
def YF:IC:=sQ (.block 1 (oS [iA 14 10 12 59 6,lA 15 14 6,o1 5 (.alloc (.agg [.i .i64 0,.s [],.s [],.s [],.nil,.nil])),sT 5 15 6] [3,5,10,11,12] (oS [fA 16 5 0,l1 17 16] [3,5,10,11,12,17] (.block 2 (oS [bZ 73 .eql 17 1,m1 72 73] [3,5,10,11,12,17,72] Yd))))) (oP [bZ 106 .add 12 1,m1 12 106] [3,10,11,12])
def vP:IC:=sQ (oS [m1 10 0,nL 11 10,mZ 12 0] [3,10,11,12] (.block 0 (.loop (oS [bT 13 .lss 12 11] [3,10,11,12,13] (sQ (cD 13 .skip (.exit 0)) YF))))) (oR [m1 107 3,m1 2 107] [2])
def xI:IC:=oS [mZ 2 0] [0] (oS [mZ 3 0] [0,3] vP)
@[push_cast]def AtC:List R:=[.t 2]
@[push_cast]def Aw4:=AL Y4.eq_1<|AL eQ.eq_1<|AL bA.eq_1<|AL hO.eq_1<|AL bK.eq_1<|AL cS.eq_1<|AL ZN.eq_1<|AL YD.eq_1<|AL jT.eq_1<|AL Yd.eq_1<|AL YF.eq_1<|AL vP.eq_1<|AZ xI.eq_1
theorem AlZ:AD π 55 108 xI AtC=true:=by kernel_rfl
def wF:IC:=oR [lA 8 5 1,m1 9 0,m1 10 1,o1 11 (.calls 54 [.t 8,.t 9,ci 0,.t 10]),m1 12 11,D0 13 12 5 0,Dm 14 12 13,gT 15 12 (.rdm .mlen (.t 14) []),F7 16 12 .leq 15 20,pA 17 12 16,m1 18 17,BX 19 18 0,gT 20 18 (.call 55 [.t 19]),F7 21 18 .leq 20 4000,pA 22 18 21,m1 4 22] [4]
def zS:IC:=oS [mC 4 (.b false)] [0,1] (oS [o1 6 (.mkm .mkmap []),o1 7 (.build [.nm] [(0,1,.t 6)]),o1 5 (.alloc (.agg [.nm])),sT 5 7 1] [0,1,5] wF)
@[push_cast]def Asm:List R:=[.t 4]
@[push_cast]def Aw0:=AL wF.eq_1<|AZ zS.eq_1
theorem AkA:AD π 32 23 zS Asm=true:=by kernel_rfl
def wX:IC:=oS [mC 2 (.b false)] [0] (oR [m1 3 0,o1 4 (.call 32 [.t 3,.c (.b false)]),m1 2 4] [2])
@[push_cast]def ArV:List R:=[.t 2]
@[push_cast]def AwY:=AZ wX.eq_1
theorem AiP:AD π 14 5 wX ArV=true:=by kernel_rfl
end Go.Ir
section
namespace Go.Ir
open Go.Proofs
variable(W0:World)
mutual
def Ab.chk:Ab->Int->Bool->List Aa->Bool×List Aa
 | ⟨k,t,b,e,cs,ps⟩,d,c,l=>
  match(if k==11 then(if decide (d>=8) then(false,l) else BO ps (d+1) c false l) else(true,l)) with
  | (false,l1)=>(false,l1)
  | (true,l1)=>match(if AJ k then(if decide (d>=8) then(false,l1) else Ea cs k (d+1) c cs.length [] l1) else(true,l1)) with
   | (false,a)=>(false,a)
   | (true,a)=>(true,if !(k==11)&&!(b==[]) then Nl b a else a)
def BO:List Ab->Int->Bool->Bool->List Aa->Bool×List Aa
 | [],_,_,_,l=>(true,l)
 | p::ps,d,c,a,l=>
  if !p.fieldsB||(p.kind==10&&!c)||(a&&p.kind==1) then(false,l) else
  match p.chk d c l with
  | (false,l1)=>(false,l1)
  | (true,l1)=>BO ps d c (p.kind==1) l1
def Ea:List (Aa×List Ab)->Int->Int->Bool->Nat->List Aa->List Aa->Bool×List Aa
 | [],_,_,_,n,seen,l=>(decide ((n:Int)<=20)&&seen.contains Bd,l)
 | (key,ps)::cs,k,d,c,n,seen,l=>
  if !Gp k key||seen.contains key then(false,l) else
  match BO ps d (c||(k !=9)) false l with
  | (false,l1)=>(false,l1)
  | (true,l1)=>Ea cs k d c n (seen++[key]) l1
end
theorem Ab.chk_eq(p:Ab)(d:Int)(c:Bool)(l:List Aa):p.chk d c l =
  match(if p.kind==11 then(if decide (d>=8) then(false,l) else BO p.parts (d+1) c false l) else(true,l)) with
  | (false,l1)=>(false,l1)
  | (true,l1)=>match(if AJ p.kind then(if decide (d>=8) then(false,l1) else Ea p.cases p.kind (d+1) c p.cases.length [] l1) else(true,l1)) with
   | (false,a)=>(false,a)
   | (true,a)=>(true,if !(p.kind==11)&&!(p.name==[]) then Nl p.name a else a):=by cases p;simp only[Ab.chk]
theorem IG(p:Ab)(ps:List Ab)(d:Int)(c a:Bool)(l:List Aa):BO (p::ps) d c a l =
  if !p.fieldsB||(p.kind==10&&!c)||(a&&p.kind==1) then(false,l) else
  match p.chk d c l with
  | (false,l1)=>(false,l1)
  | (true,l1)=>BO ps d c (p.kind==1) l1:=by simp only[BO]
theorem Ix(x:Ar)(cs:List Ar)(k d:Int)(c:Bool)(n:Nat)(seen l:List Aa):Ea (x::cs) k d c n seen l =
  if !Gp k x.1||seen.contains x.1 then(false,l) else
  match BO x.2 d (c||(k !=9)) false l with
  | (false,l1)=>(false,l1)
  | (true,l1)=>Ea cs k d c n (seen++[x.1]) l1:=by obtain⟨a,b⟩:=x;simp only[Ea]
theorem NY{id:Id}{a:Nat}(h:id.1<a)(j:Nat):((a,j)=id)=False:=by grind
theorem M0{id:Id}{a:Nat}(h:id.1<a)(j:Nat):(id=(a,j))=False:=by grind
theorem Acq{id:Id}{e e':AX}:∀i,lk [(id,e')] i≠none->lk [(id,e)] i≠none:=by intro i h;simp only[lk] at h⊢;grind
theorem q9(p:Ab)(d:Int)(c:Bool)(l:List Aa)(id:Id)(O:p.wt<=2^24)(hp:∀x∈p.cases,∀l,An π W0 54 [.agg [.arr id],.sl (x.2.map Ab.enc),.i .i64 d,.b (c||(p.kind !=9))] [(id,.map (Db l))] (.b (BO x.2 d (c||(p.kind !=9)) false l).1) [(id,.map (Db (BO x.2 d (c||(p.kind !=9)) false l).2))]) :
  An π W0 75 [.agg [.arr id],p.enc,.i .i64 d,.b c] [(id,.map (Db l))] (.b (Ea p.cases p.kind d c p.cases.length [] l).1) [(id,.map (Db (Ea p.cases p.kind d c p.cases.length [] l).2))]:=by
 rw[p.wt_eq] at O;have X:=Cc p.cases;generalize hS:Ea p.cases p.kind d c p.cases.length [] l=S;refine Ak (vs:=[.b S.1]) AjR (by simp) Acq λn0 F=>?_;have E:id.1<n0:=F id (.map (Db l)) (by simp[lk]);clear F;rw[Ab.enc_eq];have o:∀j,((n0,j)=id)=False:=λj=>NY E j;have e:∀j,(id=(n0,j))=False:=λj=>M0 E j;simp only[push_cast,seval,reduceEqDiff,o,e];intro k1 k2 k3;refine As p.cases.length (Inv:=λm st=>∃t z n' seen y B,p.cases=t++z/\m=z.length/\Ea z p.kind d c p.cases.length seen y=S/\id.1<B/\id.1<n'/\st=⟨[(2,.i .i64 d),(3,.b c),(4,.ref (n0,4) 0),(5,.ref (n0,5) 0),(9,.arr (B,12)),(14,.sl (p.cases.map Ar.enc)),(15,.i .i64 p.cases.length),(16,.i .i64 t.length)],[(id,.map (Db y)),((B,12),.map (Db seen)),((n0,5),.box p.v),((n0,4),.box (.agg [.arr id]))],n'⟩) ⟨_,Al.drop (fV (σ:=[_,_,_]) ?_) (Nat.le_refl _),[],p.cases,_,[],l,_,rfl,rfl,hS,?_,?_,rfl⟩ ?_
 .have:=NY (id:=id) (a:=n0+1+k1) (by omega);simp[o,this]
 .omega
 .omega
 clear hS;rintro m _ ⟨t,z,n',seen,y,B,f,rfl,A,C,Y,rfl⟩;unfold Ab.v;have u:∀j,((B,j)=id)=False:=λj=>NY C j;have g:∀j,(id=(B,j))=False:=λj=>M0 C j;have r:∀k j,((n'+1+k,j)=id)=False:=λk j=>NY (by omega) j;have h:∀k j,(id=(n'+1+k,j))=False:=λk j=>M0 (by omega) j;cases z with
 | nil=>
  rw[Ea] at A;subst A;rcases Gt Bd seen with⟨h1,_,i,h2,_⟩|⟨h1,_,h2⟩
  all_goals unfold Bd at h2
  .skip;simp only[push_cast,seval,reduceEqDiff,o,e,u,g,r,h,h2,f]
   repeat' (first|(((first|apply Ad|apply Ai|apply Ah)<;>intro _h)<;>simp only[push_cast,seval,reduceEqDiff,_h,o,e,u,g,r,h,h2])|intro _)
   all_goals (refine A4 ?_ CF;simp only[Be,h1,if_true,if_false,Bool.and_true,Bool.and_false,reduceEqDiff];done)
  .skip;simp only[push_cast,seval,reduceEqDiff,o,e,u,g,r,h,h2,f]
   repeat' (first|(((first|apply Ad|apply Ai|apply Ah)<;>intro _h)<;>simp only[push_cast,seval,reduceEqDiff,_h,o,e,u,g,r,h,h2])|intro _)
   all_goals (refine A4 ?_ CF;simp only[Be,h1,if_true,if_false,Bool.and_true,Bool.and_false,reduceEqDiff];done)
 | cons x z=>
  have U:=AW f;have D:x∈p.cases:=by rw[f];simp
  have Z:=Bj D;have K:=Abl W0 p.kind x.1 (by omega);have J:c=true->An π W0 54 [.agg [.arr id],.sl (x.2.map Ab.enc),.i .i64 d,.b true] [(id,.map (Db y))] (.b (BO x.2 d (c||(p.kind !=9)) false y).1) [(id,.map (Db (BO x.2 d (c||(p.kind !=9)) false y).2))]:=by intro G;have:=hp x D y;rw[G] at this⊢;exact this
  have I:c=false->An π W0 54 [.agg [.arr id],.sl (x.2.map Ab.enc),.i .i64 d,.b (p.kind !=9)] [(id,.map (Db y))] (.b (BO x.2 d (c||(p.kind !=9)) false y).1) [(id,.map (Db (BO x.2 d (c||(p.kind !=9)) false y).2))]:=by intro G;have:=hp x D y;rw[G] at this⊢;exact this
  rw[Ix] at A;clear hp;generalize BO x.2 d (c||(p.kind !=9)) false y=R at *;generalize Gp p.kind x.1=N at *;have M:∀k j,∀q∈[((n'+1+k,j),AX.box (.agg [V.s x.fst,V.sl (List.map Ab.enc x.snd)]))]++[((B,12),AX.map (Db seen)),((n0,5),.box (.agg [V.i IntKind.i64 p.kind,V.s p.text,V.s p.name,V.s p.style,V.sl (List.map Ar.enc (t++x::z)),V.sl (List.map Ab.enc p.parts)])),((n0,4),.box (.agg [.arr id]))],q.1≠id:=by
   intro k j q L;simp at L;rcases L with rfl|rfl|rfl|rfl
   all_goals simp[o,u,r]
  rcases Gt x.1 seen with⟨h1,_,i,h2,_⟩|⟨h1,_,h2⟩
  all_goals rw[h1] at A
  .rw[Bool.or_true,if_pos rfl] at A;subst A;simp only[push_cast,seval,reduceEqDiff,f,o,e,u,g,r,h,h2,Ac x (dn:=t) (by omega),Bo]
   repeat' (first|(((first|apply Ad|apply Ai|apply Ah)<;>intro _h)<;>simp only[push_cast,seval,reduceEqDiff,_h,f,o,e,u,g,r,h,h2,Ac x (dn:=t) (by omega),Bo])|(refine Ae (by exact K) ?_;simp only[push_cast,seval,reduceEqDiff,f,o,e,u,g,r,h,h2,Ac x (dn:=t) (by omega),Bo])|intro _)
   all_goals (refine A4 ?_ (Ek (r _ _));simp only[Be,if_true];done)
  .rw[Bool.or_false] at A;obtain⟨rb,rl⟩:=R;cases N
   all_goals cases rb
   all_goals
    simp only[Bool.not_true,Bool.not_false,if_true,if_false,Bool.false_eq_true] at A;skip;simp only[push_cast,seval,reduceEqDiff,f,o,e,u,g,r,h,h2,Ac x (dn:=t) (by omega),Bo]
    repeat' (first|(((first|apply Ad|apply Ai|apply Ah)<;>intro _h)<;>simp only[push_cast,seval,reduceEqDiff,_h,f,o,e,u,g,r,h,h2,Ac x (dn:=t) (by omega),Bo])|(refine Ae (by exact K) ?_;simp only[push_cast,seval,reduceEqDiff,f,o,e,u,g,r,h,h2,Ac x (dn:=t) (by omega),Bo])|intro _)
    all_goals (try (first|refine Ep (pre:=[_]) (J (by assumption)) (M _ _) ?_|refine Ep (pre:=[_]) (I (by assumption)) (M _ _) ?_))
    all_goals (try simp only[push_cast,seval,reduceEqDiff,f,o,e,u,g,r,h,h2,Ac x (dn:=t) (by omega),Bo])
    repeat' (first|(((first|apply Ad|apply Ai|apply Ah)<;>intro _h)<;>simp only[push_cast,seval,reduceEqDiff,_h,f,o,e,u,g,r,h,h2,Ac x (dn:=t) (by omega),Bo])|intro _)
    all_goals (try (exfalso;simp_all;done))
    all_goals subst_vars
    all_goals (first|(refine A4 (by simp[get]) ?_;first|exact CF|exact Ek (r _ _))|exact⟨_,_,Nat.lt_succ_self _,Al.dropM (by simp[lk]) (Nat.le_refl _),t++[x],z,_,seen++[x.1],rl,B,by simp,rfl,by rw[f],C,by omega,rfl⟩|skip)
end Go.Ir
end
namespace Go.Ir
open Go.Proofs
variable(W0:World)
theorem kN{k:Int}(h:AJ k=true):(k==1)=false/\(k==10)=false/\(k==11)=false/\(k !=11)=true:=by unfold AJ at h;grind
set_option maxHeartbeats 4000000 in
theorem Akk:∀(N:Nat) (ps:List Ab) (d:Int) (c:Bool) (l:List Aa) (id:Id),Aw ps<N->Aw ps<=2^24->0<=d->d<=2^30->
  An π W0 54 [.agg [.arr id],.sl (ps.map Ab.enc),.i .i64 d,.b c] [(id,.map (Db l))] (.b (BO ps d c false l).1) [(id,.map (Db (BO ps d c false l).2))]:=by
 intro N
 induction N with
 | zero=>intro ps d c l id h;omega
 | succ N Z=>
 intro ps d c l id hN hb ah ai;have ad:=C7 ps;generalize hS:BO ps d c false l=S;refine Ak (vs:=[.b S.1]) Al6 (by simp) Acq λn0 V=>?_;have U:id.1<n0:=V id (.map (Db l)) (by simp[lk]);clear V;have u:∀j,((n0,j)=id)=False:=λj=>NY U j;have e:∀j,(id=(n0,j))=False:=λj=>M0 U j;simp only[push_cast,seval,reduceEqDiff,u,e];intro k1 k2;refine As ps.length (Inv:=λm st=>∃dn f n' K,ps=dn++f/\m=f.length/\BO f d c (GW dn) K=S/\id.1<n'/\st=⟨[(1,.sl (ps.map Ab.enc)),(2,.i .i64 d),(3,.b c),(4,.ref (n0,4) 0),(11,.sl (ps.map Ab.enc)),(12,.i .i64 ps.length),(13,.i .i64 dn.length)],[(id,.map (Db K)),((n0,4),.box (.agg [.arr id]))],n'⟩) ⟨_,Al.drop (fV (σ:=[_]) ?_) (Nat.le_refl _),[],ps,_,l,rfl,rfl,hS,?_,rfl⟩ ?_
 .simp[u]
 .omega
 clear hS;rintro m _ ⟨dn,f,n',K,v,rfl,o,aj,rfl⟩;have r:∀k j,((n'+1+k,j)=id)=False:=λk j=>NY (by omega) j;have a:∀k j,(id=(n'+1+k,j))=False:=λk j=>M0 (by omega) j;cases f with
 | nil=>
  rw[BO] at o;subst o;simp only[push_cast,seval,reduceEqDiff,u,e,r,a,v]
  repeat' (first|(((first|apply Ad|apply Ai|apply Ah)<;>intro _h)<;>simp only[push_cast,seval,reduceEqDiff,_h,u,e,r,a])|intro _)
  all_goals (refine A4 (by simp[get]) CF)
 | cons p f=>
  have ag:=AW v;have hw:=CC (ps:=ps) (p:=p) (by rw[v];simp);have ak:=hw;rw[p.wt_eq] at hw;have s:GW (dn++[p])=(p.kind==1):=by simp[GW]
  rw[IG] at o;have M:(decide ((dn.length:Int)>0)=false/\GW dn=false)\/(∃q:Ab,decide ((dn.length:Int)>0)=true/\(List.map Ab.enc (dn++p::f))[(IntKind.i64.wrap ((dn.length:Int)-1)).toNat]?=some q.enc/\(0<=IntKind.i64.wrap ((dn.length:Int)-1))=True/\GW dn=(q.kind==1)):=by
   rcases List.eq_nil_or_concat dn with rfl|⟨d',q,rfl⟩
   .exact .inl ⟨rfl,rfl⟩
   .rw[List.concat_eq_append] at *;have:IntKind.i64.wrap (((d'++[q]).length:Int)-1)=(d'.length:Int):=by rw[wrap64]<;>simp at *<;>omega
    refine .inr ⟨q,by simp<;>omega,?_,?_,by simp[GW]⟩
    .rw[this];simp
    .rw[this];simp
  have C:=fY W0 p (by unfold AO;omega) (by unfold AO;omega);rw[Ab.enc_eq] at C;have t:=D5 W0 p.kind;have y:IntKind.i64.wrap (d+1)=d+1:=wrap64 (by omega) (by omega);rw[p.chk_eq] at o;have L:∀k j (X:AX),∀q∈[((n'+1+k,j),X)]++[((n0,4),AX.box (.agg [.arr id]))],q.1≠id:=by
   intro k j X q hq;simp at hq;rcases hq with rfl|rfl
   all_goals simp[u,r]
  have J:d<8/\decide (d>=8)=false\/decide (d>=8)=true:=by
   by_cases h:d<8
   .exact .inl ⟨h,by simp;omega⟩
   .exact .inr (by simp;omega)
  by_cases OV:p.kind=11
  .have F:=fun(J:d<8)=>Z p.parts (d+1) c K id (by omega) (by omega) (by omega) (by omega);have ab:AJ 11=false:=rfl;have q1:(p.kind==1)=false:=by rw[OV];rfl
   rw[OV] at o C t;rw[ab] at t o;clear M;generalize p.fieldsB=O at *;generalize BO p.parts (d+1) c false K=R at *;obtain⟨rb,rl⟩:=R;cases O
   .simp only[bq,if_true,if_false,Int.reduceBEq,reduceCtorEq] at o;simp only[push_cast,seval,reduceEqDiff,v,u,e,r,a,Ac p (dn:=dn) (by omega),y,OV,Int.reduceBEq,Int.reduceBNe]
    repeat' (first|(((first|apply Ad|apply Ai|apply Ah)<;>intro _h)<;>simp only[push_cast,seval,reduceEqDiff,_h,v,u,e,r,a,Ac p (dn:=dn) (by omega),y,OV,Int.reduceBEq,Int.reduceBNe])|((first|refine Ae (by exact C) ?_|refine Ae (by exact t) ?_);simp only[push_cast,seval,reduceEqDiff,v,u,e,r,a,Ac p (dn:=dn) (by omega),y,OV,Int.reduceBEq,Int.reduceBNe])|intro _)
    all_goals (first|(subst o;refine A4 (by simp[get]) ?_;first|exact CF|exact Ek (r _ _))|exact⟨_,_,Nat.lt_succ_self _,Al.dropM (by simp[lk]) (Nat.le_refl _),dn++[p],f,_,_,by simp,rfl,by rw[s,q1];exact o,by omega,rfl⟩|exact⟨_,_,Nat.lt_succ_self _,Al.drop1 (by simp[lk,a]) (Nat.le_refl _),dn++[p],f,_,_,by simp,rfl,by rw[s,q1];exact o,by omega,rfl⟩|skip)
   .rcases J with⟨J,e8⟩|e8
    .cases rb
     all_goals
      rw[e8] at o;simp only[bq,if_true,if_false,Int.reduceBEq,reduceCtorEq] at o;skip;simp only[push_cast,seval,reduceEqDiff,v,u,e,r,a,Ac p (dn:=dn) (by omega),y,OV,Int.reduceBEq,Int.reduceBNe,e8]
      repeat' (first|(((first|apply Ad|apply Ai|apply Ah)<;>intro _h)<;>simp only[push_cast,seval,reduceEqDiff,_h,v,u,e,r,a,Ac p (dn:=dn) (by omega),y,OV,Int.reduceBEq,Int.reduceBNe,e8])|((first|refine Ae (by exact C) ?_|refine Ae (by exact t) ?_);simp only[push_cast,seval,reduceEqDiff,v,u,e,r,a,Ac p (dn:=dn) (by omega),y,OV,Int.reduceBEq,Int.reduceBNe,e8])|intro _)
      all_goals (refine Ep (pre:=[_]) (F J) (L _ _ _) ?_;simp only[push_cast,seval,reduceEqDiff,v,u,e,r,a,Ac p (dn:=dn) (by omega),y,OV,Int.reduceBEq,Int.reduceBNe,e8])
      repeat' (first|(((first|apply Ad|apply Ai|apply Ah)<;>intro _h)<;>simp only[push_cast,seval,reduceEqDiff,_h,v,u,e,r,a,Ac p (dn:=dn) (by omega),y,OV,Int.reduceBEq,Int.reduceBNe,e8])|(refine Ae (by exact t) ?_;simp only[push_cast,seval,reduceEqDiff,v,u,e,r,a,Ac p (dn:=dn) (by omega),y,OV,Int.reduceBEq,Int.reduceBNe,e8])|intro _)
      all_goals (first|(subst o;refine A4 (by simp[get]) ?_;first|exact CF|exact Ek (r _ _))|exact⟨_,_,Nat.lt_succ_self _,Al.dropM (by simp[lk]) (Nat.le_refl _),dn++[p],f,_,_,by simp,rfl,by rw[s,q1];exact o,by omega,rfl⟩|exact⟨_,_,Nat.lt_succ_self _,Al.drop1 (by simp[lk,a]) (Nat.le_refl _),dn++[p],f,_,_,by simp,rfl,by rw[s,q1];exact o,by omega,rfl⟩|skip)
    .rw[e8] at o;simp only[bq,if_true,if_false,Int.reduceBEq,reduceCtorEq] at o;simp only[push_cast,seval,reduceEqDiff,v,u,e,r,a,Ac p (dn:=dn) (by omega),y,OV,Int.reduceBEq,Int.reduceBNe,e8]
     repeat' (first|(((first|apply Ad|apply Ai|apply Ah)<;>intro _h)<;>simp only[push_cast,seval,reduceEqDiff,_h,v,u,e,r,a,Ac p (dn:=dn) (by omega),y,OV,Int.reduceBEq,Int.reduceBNe,e8])|((first|refine Ae (by exact C) ?_|refine Ae (by exact t) ?_);simp only[push_cast,seval,reduceEqDiff,v,u,e,r,a,Ac p (dn:=dn) (by omega),y,OV,Int.reduceBEq,Int.reduceBNe,e8])|intro _)
     all_goals (first|(subst o;refine A4 (by simp[get]) ?_;first|exact CF|exact Ek (r _ _))|exact⟨_,_,Nat.lt_succ_self _,Al.dropM (by simp[lk]) (Nat.le_refl _),dn++[p],f,_,_,by simp,rfl,by rw[s,q1];exact o,by omega,rfl⟩|exact⟨_,_,Nat.lt_succ_self _,Al.drop1 (by simp[lk,a]) (Nat.le_refl _),dn++[p],f,_,_,by simp,rfl,by rw[s,q1];exact o,by omega,rfl⟩|skip)
  .have g:(p.kind==11)=false:=by simpa using OV
   have A:(p.kind !=11)=true:=by simp[bne,g]
   rcases Bool.eq_false_or_eq_true (AJ p.kind) with Y|Y
   .obtain⟨q1,z,_,_⟩:=kN Y;have F:=fun(J:d<8)=>q9 W0 p (d+1) c K id (by omega) (λx L l=>Z x.2 (d+1) _ l id (by have:=Bj L;omega) (by have:=Bj L;omega) (by omega) (by omega));clear M Z;rw[Ab.enc_eq] at F;rw[Y] at t o;simp only[bq,if_true,if_false,Int.reduceBEq,reduceCtorEq,q1,z,g] at o;generalize p.fieldsB=O at *;generalize Ea p.cases p.kind (d+1) c p.cases.length [] K=R at *;obtain⟨rb,rl⟩:=R;cases O
    .simp only[bq,if_true,if_false,Int.reduceBEq,reduceCtorEq,q1,z,g] at o;simp only[push_cast,seval,reduceEqDiff,v,u,e,r,a,Ac p (dn:=dn) (by omega),y,q1,z,g,A,Int.reduceBEq,Int.reduceBNe]
     repeat' (first|(((first|apply Ad|apply Ai|apply Ah)<;>intro _h)<;>simp only[push_cast,seval,reduceEqDiff,_h,v,u,e,r,a,Ac p (dn:=dn) (by omega),y,q1,z,g,A,Int.reduceBEq,Int.reduceBNe])|((first|refine Ae (by exact C) ?_|refine Ae (by exact t) ?_);simp only[push_cast,seval,reduceEqDiff,v,u,e,r,a,Ac p (dn:=dn) (by omega),y,q1,z,g,A,Int.reduceBEq,Int.reduceBNe])|intro _)
     all_goals (first|(subst o;refine A4 (by simp[get]) ?_;first|exact CF|exact Ek (r _ _))|exact⟨_,_,Nat.lt_succ_self _,Al.dropM (by simp[lk]) (Nat.le_refl _),dn++[p],f,_,_,by simp,rfl,by rw[s,q1];exact o,by omega,rfl⟩|exact⟨_,_,Nat.lt_succ_self _,Al.drop1 (by simp[lk,a]) (Nat.le_refl _),dn++[p],f,_,_,by simp,rfl,by rw[s,q1];exact o,by omega,rfl⟩|skip)
    .rcases J with⟨J,e8⟩|e8
     .simp only[bq,if_true,if_false,Int.reduceBEq,reduceCtorEq,e8] at o;cases rb
      .simp only[bq,if_true,if_false,Int.reduceBEq,reduceCtorEq] at o;simp only[push_cast,seval,reduceEqDiff,v,u,e,r,a,Ac p (dn:=dn) (by omega),y,q1,z,g,A,Int.reduceBEq,Int.reduceBNe,e8]
       repeat' (first|(((first|apply Ad|apply Ai|apply Ah)<;>intro _h)<;>simp only[push_cast,seval,reduceEqDiff,_h,v,u,e,r,a,Ac p (dn:=dn) (by omega),y,q1,z,g,A,Int.reduceBEq,Int.reduceBNe,e8])|((first|refine Ae (by exact C) ?_|refine Ae (by exact t) ?_);simp only[push_cast,seval,reduceEqDiff,v,u,e,r,a,Ac p (dn:=dn) (by omega),y,q1,z,g,A,Int.reduceBEq,Int.reduceBNe,e8])|intro _)
       all_goals (refine Ep (pre:=[_]) (F J) (L _ _ _) ?_;simp only[push_cast,seval,reduceEqDiff,v,u,e,r,a,Ac p (dn:=dn) (by omega),y,q1,z,g,A,Int.reduceBEq,Int.reduceBNe,e8])
       repeat' (first|(((first|apply Ad|apply Ai|apply Ah)<;>intro _h)<;>simp only[push_cast,seval,reduceEqDiff,_h,v,u,e,r,a,Ac p (dn:=dn) (by omega),y,q1,z,g,A,Int.reduceBEq,Int.reduceBNe,e8])|intro _)
       all_goals (first|(subst o;refine A4 (by simp[get]) ?_;first|exact CF|exact Ek (r _ _))|exact⟨_,_,Nat.lt_succ_self _,Al.dropM (by simp[lk]) (Nat.le_refl _),dn++[p],f,_,_,by simp,rfl,by rw[s,q1];exact o,by omega,rfl⟩|exact⟨_,_,Nat.lt_succ_self _,Al.drop1 (by simp[lk,a]) (Nat.le_refl _),dn++[p],f,_,_,by simp,rfl,by rw[s,q1];exact o,by omega,rfl⟩|skip)
      .simp only[bq,if_true,if_false,Int.reduceBEq,reduceCtorEq] at o;rcases Bool.eq_false_or_eq_true (p.name==[]) with B|B
       .simp only[bq,if_true,if_false,Int.reduceBEq,reduceCtorEq,B] at o;simp only[push_cast,seval,reduceEqDiff,v,u,e,r,a,Ac p (dn:=dn) (by omega),y,q1,z,g,A,Int.reduceBEq,Int.reduceBNe,e8,B]
        repeat' (first|(((first|apply Ad|apply Ai|apply Ah)<;>intro _h)<;>simp only[push_cast,seval,reduceEqDiff,_h,v,u,e,r,a,Ac p (dn:=dn) (by omega),y,q1,z,g,A,Int.reduceBEq,Int.reduceBNe,e8,B])|((first|refine Ae (by exact C) ?_|refine Ae (by exact t) ?_);simp only[push_cast,seval,reduceEqDiff,v,u,e,r,a,Ac p (dn:=dn) (by omega),y,q1,z,g,A,Int.reduceBEq,Int.reduceBNe,e8,B])|intro _)
        all_goals (refine Ep (pre:=[_]) (F J) (L _ _ _) ?_;simp only[push_cast,seval,reduceEqDiff,v,u,e,r,a,Ac p (dn:=dn) (by omega),y,q1,z,g,A,Int.reduceBEq,Int.reduceBNe,e8,B])
        repeat' (first|(((first|apply Ad|apply Ai|apply Ah)<;>intro _h)<;>simp only[push_cast,seval,reduceEqDiff,_h,v,u,e,r,a,Ac p (dn:=dn) (by omega),y,q1,z,g,A,Int.reduceBEq,Int.reduceBNe,e8,B])|intro _)
        all_goals (first|(subst o;refine A4 (by simp[get]) ?_;first|exact CF|exact Ek (r _ _))|exact⟨_,_,Nat.lt_succ_self _,Al.dropM (by simp[lk]) (Nat.le_refl _),dn++[p],f,_,_,by simp,rfl,by rw[s,q1];exact o,by omega,rfl⟩|exact⟨_,_,Nat.lt_succ_self _,Al.drop1 (by simp[lk,a]) (Nat.le_refl _),dn++[p],f,_,_,by simp,rfl,by rw[s,q1];exact o,by omega,rfl⟩|skip)
       .simp only[bq,if_true,if_false,Int.reduceBEq,reduceCtorEq,B] at o;rcases Gt p.name rl with⟨_,hpu,i,h2,h3⟩|⟨_,hpu,h2⟩
        .rw[hpu] at o;simp only[push_cast,seval,reduceEqDiff,v,u,e,r,a,Ac p (dn:=dn) (by omega),y,q1,z,g,A,Int.reduceBEq,Int.reduceBNe,e8,B,h2,h3]
         repeat' (first|(((first|apply Ad|apply Ai|apply Ah)<;>intro _h)<;>simp only[push_cast,seval,reduceEqDiff,_h,v,u,e,r,a,Ac p (dn:=dn) (by omega),y,q1,z,g,A,Int.reduceBEq,Int.reduceBNe,e8,B,h2,h3])|((first|refine Ae (by exact C) ?_|refine Ae (by exact t) ?_);simp only[push_cast,seval,reduceEqDiff,v,u,e,r,a,Ac p (dn:=dn) (by omega),y,q1,z,g,A,Int.reduceBEq,Int.reduceBNe,e8,B,h2,h3])|intro _)
         all_goals (refine Ep (pre:=[_]) (F J) (L _ _ _) ?_;simp only[push_cast,seval,reduceEqDiff,v,u,e,r,a,Ac p (dn:=dn) (by omega),y,q1,z,g,A,Int.reduceBEq,Int.reduceBNe,e8,B,h2,h3])
         repeat' (first|(((first|apply Ad|apply Ai|apply Ah)<;>intro _h)<;>simp only[push_cast,seval,reduceEqDiff,_h,v,u,e,r,a,Ac p (dn:=dn) (by omega),y,q1,z,g,A,Int.reduceBEq,Int.reduceBNe,e8,B,h2,h3])|intro _)
         all_goals (first|(subst o;refine A4 (by simp[get]) ?_;first|exact CF|exact Ek (r _ _))|exact⟨_,_,Nat.lt_succ_self _,Al.dropM (by simp[lk]) (Nat.le_refl _),dn++[p],f,_,_,by simp,rfl,by rw[s,q1];exact o,by omega,rfl⟩|exact⟨_,_,Nat.lt_succ_self _,Al.drop1 (by simp[lk,a]) (Nat.le_refl _),dn++[p],f,_,_,by simp,rfl,by rw[s,q1];exact o,by omega,rfl⟩|skip)
        .rw[hpu] at o;simp only[push_cast,seval,reduceEqDiff,v,u,e,r,a,Ac p (dn:=dn) (by omega),y,q1,z,g,A,Int.reduceBEq,Int.reduceBNe,e8,B,h2,Bo]
         repeat' (first|(((first|apply Ad|apply Ai|apply Ah)<;>intro _h)<;>simp only[push_cast,seval,reduceEqDiff,_h,v,u,e,r,a,Ac p (dn:=dn) (by omega),y,q1,z,g,A,Int.reduceBEq,Int.reduceBNe,e8,B,h2,Bo])|((first|refine Ae (by exact C) ?_|refine Ae (by exact t) ?_);simp only[push_cast,seval,reduceEqDiff,v,u,e,r,a,Ac p (dn:=dn) (by omega),y,q1,z,g,A,Int.reduceBEq,Int.reduceBNe,e8,B,h2,Bo])|intro _)
         all_goals (refine Ep (pre:=[_]) (F J) (L _ _ _) ?_;simp only[push_cast,seval,reduceEqDiff,v,u,e,r,a,Ac p (dn:=dn) (by omega),y,q1,z,g,A,Int.reduceBEq,Int.reduceBNe,e8,B,h2,Bo])
         repeat' (first|(((first|apply Ad|apply Ai|apply Ah)<;>intro _h)<;>simp only[push_cast,seval,reduceEqDiff,_h,v,u,e,r,a,Ac p (dn:=dn) (by omega),y,q1,z,g,A,Int.reduceBEq,Int.reduceBNe,e8,B,h2,Bo])|intro _)
         all_goals (first|(subst o;refine A4 (by simp[get]) ?_;first|exact CF|exact Ek (r _ _))|exact⟨_,_,Nat.lt_succ_self _,Al.dropM (by simp[lk]) (Nat.le_refl _),dn++[p],f,_,_,by simp,rfl,by rw[s,q1];exact o,by omega,rfl⟩|exact⟨_,_,Nat.lt_succ_self _,Al.drop1 (by simp[lk,a]) (Nat.le_refl _),dn++[p],f,_,_,by simp,rfl,by rw[s,q1];exact o,by omega,rfl⟩|skip)
     .simp only[bq,if_true,if_false,Int.reduceBEq,reduceCtorEq,e8] at o;simp only[push_cast,seval,reduceEqDiff,v,u,e,r,a,Ac p (dn:=dn) (by omega),y,q1,z,g,A,Int.reduceBEq,Int.reduceBNe,e8]
      repeat' (first|(((first|apply Ad|apply Ai|apply Ah)<;>intro _h)<;>simp only[push_cast,seval,reduceEqDiff,_h,v,u,e,r,a,Ac p (dn:=dn) (by omega),y,q1,z,g,A,Int.reduceBEq,Int.reduceBNe,e8])|((first|refine Ae (by exact C) ?_|refine Ae (by exact t) ?_);simp only[push_cast,seval,reduceEqDiff,v,u,e,r,a,Ac p (dn:=dn) (by omega),y,q1,z,g,A,Int.reduceBEq,Int.reduceBNe,e8])|intro _)
      all_goals (first|(subst o;refine A4 (by simp[get]) ?_;first|exact CF|exact Ek (r _ _))|exact⟨_,_,Nat.lt_succ_self _,Al.dropM (by simp[lk]) (Nat.le_refl _),dn++[p],f,_,_,by simp,rfl,by rw[s,q1];exact o,by omega,rfl⟩|exact⟨_,_,Nat.lt_succ_self _,Al.drop1 (by simp[lk,a]) (Nat.le_refl _),dn++[p],f,_,_,by simp,rfl,by rw[s,q1];exact o,by omega,rfl⟩|skip)
   .clear Z;rw[Y] at t o;generalize p.fieldsB=O at *;cases O
    .simp only[bq,if_true,if_false,Int.reduceBEq,reduceCtorEq,g] at o;simp only[push_cast,seval,reduceEqDiff,v,u,e,r,a,Ac p (dn:=dn) (by omega),y,g,A,Int.reduceBEq,Int.reduceBNe]
     repeat' (first|(((first|apply Ad|apply Ai|apply Ah)<;>intro _h)<;>simp only[push_cast,seval,reduceEqDiff,_h,v,u,e,r,a,Ac p (dn:=dn) (by omega),y,g,A,Int.reduceBEq,Int.reduceBNe])|((first|refine Ae (by exact C) ?_|refine Ae (by exact t) ?_);simp only[push_cast,seval,reduceEqDiff,v,u,e,r,a,Ac p (dn:=dn) (by omega),y,g,A,Int.reduceBEq,Int.reduceBNe])|intro _)
     all_goals (first|(subst o;refine A4 (by simp[get]) ?_;first|exact CF|exact Ek (r _ _))|exact⟨_,_,Nat.lt_succ_self _,Al.dropM (by simp[lk]) (Nat.le_refl _),dn++[p],f,_,_,by simp,rfl,by rw[s];exact o,by omega,rfl⟩|exact⟨_,_,Nat.lt_succ_self _,Al.drop1 (by simp[lk,a]) (Nat.le_refl _),dn++[p],f,_,_,by simp,rfl,by rw[s];exact o,by omega,rfl⟩|skip)
    .simp only[bq,if_true,if_false,Int.reduceBEq,reduceCtorEq,g] at o;generalize I:BO f d c (p.kind==1)=G at o;rcases M with⟨e1,hl⟩|⟨q,e1,D,E,hl⟩
     case' inl=>have D:=e1;have E:=e1
     all_goals rw[hl] at o
     all_goals rcases Bool.eq_false_or_eq_true (p.name==[]) with B|B
     .simp only[bq,if_true,if_false,Int.reduceBEq,reduceCtorEq,B] at o;skip;simp only[push_cast,seval,reduceEqDiff,v,u,e,r,a,Ac p (dn:=dn) (by omega),y,g,A,Int.reduceBEq,Int.reduceBNe,e1,D,E,B]
      repeat' (first|(((first|apply Ad|apply Ai|apply Ah)<;>intro _h)<;>simp only[push_cast,seval,reduceEqDiff,_h,v,u,e,r,a,Ac p (dn:=dn) (by omega),y,g,A,Int.reduceBEq,Int.reduceBNe,e1,D,E,B])|((first|refine Ae (by exact C) ?_|refine Ae (by exact t) ?_);simp only[push_cast,seval,reduceEqDiff,v,u,e,r,a,Ac p (dn:=dn) (by omega),y,g,A,Int.reduceBEq,Int.reduceBNe,e1,D,E,B])|intro _)
      all_goals (try simp only[Bool.not_eq_true',Bool.not_eq_false'] at *)
      all_goals (try simp only[*,bq,if_true,if_false,Int.reduceBEq,reduceCtorEq] at o)
      all_goals (first|(subst o;refine A4 (by simp[get]) ?_;first|exact CF|exact Ek (r _ _))|exact⟨_,_,Nat.lt_succ_self _,Al.dropM (by simp[lk]) (Nat.le_refl _),dn++[p],f,_,_,by simp,rfl,by rw[s,I];exact o,by omega,rfl⟩|exact⟨_,_,Nat.lt_succ_self _,Al.drop1 (by simp[lk,a]) (Nat.le_refl _),dn++[p],f,_,_,by simp,rfl,by rw[s,I];exact o,by omega,rfl⟩|skip)
     .rcases Gt p.name K with⟨_,hpu,i,h2,h3⟩|⟨_,hpu,h2⟩
      all_goals simp only[bq,if_true,if_false,Int.reduceBEq,reduceCtorEq,B,hpu] at o
      .skip;simp only[push_cast,seval,reduceEqDiff,v,u,e,r,a,Ac p (dn:=dn) (by omega),y,g,A,Int.reduceBEq,Int.reduceBNe,e1,D,E,B,h2,h3]
       repeat' (first|(((first|apply Ad|apply Ai|apply Ah)<;>intro _h)<;>simp only[push_cast,seval,reduceEqDiff,_h,v,u,e,r,a,Ac p (dn:=dn) (by omega),y,g,A,Int.reduceBEq,Int.reduceBNe,e1,D,E,B,h2,h3])|((first|refine Ae (by exact C) ?_|refine Ae (by exact t) ?_);simp only[push_cast,seval,reduceEqDiff,v,u,e,r,a,Ac p (dn:=dn) (by omega),y,g,A,Int.reduceBEq,Int.reduceBNe,e1,D,E,B,h2,h3])|intro _)
       all_goals (try simp only[Bool.not_eq_true',Bool.not_eq_false'] at *)
       all_goals (try simp only[*,bq,if_true,if_false,Int.reduceBEq,reduceCtorEq] at o)
       all_goals (first|(subst o;refine A4 (by simp[get]) ?_;first|exact CF|exact Ek (r _ _))|exact⟨_,_,Nat.lt_succ_self _,Al.dropM (by simp[lk]) (Nat.le_refl _),dn++[p],f,_,_,by simp,rfl,by rw[s,I];exact o,by omega,rfl⟩|exact⟨_,_,Nat.lt_succ_self _,Al.drop1 (by simp[lk,a]) (Nat.le_refl _),dn++[p],f,_,_,by simp,rfl,by rw[s,I];exact o,by omega,rfl⟩|skip)
      .skip;simp only[push_cast,seval,reduceEqDiff,v,u,e,r,a,Ac p (dn:=dn) (by omega),y,g,A,Int.reduceBEq,Int.reduceBNe,e1,D,E,B,h2,Bo]
       repeat' (first|(((first|apply Ad|apply Ai|apply Ah)<;>intro _h)<;>simp only[push_cast,seval,reduceEqDiff,_h,v,u,e,r,a,Ac p (dn:=dn) (by omega),y,g,A,Int.reduceBEq,Int.reduceBNe,e1,D,E,B,h2,Bo])|((first|refine Ae (by exact C) ?_|refine Ae (by exact t) ?_);simp only[push_cast,seval,reduceEqDiff,v,u,e,r,a,Ac p (dn:=dn) (by omega),y,g,A,Int.reduceBEq,Int.reduceBNe,e1,D,E,B,h2,Bo])|intro _)
       all_goals (try simp only[Bool.not_eq_true',Bool.not_eq_false'] at *)
       all_goals (try simp only[*,bq,if_true,if_false,Int.reduceBEq,reduceCtorEq] at o)
       all_goals (first|(subst o;refine A4 (by simp[get]) ?_;first|exact CF|exact Ek (r _ _))|exact⟨_,_,Nat.lt_succ_self _,Al.dropM (by simp[lk]) (Nat.le_refl _),dn++[p],f,_,_,by simp,rfl,by rw[s,I];exact o,by omega,rfl⟩|exact⟨_,_,Nat.lt_succ_self _,Al.drop1 (by simp[lk,a]) (Nat.le_refl _),dn++[p],f,_,_,by simp,rfl,by rw[s,I];exact o,by omega,rfl⟩|skip)
     .simp only[bq,if_true,if_false,Int.reduceBEq,reduceCtorEq,B] at o;skip;simp only[push_cast,seval,reduceEqDiff,v,u,e,r,a,Ac p (dn:=dn) (by omega),y,g,A,Int.reduceBEq,Int.reduceBNe,e1,D,E,B]
      repeat' (first|(((first|apply Ad|apply Ai|apply Ah)<;>intro _h)<;>simp only[push_cast,seval,reduceEqDiff,_h,v,u,e,r,a,Ac p (dn:=dn) (by omega),y,g,A,Int.reduceBEq,Int.reduceBNe,e1,D,E,B])|((first|refine Ae (by exact C) ?_|refine Ae (by exact t) ?_);simp only[push_cast,seval,reduceEqDiff,v,u,e,r,a,Ac p (dn:=dn) (by omega),y,g,A,Int.reduceBEq,Int.reduceBNe,e1,D,E,B])|intro _)
      all_goals (try simp only[Bool.not_eq_true',Bool.not_eq_false'] at *)
      all_goals (try simp only[*,bq,if_true,if_false,Int.reduceBEq,reduceCtorEq] at o)
      all_goals (first|(subst o;refine A4 (by simp[get]) ?_;first|exact CF|exact Ek (r _ _))|exact⟨_,_,Nat.lt_succ_self _,Al.dropM (by simp[lk]) (Nat.le_refl _),dn++[p],f,_,_,by simp,rfl,by rw[s,I];exact o,by omega,rfl⟩|exact⟨_,_,Nat.lt_succ_self _,Al.drop1 (by simp[lk,a]) (Nat.le_refl _),dn++[p],f,_,_,by simp,rfl,by rw[s,I];exact o,by omega,rfl⟩|skip)
     .rcases Gt p.name K with⟨_,hpu,i,h2,h3⟩|⟨_,hpu,h2⟩
      all_goals simp only[bq,if_true,if_false,Int.reduceBEq,reduceCtorEq,B,hpu] at o
      .skip;simp only[push_cast,seval,reduceEqDiff,v,u,e,r,a,Ac p (dn:=dn) (by omega),y,g,A,Int.reduceBEq,Int.reduceBNe,e1,D,E,B,h2,h3]
       repeat' (first|(((first|apply Ad|apply Ai|apply Ah)<;>intro _h)<;>simp only[push_cast,seval,reduceEqDiff,_h,v,u,e,r,a,Ac p (dn:=dn) (by omega),y,g,A,Int.reduceBEq,Int.reduceBNe,e1,D,E,B,h2,h3])|((first|refine Ae (by exact C) ?_|refine Ae (by exact t) ?_);simp only[push_cast,seval,reduceEqDiff,v,u,e,r,a,Ac p (dn:=dn) (by omega),y,g,A,Int.reduceBEq,Int.reduceBNe,e1,D,E,B,h2,h3])|intro _)
       all_goals (try simp only[Bool.not_eq_true',Bool.not_eq_false'] at *)
       all_goals (try simp only[*,bq,if_true,if_false,Int.reduceBEq,reduceCtorEq] at o)
       all_goals (first|(subst o;refine A4 (by simp[get]) ?_;first|exact CF|exact Ek (r _ _))|exact⟨_,_,Nat.lt_succ_self _,Al.dropM (by simp[lk]) (Nat.le_refl _),dn++[p],f,_,_,by simp,rfl,by rw[s,I];exact o,by omega,rfl⟩|exact⟨_,_,Nat.lt_succ_self _,Al.drop1 (by simp[lk,a]) (Nat.le_refl _),dn++[p],f,_,_,by simp,rfl,by rw[s,I];exact o,by omega,rfl⟩|skip)
      .skip;simp only[push_cast,seval,reduceEqDiff,v,u,e,r,a,Ac p (dn:=dn) (by omega),y,g,A,Int.reduceBEq,Int.reduceBNe,e1,D,E,B,h2,Bo]
       repeat' (first|(((first|apply Ad|apply Ai|apply Ah)<;>intro _h)<;>simp only[push_cast,seval,reduceEqDiff,_h,v,u,e,r,a,Ac p (dn:=dn) (by omega),y,g,A,Int.reduceBEq,Int.reduceBNe,e1,D,E,B,h2,Bo])|((first|refine Ae (by exact C) ?_|refine Ae (by exact t) ?_);simp only[push_cast,seval,reduceEqDiff,v,u,e,r,a,Ac p (dn:=dn) (by omega),y,g,A,Int.reduceBEq,Int.reduceBNe,e1,D,E,B,h2,Bo])|intro _)
       all_goals (try simp only[Bool.not_eq_true',Bool.not_eq_false'] at *)
       all_goals (try simp only[*,bq,if_true,if_false,Int.reduceBEq,reduceCtorEq] at o)
       all_goals (first|(subst o;refine A4 (by simp[get]) ?_;first|exact CF|exact Ek (r _ _))|exact⟨_,_,Nat.lt_succ_self _,Al.dropM (by simp[lk]) (Nat.le_refl _),dn++[p],f,_,_,by simp,rfl,by rw[s,I];exact o,by omega,rfl⟩|exact⟨_,_,Nat.lt_succ_self _,Al.drop1 (by simp[lk,a]) (Nat.le_refl _),dn++[p],f,_,_,by simp,rfl,by rw[s,I];exact o,by omega,rfl⟩|skip)
end Go.Ir

namespace Go.Ir
open Go.Proofs
variable{P:Program}{W0:World}{nt n:Nat}{Q:Exit→St→Prop}{env:AB}{σ:Aj}
def bQ:IC:=sQ (.block 1 (sQ (oS [m1 11 0,m1 12 4,o1 13 (.idx (.t 11) (.t 12)),q1 14 86 13] [0,3,4,14] (cD 14 (oP [m1 15 3,o1 16 (.msl false 5 1 [.c (.i .u8 92)]),o1 17 (.app (.t 15) (.t 16) 5 1),m1 3 17] [0,3,4]) .skip)) (oP [m1 18 3,m1 19 0,m1 20 4,o1 21 (.idx (.t 19) (.t 20)),o1 22 (.msl false 5 1 [.t 21]),o1 23 (.app (.t 18) (.t 22) 5 1),m1 3 23] [0,3,4]))) (oP [m1 9 4,bZ 10 .add 9 1,m1 4 10] [0,3,4])
def zW:IC:=sQ (oS [mZ 4 0] [0,3,4] (.block 0 (.loop (sQ (oS [m1 5 4,m1 6 0,nS 7 6,bT 8 .lss 5 7] [0,3,4,8] (cD 8 .skip (.exit 0))) bQ)))) (sQ (.wk (oP [m1 24 3,o1 25 (.pu .btos [.t 24]),m1 2 25] [2])) .ret)
def y9:IC:=oS [mC 2 (.s [])] [0] (oS [mC 3 .nil] [0,3] zW)
@[push_cast]def Ate:List R:=[.t 2]
@[push_cast]def Ax0:=AL bQ.eq_1<|AL zW.eq_1<|AZ y9.eq_1
theorem Ah5:AD π 66 26 y9 Ate=true:=by kernel_rfl
end Go.Ir

namespace Go.Ir
open Go.Proofs
variable(W0:World)
def GV(c:UInt8):V:=.i .u8 c.toNat
theorem RM(o:Aa):DJ (o.map GV)=some o:=by
 induction o with
 | nil=>rfl
 | cons c o a=>simp[DJ,GV,a]
def E9:Aa->Aa
 | []=>[]
 | c::s=>(if Gy c.toNat then[92,c] else[c])++E9 s
theorem WW(s:Aa)(C:s.length<=2^26):An π W0 66 [.s s] [] (.s (E9 s)) []:=by
 generalize hS:E9 s=S;refine Ak (vs:=[.s S]) Ah5 (by simp) (by simp) λn0 q=>?_;clear q;simp only[push_cast,seval,reduceEqDiff];intro k1 k2 k3;refine As s.length (Inv:=λm A=>∃dn a n id o,s=dn++a/\m=a.length/\o++E9 a=S/\o.length<=2*dn.length/\A=⟨[(0,.s s),(3,.arr id),(4,.i .i64 dn.length)],[(id,.arr 5 1 (o.map GV))],n⟩) ⟨_,(Al.own (s:=3) (e:=5) (sz:=1) (k:=0) rfl).trans (Al.envD (env':=[(0,.s s),(3,.arr (n0+1+k1+1+k2+1+k3,0)),(4,.i .i64 0)]) (λt=>?_) (Nat.le_refl _)),[],s,_,_,[],rfl,rfl,hS,by simp,rfl⟩ ?_
 .left;simp only[get];by_cases d:0=t
  .simp[<-d]
  .by_cases h:3=t<;>simp[d,h]
 clear hS;rintro m _ ⟨dn,a,n,id,o,g,rfl,f,B,rfl⟩;cases a with
 | nil=>
  rw[E9,List.append_nil] at f;subst f;simp only[push_cast,seval,reduceEqDiff,g];intro D;refine RF (Al.frz (es:=o.map GV) (env':=[(0,.s dn),(3,.sl (o.map GV)),(4,.i .i64 dn.length),(8,.b false)]) (σ:=[]) rfl (λy v=>by obtain⟨x,_,u⟩:=List.mem_map.1 v;rw[<-u];rfl) (λt=>?_) (Nat.le_refl _)) ?_
  .simp only[get];by_cases d:0=t
   .simp[d]
   .by_cases h:3=t
    .right;simp[d,h]
    .left;simp[d,h]
  .skip;simp only[push_cast,seval,reduceEqDiff,RM]
   repeat' (first|(((first|apply Ad|apply Ai|apply Ah)<;>intro _h)<;>(simp only[push_cast,seval,reduceEqDiff,_h];try (have _g:=_h;simp at _g)))|intro _)
   all_goals (first|(refine Af ?_;simp[get]<;>(intros;omega);done)|(refine Ag ?_;simp[push_cast,get];done)|skip)
 | cons c a=>
  have r:=AW g;rw[E9] at f;have j:o.length+1<=Bf:=by unfold Bf;omega
  have p:(List.map GV o++[V.i IntKind.u8 92]).length=o.length+1:=by simp
  have m1:List.map GV o++[V.i IntKind.u8 92]++[V.i IntKind.u8 c.toNat]=List.map GV (o++[92,c]):=by simp[GV]
  have z:List.map GV o++[V.i IntKind.u8 c.toNat]=List.map GV (o++[c]):=by simp[GV]
  have l:o.length+1+1<=Bf:=by unfold Bf;omega
  simp only[push_cast,seval,reduceEqDiff,g,Cj c (dn:=dn) (by unfold AO;omega),List.length_map,p,eq_true j,eq_true l]
  repeat' (first|(((first|apply Ad|apply Ai|apply Ah)<;>intro _h)<;>(simp only[push_cast,seval,reduceEqDiff,_h,g,Cj c (dn:=dn) (by unfold AO;omega),List.length_map,p,eq_true j,eq_true l];try (have _g:=_h;simp at _g)))|(refine Ae (by exact Th W0 _) ?_;simp only[push_cast,seval,reduceEqDiff,g,Cj c (dn:=dn) (by unfold AO;omega),List.length_map,p,eq_true j,eq_true l])|intro _)
  all_goals (first|rw[m1]|rw[z])
  all_goals (first|(exact⟨_,_,Nat.lt_succ_self _,Al.refl,dn++[c],a,_,_,o++[92,c],by simp,rfl,by rw[<-f];simp[*],by simp;omega,rfl⟩)|(exact⟨_,_,Nat.lt_succ_self _,Al.refl,dn++[c],a,_,_,o++[c],by simp,rfl,by rw[<-f];simp[*],by simp;omega,rfl⟩)|skip)
end Go.Ir
section
namespace Go.Ir
open Go.Proofs
variable(W0:World)
def Rb(k:Int):Aa:=
 if k==3 then[110,117,109,98,101,114] else if k==4 then[117,110,105,116] else if k==5 then[100,97,116,101] else if k==6 then[108,105,115,116]
 else if k==7 then[112,108,117,114,97,108] else if k==8 then[111,114,100,105,110,97,108] else[115,101,108,101,99,116]
theorem H3(k:Int):(Rb k).length<=7:=by
 unfold Rb;repeat' split
 all_goals simp
theorem JD(s:Aa):(E9 s).length<=2*s.length:=by
 induction s with
 | nil=>simp[E9]
 | cons c s a=>rw[E9];split<;>simp<;>omega
def VE(p:Ab):Aa:=[123]++p.name++[44]++[32]++Rb p.kind
def T4(p:Ab):Aa:=if p.style==[] then[] else[44]++[32]++p.style
def SC(p:Ab):Aa:=if AJ p.kind then[44] else[]
mutual
def Ab.textB:Ab->Aa
 | ⟨k,t,a,b,cs,ps⟩=>
  if k==1 then E9 t
  else if k==10 then[35]
  else if k==11 then(if ps.isEmpty then[60]++a++[47,62] else[60]++a++[62]++Cx ps++[60,47]++a++[62])
  else if k==2 then[123]++a++[125]
  else if decide (k>=3)&&decide (k<=9) then VE ⟨k,t,a,b,cs,ps⟩++T4 ⟨k,t,a,b,cs,ps⟩++SC ⟨k,t,a,b,cs,ps⟩++D2 cs++[125]
  else[]
def Cx:List Ab->Aa
 | []=>[]
 | p::ps=>p.textB++Cx ps
def D2:List (Aa×List Ab)->Aa
 | []=>[]
 | (key,ps)::cs=>[32]++key++[32]++[123]++Cx ps++[125]++D2 cs
end
theorem Ab.textB_eq(p:Ab):p.textB=(if p.kind==1 then E9 p.text
  else if p.kind==10 then[35]
  else if p.kind==11 then(if p.parts.isEmpty then[60]++p.name++[47,62] else[60]++p.name++[62]++Cx p.parts++[60,47]++p.name++[62])
  else if p.kind==2 then[123]++p.name++[125]
  else if decide (p.kind>=3)&&decide (p.kind<=9) then VE p++T4 p++SC p++D2 p.cases++[125]
  else[]):=by cases p;simp only[Ab.textB]
theorem Hh(p:Ab)(ps:List Ab):Cx (p::ps)=p.textB++Cx ps:=by simp only[Cx]
theorem FO(c:Ar)(cs:List Ar):D2 (c::cs)=[32]++c.1++[32]++[123]++Cx c.2++[125]++D2 cs:=by obtain⟨k,q⟩:=c;simp only[D2]
theorem cW(p:Ab):(T4 p).length<=2+p.style.length:=by unfold T4;split<;>simp<;>omega
theorem fQ(p:Ab):(SC p).length<=1:=by unfold SC;split<;>simp
theorem Ab.textB_len1(p:Ab)(N:Nat)(b:(Cx p.parts).length<=20*Aw p.parts)(c:(D2 p.cases).length<=20*B9 p.cases):p.textB.length<=20*p.wt:=by
 rw[p.wt_eq,p.textB_eq];have a:=JD p.text;have a2:=H3 p.kind;have a3:=cW p;have a4:=fQ p
 repeat' split
 all_goals (simp[VE]<;>omega)
theorem YI:∀(N:Nat) (ps:List Ab),Aw ps<N->(Cx ps).length<=20*Aw ps:=by
 intro N
 induction N with
 | zero=>intro ps h;omega
 | succ N d=>
  have b:∀cs:List Ar,B9 cs<N->(D2 cs).length<=20*B9 cs:=by
   intro cs
   induction cs with
   | nil=>intro _;simp[D2]
   | cons c cs a=>intro h;rw[Ay] at h;rw[FO,Ay];have:=d c.2 (by omega);have:=a (by omega);simp<;>omega
  intro ps
  induction ps with
  | nil=>intro _;simp[Cx]
  | cons p ps a=>intro h;rw[Aq] at h;rw[Hh,Aq];have e:=a (by omega);have f:=p.wt_eq;have:=p.textB_len1 N (d p.parts (by omega)) (b p.cases (by omega));simp<;>omega
theorem G8(ps:List Ab):(Cx ps).length<=20*Aw ps:=YI _ ps (Nat.lt_succ_self _)
theorem Tc(cs:List Ar):(D2 cs).length<=20*B9 cs:=by
 induction cs with
 | nil=>simp[D2]
 | cons c cs a=>rw[FO,Ay];have:=G8 c.2;simp<;>omega
theorem Ab.textB_len(p:Ab):p.textB.length<=20*p.wt:=p.textB_len1 0 (G8 _) (Tc _)
def Ui:List V:=[.s [110,117,109,98,101,114],.s [117,110,105,116],.s [100,97,116,101],.s [108,105,115,116],.s [112,108,117,114,97,108],.s [111,114,100,105,110,97,108],.s [115,101,108,101,99,116]]
theorem lK(k:Int)(a:3<=k)(b:k<=9):(0<=IntKind.i64.wrap (k-3))/\Ui[(IntKind.i64.wrap (k-3)).toNat]?=some (.s (Rb k)):=by
 have:k=3\/k=4\/k=5\/k=6\/k=7\/k=8\/k=9:=by omega
 rcases this with rfl|rfl|rfl|rfl|rfl|rfl|rfl<;>exact⟨by decide,rfl⟩
set_option maxHeartbeats 4000000 in
theorem rN:∀(N:Nat) (ps:List Ab),Aw ps<N->Aw ps<=2^24->
  An π W0 38 [.sl (ps.map Ab.enc),.s [32]] [] (.s (Cx ps)) []:=by
 intro N
 induction N with
 | zero=>intro ps h;omega
 | succ N O=>
 intro ps hN hb;have M:=C7 ps;generalize hS:Cx ps=S;refine Ak (vs:=[.s S]) Amh (by simp) (by simp) λn0 J=>?_;clear J;simp only[push_cast,seval,reduceEqDiff];intros;refine As ps.length (Inv:=λm L=>∃dn a n l,ps=dn++a/\m=a.length/\l++Cx a=S/\l.length+20*Aw a<=20*Aw ps/\L=⟨[(0,.sl (ps.map Ab.enc)),(1,.s [32]),(5,.s l),(6,.sl Ui),(7,.i .i64 dn.length)],[],n⟩) ⟨_,Al.refl,[],ps,_,[],rfl,rfl,hS,by simp,rfl⟩ ?_;clear hS;rintro m _ ⟨dn,a,n,l,b,rfl,d,t,rfl⟩;cases a with
 | nil=>
  rw[Cx,List.append_nil] at d;subst d;simp only[push_cast,seval,reduceEqDiff,b]
  repeat' (first|(((first|apply Ad|apply Ai|apply Ah)<;>intro _h)<;>simp only[push_cast,seval,reduceEqDiff,_h])|intro _)
  all_goals (first|(refine Af ?_;simp[get]<;>(intros;omega);done)|(refine Ag ?_;simp[push_cast,get];done)|skip)
 | cons p a=>
  have X:=AW b;have hw:=CC (ps:=ps) (p:=p) (by rw[b];simp);rw[p.wt_eq] at hw;rw[Hh,<-List.append_assoc] at d;rw[Aq,p.wt_eq] at t;have K:=p.textB_len;rw[p.wt_eq] at K;have aa:=G8 p.parts;have Z:=Cc p.cases;have I:=O p.parts (by omega) (by omega);rw[p.textB_eq] at d;by_cases k1:p.kind=1
  .have G:=WW W0 p.text (by omega);have:=JD p.text;rw[k1] at d;simp only[push_cast,seval,reduceEqDiff,b,Ac p (dn:=dn) (by omega),k1,Int.reduceBEq,Int.reduceBNe]
   repeat' (first|(((first|apply Ad|apply Ai|apply Ah)<;>intro _h)<;>simp only[push_cast,seval,reduceEqDiff,_h,b,Ac p (dn:=dn) (by omega),k1,Int.reduceBEq,Int.reduceBNe])|((first|refine Ae (by exact G) ?_|refine F3 (by simp only[List.length_append,List.length_cons,List.length_nil,AO]<;>omega) ?_);simp only[push_cast,seval,reduceEqDiff,b,Ac p (dn:=dn) (by omega),k1,Int.reduceBEq,Int.reduceBNe])|intro _)
   all_goals exact⟨_,_,Nat.lt_succ_self _,Al.drop1 rfl (Nat.le_refl _),dn++[p],a,_,_,by simp,rfl,by rw[<-d];simp,by rw[<-b];(try simp)<;>omega,rfl⟩
  by_cases k2:p.kind=10
  .rw[k2] at d;simp only[push_cast,seval,reduceEqDiff,b,Ac p (dn:=dn) (by omega),k2,Int.reduceBEq,Int.reduceBNe]
   repeat' (first|(((first|apply Ad|apply Ai|apply Ah)<;>intro _h)<;>simp only[push_cast,seval,reduceEqDiff,_h,b,Ac p (dn:=dn) (by omega),k2,Int.reduceBEq,Int.reduceBNe])|(refine F3 (by simp only[List.length_append,List.length_cons,List.length_nil,AO]<;>omega) ?_;simp only[push_cast,seval,reduceEqDiff,b,Ac p (dn:=dn) (by omega),k2,Int.reduceBEq,Int.reduceBNe])|intro _)
   all_goals exact⟨_,_,Nat.lt_succ_self _,Al.drop1 rfl (Nat.le_refl _),dn++[p],a,_,_,by simp,rfl,by rw[<-d];simp,by rw[<-b];(try simp)<;>omega,rfl⟩
  by_cases k3:p.kind=11
  .rw[k3] at d;rcases hps:p.parts with _|⟨q,qs⟩
   .rw[hps] at d;simp only[push_cast,seval,reduceEqDiff,b,Ac p (dn:=dn) (by omega),k3,Int.reduceBEq,Int.reduceBNe,hps]
    repeat' (first|(((first|apply Ad|apply Ai|apply Ah)<;>intro _h)<;>simp only[push_cast,seval,reduceEqDiff,_h,b,Ac p (dn:=dn) (by omega),k3,Int.reduceBEq,Int.reduceBNe,hps])|(refine F3 (by simp only[List.length_append,List.length_cons,List.length_nil,AO]<;>omega) ?_;simp only[push_cast,seval,reduceEqDiff,b,Ac p (dn:=dn) (by omega),k3,Int.reduceBEq,Int.reduceBNe,hps])|intro _)
    all_goals exact⟨_,_,Nat.lt_succ_self _,Al.drop1 rfl (Nat.le_refl _),dn++[p],a,_,_,by simp,rfl,by rw[<-d];simp,by rw[<-b];(try simp)<;>omega,rfl⟩
   .have E:((p.parts.length:Int)==0)=false:=by rw[hps];simp<;>omega
    have V:p.parts.isEmpty=false:=by rw[hps];rfl
    rw[V] at d;clear hps;simp only[push_cast,seval,reduceEqDiff,b,Ac p (dn:=dn) (by omega),k3,Int.reduceBEq,Int.reduceBNe,E]
    repeat' (first|(((first|apply Ad|apply Ai|apply Ah)<;>intro _h)<;>simp only[push_cast,seval,reduceEqDiff,_h,b,Ac p (dn:=dn) (by omega),k3,Int.reduceBEq,Int.reduceBNe,E])|((first|refine Ae (by exact I) ?_|refine F3 (by simp only[List.length_append,List.length_cons,List.length_nil,AO]<;>omega) ?_);simp only[push_cast,seval,reduceEqDiff,b,Ac p (dn:=dn) (by omega),k3,Int.reduceBEq,Int.reduceBNe,E])|intro _)
    all_goals exact⟨_,_,Nat.lt_succ_self _,Al.drop1 rfl (Nat.le_refl _),dn++[p],a,_,_,by simp,rfl,by rw[<-d];simp,by rw[<-b];(try simp)<;>omega,rfl⟩
  by_cases x:p.kind=2
  .rw[x] at d;simp only[push_cast,seval,reduceEqDiff,b,Ac p (dn:=dn) (by omega),x,Int.reduceBEq,Int.reduceBNe]
   repeat' (first|(((first|apply Ad|apply Ai|apply Ah)<;>intro _h)<;>simp only[push_cast,seval,reduceEqDiff,_h,b,Ac p (dn:=dn) (by omega),x,Int.reduceBEq,Int.reduceBNe])|(refine F3 (by simp only[List.length_append,List.length_cons,List.length_nil,AO]<;>omega) ?_;simp only[push_cast,seval,reduceEqDiff,b,Ac p (dn:=dn) (by omega),x,Int.reduceBEq,Int.reduceBNe])|intro _)
   all_goals exact⟨_,_,Nat.lt_succ_self _,Al.drop1 rfl (Nat.le_refl _),dn++[p],a,_,_,by simp,rfl,by rw[<-d];simp,by rw[<-b];(try simp)<;>omega,rfl⟩
  have q1:(p.kind==1)=false:=by simpa using k1
  have q2:(p.kind==10)=false:=by simpa using k2
  have q3:(p.kind==11)=false:=by simpa using k3
  have k:(p.kind==2)=false:=by simpa using x
  rw[q1,q2,q3,k] at d;by_cases U:p.kind>=3/\p.kind<=9
  .obtain⟨y,C⟩:=lK p.kind U.1 U.2;have y:=eq_true y;have z:decide (p.kind>=3)=true:=by simp;omega
   have A:decide (p.kind<=9)=true:=by simp;omega
   have ac:=H3 p.kind;have u:=SB W0 p.kind;rw[z,A] at d;unfold Ui at C;unfold Ui;simp only[push_cast,seval,reduceEqDiff,b,Ac p (dn:=dn) (by omega),q1,q2,q3,k,z,A,y,C,Int.reduceBEq,Int.reduceBNe]
   repeat' (first|(((first|apply Ad|apply Ai|apply Ah)<;>intro _h)<;>simp only[push_cast,seval,reduceEqDiff,_h,b,Ac p (dn:=dn) (by omega),q1,q2,q3,k,z,A,y,C,Int.reduceBEq,Int.reduceBNe])|((first|refine Ae (by exact u) ?_|refine F3 (by simp only[List.length_append,List.length_cons,List.length_nil,AO]<;>omega) ?_);simp only[push_cast,seval,reduceEqDiff,b,Ac p (dn:=dn) (by omega),q1,q2,q3,k,z,A,y,C,Int.reduceBEq,Int.reduceBNe])|intro _)
   all_goals (try simp only[Bool.not_eq_true',Bool.not_eq_false'] at *)
   all_goals
    refine As p.cases.length (Inv:=λm L=>∃r o n' D f,p.cases=r++o/\m=o.length/\f++D2 o++[125]++Cx a=S/\f.length+20*B9 o+1+20*Aw a<=20*Aw ps/\L=⟨[(0,.sl (List.map Ab.enc (dn++p::a))),(1,.s [32]),(5,.s f),(6,.sl [.s [110,117,109,98,101,114],.s [117,110,105,116],.s [100,97,116,101],.s [108,105,115,116],.s [112,108,117,114,97,108],.s [111,114,100,105,110,97,108],.s [115,101,108,101,99,116]]),(7,.i .i64 dn.length),(8,.ref (D,8) 0),(9,.i .i64 r.length)],[((D,8),.box p.v)],n'⟩) ⟨_,Al.refl,[],p.cases,_,_,_,rfl,rfl,?_,?_,rfl⟩ ?_
    .rw[<-d];simp only[VE,T4,SC,Be,if_true,if_false, *,bq,reduceEqDiff];simp
    .simp<;>omega
    clear d;rintro m _ ⟨r,o,n',D,f,e,rfl,d,g,rfl⟩;unfold Ab.v;cases o with
    | nil=>
     rw[D2,List.append_nil] at d;rw[Gs] at g;simp only[push_cast,seval,reduceEqDiff,e,Ac p (dn:=dn) (by omega)]
     repeat' (first|(refine F3 (by simp only[List.length_append,List.length_cons,List.length_nil,AO]<;>omega) ?_;simp only[push_cast,seval,reduceEqDiff,e,Ac p (dn:=dn) (by omega)])|intro _)
     all_goals exact⟨_,_,Nat.lt_succ_self _,Al.drop1 rfl (Nat.le_refl _),dn++[p],a,_,_,by simp,rfl,by rw[<-d],by rw[<-b];simp<;>omega,rfl⟩
    | cons c o=>
     have Y:=AW e;have ae:=Bj (cs:=p.cases) (c:=c) (by simp[e]);rw[FO] at d;rw[Ay] at g;have ab:=G8 c.2;have F:=O c.2 (by omega) (by omega);simp only[push_cast,seval,reduceEqDiff,b,e,Ac c (dn:=r) (by omega)]
     repeat' (first|(refine F3 (by simp only[List.length_append,List.length_cons,List.length_nil,AO]<;>omega) ?_;simp only[push_cast,seval,reduceEqDiff,b,e,Ac c (dn:=r) (by omega)])|(refine Ae (by exact F) ?_;simp only[push_cast,seval,reduceEqDiff,b,e,Ac c (dn:=r) (by omega)])|intro _)
     all_goals exact⟨_,_,Nat.lt_succ_self _,Al.refl,r++[c],o,_,_,_,by simp[e],rfl,by rw[<-d];simp,by rw[<-b];simp<;>omega,rfl⟩
  .have j:decide (p.kind>=3)=false\/decide (p.kind>=3)=true/\decide (p.kind<=9)=false:=by
    by_cases h:p.kind>=3
    .right;simp;omega
    .left;simpa using h
   rcases j with j|⟨j,B⟩
   .rw[j] at d;simp only[push_cast,seval,reduceEqDiff,b,Ac p (dn:=dn) (by omega),q1,q2,q3,k,j,Int.reduceBEq,Int.reduceBNe]
    repeat' (first|(((first|apply Ad|apply Ai|apply Ah)<;>intro _h)<;>simp only[push_cast,seval,reduceEqDiff,_h,b,Ac p (dn:=dn) (by omega),q1,q2,q3,k,j,Int.reduceBEq,Int.reduceBNe])|(refine F3 (by simp only[List.length_append,List.length_cons,List.length_nil,AO]<;>omega) ?_;simp only[push_cast,seval,reduceEqDiff,b,Ac p (dn:=dn) (by omega),q1,q2,q3,k,j,Int.reduceBEq,Int.reduceBNe])|intro _)
    all_goals exact⟨_,_,Nat.lt_succ_self _,Al.drop1 rfl (Nat.le_refl _),dn++[p],a,_,_,by simp,rfl,by rw[<-d];simp,by rw[<-b];(try simp)<;>omega,rfl⟩
   .rw[j,B] at d;simp only[push_cast,seval,reduceEqDiff,b,Ac p (dn:=dn) (by omega),q1,q2,q3,k,j,B,Int.reduceBEq,Int.reduceBNe]
    repeat' (first|(((first|apply Ad|apply Ai|apply Ah)<;>intro _h)<;>simp only[push_cast,seval,reduceEqDiff,_h,b,Ac p (dn:=dn) (by omega),q1,q2,q3,k,j,B,Int.reduceBEq,Int.reduceBNe])|(refine F3 (by simp only[List.length_append,List.length_cons,List.length_nil,AO]<;>omega) ?_;simp only[push_cast,seval,reduceEqDiff,b,Ac p (dn:=dn) (by omega),q1,q2,q3,k,j,B,Int.reduceBEq,Int.reduceBNe])|intro _)
    all_goals exact⟨_,_,Nat.lt_succ_self _,Al.drop1 rfl (Nat.le_refl _),dn++[p],a,_,_,by simp,rfl,by rw[<-d];simp,by rw[<-b];(try simp)<;>omega,rfl⟩
end Go.Ir
end
namespace Go.Proofs
open Go.Shelf
def Tryz.lays169_ren:Go.Shelf.Ren:=⟨fun|169=>97|n=>n,fun|70=>137|9=>9|0=>0|72=>139|37=>128|127=>168|3=>3|5=>5|n=>n,fun|n=>n⟩
theorem Tryz.lays169:Go.Proofs.Lays.n169 Tryz.prog Tryz.lays169_ren:=by constructor;all_goals intros;kernel_rfl
end Go.Proofs
namespace Go.Ir
open Go.Proofs Go.RowKit
theorem Ge:Go.Proofs.Builder.Extra π Tryz.lays169_ren where
 sizeBuilder:=by kernel_rfl
 liesBuilder:=by kernel_rfl
 t5:=Tryz.underlying5
 a5:=Tryz.isAgg5
 z5:=Tryz.sizeOf5
 v5:=Tryz.zeroValue5
 infoByte:=by kernel_rfl
 cellsByte:=by kernel_rfl
 sizeByte:=by kernel_rfl
 neB5:=by decide
set_option maxHeartbeats 1000000 in
set_option maxRecDepth 100000 in
theorem gG(b:Nat)(w:World)(c:w.cell? ⟨b,0,none⟩=some (.pointer (some ⟨b,0,none⟩))) :
  Calls Tryz.prog 121 #[.pointer (some ⟨b,0,none⟩)] w λe w'=>e=.returned (.tuple #[])/\w'=w:=by
 obtain⟨j,a,_⟩:=Option.map_eq_some_iff.1 Ge.sizeBuilder
 go_enter Tryz.func121,Tryz.ntmps121
 go_wp2
 rw[Lib.run_neq_ptr_same w _ Tryz.underlying137 a]
 go_wp2
 go_end0
 exact⟨rfl,rfl⟩
set_option maxHeartbeats 1000000 in
set_option maxRecDepth 100000 in
theorem Wq(b:Nat)(w:World)(g:w.cell? ⟨b,0,none⟩=some (.pointer none))(a:w.shape? b=some (139,2))(f:w.frozen? ⟨b,0,none⟩=false) :
  Calls Tryz.prog 121 #[.pointer (some ⟨b,0,none⟩)] w λe w'=>e=.returned (.tuple #[])/\w'=w.setCell ⟨b,0,none⟩ (.pointer (some ⟨b,0,none⟩)):=by
 obtain⟨j,d,c⟩:=Option.map_eq_some_iff.1 Ge.sizeBuilder
 go_enter Tryz.func121,Tryz.ntmps121
 go_wp2
 rw[Lib.run_to_unsafe w ⟨b,0,none⟩ Tryz.underlying137 Tryz.underlying194 d (by rw[c];decide) a (Nat.zero_lt_succ 1)];simp only[Result.andThen];rw[Oper.upon_value]
 go_wp2
 rw[run_callFunc_extern Tryz.func142 (by kernel_rfl) (by kernel_rfl) (by kernel_rfl) (e:=Extern.AbiNoEscape.same) (by kernel_rfl),Lib.run_noEscape];simp only[Result.andThen];rw[Oper.upon_value]
 go_wp2
 rw[Lib.run_from_unsafe w ⟨b,0,none⟩ Tryz.underlying194 Tryz.underlying137 d a Ge.liesBuilder];simp only[Result.andThen];rw[Oper.upon_value]
 go_wp2
 go_end0
 exact⟨rfl,rfl⟩
theorem W5(B b:Nat)(d:List Value)(w:World)(h:Lib.IsBuilder 139 5 B b d w) :
  Calls Tryz.prog 121 #[.pointer (some ⟨b,0,none⟩)] w λe w'=>e=.returned (.tuple #[])/\(Lib.BuilderAt 139 5 B b (.pointer (some ⟨b,0,none⟩)) d w'/\Below B w w'):=by
 rcases h with h|h
 .refine(Wq b w h.cell0 h.shape h.frozen0).mono λe w' ⟨a,c⟩=>?_;subst c;exact⟨a,h.used _,(Below.refl B w).setCell (p:=⟨b,0,none⟩) h.1 _⟩
 .refine(gG b w h.cell0).mono λe w' ⟨a,c⟩=>?_;subst c;exact⟨a,h,Below.refl _ _⟩
set_option maxHeartbeats 2000000 in
set_option maxRecDepth 100000 in
theorem Ml(B b:Nat)(q:List Value)(c:Int)(w:World)(h:Lib.IsBuilder 139 5 B b q w)(E:q.length+1<=140737488355328)(G:B<=w.heap.size) :
  Calls Tryz.prog 96 #[.pointer (some ⟨b,0,none⟩),.int .u8 c] w λe w'=>e=.returned .nilIface/\(Lib.BuilderAt 139 5 B b (.pointer (some ⟨b,0,none⟩)) (q++[.int .u8 c]) w'/\Below B w w'):=by
 obtain⟨i0,I,A,C,D⟩:=info_parts Ge.infoByte;have x:∀args w,(callFunc 121 args).run Tryz.prog w=.ok (.enter 121 args) w:=enters_of Tryz.func121 (by kernel_rfl) rfl
 go_enter Tryz.func96,Tryz.ntmps96
 go_wp2_with (go_at_fn 121;refine(W5 B b q _ h).mono ?_)
 rintro e r ⟨rfl,⟨hB,v,m,o,z⟩,i⟩;have L:r.cell? ⟨b,0,none⟩=some (.pointer (some ⟨b,0,none⟩)):=by rw[Lib.cell_of_heap m];rfl
 have c1:r.cell? ⟨b,1,none⟩=some v:=by rw[Lib.cell_of_heap m];rfl
 go_wp2_with (at_builtin;refine wpList_append_own _ rfl _ _ 128 rfl B 5 i0 (.int .u8 0) 1 1 Tryz.underlying128 I A C D rfl (by decide) _ _ _ rfl (o.alloc _) ⟨r.heap.size,0,none⟩ 1 1 [.int .u8 c] rfl rfl ?c1 ?c2 ?c3 ?c4 ?c5 ?_)
 case c1=>
  intro j u s
  match j,s with
  | 0,s=>simp at s;subst s;simp[Addr.add]
 case c2=>intro u F;simp at F;subst F;rfl
 case c3=>unfold maxLen;omega
 case c4=>omega
 case c5=>have:=i.size;simp;omega
 intro K t d a _;have y:b<r.heap.size:=(Array.getElem?_eq_some_iff.1 m).1;have l:t.heap[b]?=some (.cells #[.pointer (some ⟨b,0,none⟩),v] 139 (0,0)):=by rw[a.block b (by simp;omega) (λe=>z e.symm),Lib.alloc_old r _ b y];exact m
 have M:t.cell? ⟨b,0,none⟩=some (.pointer (some ⟨b,0,none⟩)):=by rw[Lib.cell_of_heap l];rfl
 have N:t.cell? ⟨b,1,none⟩=some v:=by rw[Lib.cell_of_heap l];rfl
 have O:t.frozen? ⟨b,1,none⟩=false:=Lib.frozen_of_heap l 1;obtain⟨g,f,rfl⟩:∃g f,K=.slice (some ⟨g,0,none⟩) (q.length+1) f:=by
  rcases d.2 with⟨_,h0⟩|⟨g,f,cur,hv,_⟩
  .omega
  .exact⟨g,f,hv⟩
 go_wp2
 go_ret
 exact⟨rfl,Lib.BuilderAt.put (T:=139) (e:=5) hB l (bs':=q++[.int .u8 c]) (by simpa using d) (by decide),((i.alloc (by have:=i.size;omega) _).grown a (by have:=i.size;simp;omega) (λk J=>(o.lt k J).1)).setCell (p:=⟨b,1,none⟩) hB _⟩
theorem Tm(B b:Nat)(l:List UInt8)(w:World)(h:Lib.IsBuilder 139 5 B b (Lib.byteCells l) w)(a:B<=w.heap.size) :
  Calls Tryz.prog 97 #[.pointer (some ⟨b,0,none⟩)] w λe w'=>e=.returned (.string ⟨l.toArray⟩)/\Below B w w':=
 Any.Builder_String_any Tryz.lays169 Ge B b l w h a
theorem Nj(c:UInt8)(w:World):Calls Tryz.prog 95 #[.int .u8 c.toNat] w λe w'=>e=.returned (.bool (Gy c.toNat))/\w'=w:=by
 go_enter Tryz.func95,Tryz.ntmps95
 go_wp2
 all_goals (go_ret;exact⟨by simp[Gy, *],rfl⟩)
set_option maxHeartbeats 4000000 in
set_option maxRecDepth 1000000 in
theorem Zb(s:Aa)(F:s.length<=2^26)(w:World):Calls Tryz.prog 76 #[.string ⟨s.toArray⟩] w λe w'=>e=.returned (.string ⟨(E9 s).toArray⟩)/\Below w.heap.size w w':=by
 go_enter Tryz.func76,Tryz.ntmps76
 go_wp2
 go_loopw [7] (λi wr=>∃(dn a b:Aa),dn++a=s/\i=.int .i64 dn.length/\Lib.IsBuilder 139 5 w.heap.size w.heap.size (Lib.byteCells b) wr/\Below w.heap.size w wr/\b++E9 a=E9 s/\b.length<=2*dn.length) (λi _=>s.length-(RowKit.intOf i).toNat)
 case atStart=>refine⟨[],s,[],rfl,rfl,Lib.fresh_isBuilder _ _ _,(Below.refl _ w).alloc (Nat.le_refl _) _,rfl,by simp⟩
 case round=>
  obtain⟨dn,a,b,p,y,hI,d,f,x⟩:=hrel;subst y;have j:s.length=dn.length+a.length:=by rw[<-p];simp
  cases a with
  | nil=>
   have g:decide (dn.length<s.length)=false:=by simp at j⊢;omega
   have l:¬dn.length<s.length:=by simpa using g
   clear j
   go_wp2_with (go_at_call 97;refine(Tm w.heap.size w.heap.size b _ hI d.size).mono ?_)
   rintro e A ⟨rfl,t⟩
   go_wp2
   go_ret
   rw[E9,List.append_nil] at f;rw[<-f];exact⟨rfl,d.trans t⟩
  | cons c a=>
   have C:∀args w,(callFunc 95 args).run Tryz.prog w=.ok (.enter 95 args) w:=enters_of Tryz.func95 (by kernel_rfl) rfl;have D:∀args w,(callFunc 96 args).run Tryz.prog w=.ok (.enter 96 args) w:=enters_of Tryz.func96 (by kernel_rfl) rfl;have g:decide (dn.length<s.length)=true:=by simp at j⊢;omega
   have l:dn.length<s.length:=by simpa using g
   have r:b.length+2<=2^28/\dn.length<2^26:=by simp at j;omega
   obtain⟨r,z⟩:=r;clear j;have m:RowKit.wrap64 ((dn.length:Int)+1)=(dn.length:Int)+1:=by unfold RowKit.wrap64;omega
   have E:∀h,(⟨s.toArray⟩:ByteArray)[dn.length]'h=c:=by subst p;intro h;show(dn++c::a).toArray[dn.length]=c;simp
   go_wp2_with (go_at_call 95;refine(Nj _ _).mono ?_)
   rintro e A ⟨rfl,rfl⟩;by_cases k:Gy c.toNat=true
   .rw[k]
    go_wp2_with (go_at_call 96;refine(Ml w.heap.size w.heap.size _ 92 _ hI (by rw[Lib.byteCells_length];omega) d.size).mono ?_)
    rintro e B ⟨rfl,q,o⟩
    go_wp2_with (go_at_call 96;refine(Ml w.heap.size w.heap.size _ _ _ (.inr q) (by simp[Lib.byteCells_length];omega) (by have:=d.size;have:=o.size;omega)).mono ?_)
    rintro e G ⟨rfl,v,u⟩
    go_wp2
    go_roundw
    case rel=>
     refine⟨dn++[c],a,b++[92,c],by rw[<-p];simp,?_,?_,?_,?_,?_⟩
     .simp
     .right;simpa[Lib.byteCells] using v
     .exact(d.trans o).trans u
     .rw[<-f,E9,k];simp
     .simp;omega
    case measure=>simp at g;simp[RowKit.intOf,m];omega
   .have k:Gy c.toNat=false:=by simpa using k
    rw[k]
    go_wp2_with (go_at_call 96;refine(Ml w.heap.size w.heap.size _ _ _ hI (by rw[Lib.byteCells_length];omega) d.size).mono ?_)
    rintro e B ⟨rfl,q,o⟩
    go_wp2
    go_roundw
    case rel=>
     refine⟨dn++[c],a,b++[c],by rw[<-p];simp,?_,?_,?_,?_,?_⟩
     .simp
     .right;simpa[Lib.byteCells] using q
     .exact d.trans o
     .rw[<-f,E9,k];simp
     .simp;omega
    case measure=>simp at g;simp[RowKit.intOf,m];omega
theorem VT(s:Aa):(E9 s).length<=2*s.length:=by
 induction s with
 | nil=>simp[E9]
 | cons c s a=>rw[E9];split<;>simp<;>omega
theorem Xp(W0:World)(s:Aa)(b:s.length<=2^26):An Tryz.prog W0 76 [.s s] [] (.s (E9 s)) []:=by refine BJ (by kernel_rfl) λw vals f ⟨μ,H,c⟩=>?_;obtain⟨rfl,_⟩:=c.one_s;refine(Zb s b w).mono λe w' ⟨a,d⟩=>?_;refine⟨_,a,λ_ _=>.s _ ?_,d⟩;have:=VT s;unfold AO;omega
end Go.Ir
section
namespace Go.Ir
open Go.Proofs
variable(W0:World)
def Fa:List (V×V):=[(.s [110,117,109,98,101,114],.i .i64 3),(.s [117,110,105,116],.i .i64 4),(.s [100,97,116,101],.i .i64 5),(.s [108,105,115,116],.i .i64 6),(.s [112,108,117,114,97,108],.i .i64 7),(.s [111,114,100,105,110,97,108],.i .i64 8),(.s [115,101,108,101,99,116],.i .i64 9)]
theorem Aev:H9 π W0 77 [] [] (.map Fa) []:=by refine UV (s:=0) AmX (by simp) (by simp) λn0 a=>?_;clear a;unfold Fa;have i:Bz .str (.s [110,117,109,98,101,114]) [] 0=some none:=rfl;have b:Bz .str (.s [117,110,105,116]) (Fa.take 1) 0=some none:=rfl;have c:Bz .str (.s [100,97,116,101]) (Fa.take 2) 0=some none:=rfl;have d:Bz .str (.s [108,105,115,116]) (Fa.take 3) 0=some none:=rfl;have e:Bz .str (.s [112,108,117,114,97,108]) (Fa.take 4) 0=some none:=rfl;have f:Bz .str (.s [111,114,100,105,110,97,108]) (Fa.take 5) 0=some none:=rfl;have g:Bz .str (.s [115,101,108,101,99,116]) (Fa.take 6) 0=some none:=rfl;simp only[Fa,List.take_succ_cons,List.take_zero] at b c d e f g;simp only[push_cast,seval,reduceEqDiff,i,b,c,d,e,f,g];intros;exact⟨_,Al.refl,_,rfl,by simp[lk],rfl,λ_ _ h=>by simp[lk] at h⟩
def Nm(k:Int):Nat:=if decide (k>=3)&&decide (k<=9) then 2+(Rb k).length else 0
mutual
def Ab.lenB:Ab->Nat
 | ⟨k,t,a,b,cs,ps⟩=>
  if k==1 then(E9 t).length
  else if k==10 then 1
  else if k==11 then(3+a.length)+(if ps.isEmpty then 0 else(2+a.length)+Cn ps)
  else(2+a.length)+Nm k+(if b==[] then 0 else 2+b.length)+(if AJ k then 1 else 0)+DB cs
def Cn:List Ab->Nat
 | []=>0
 | p::ps=>p.lenB+Cn ps
def DB:List (Aa×List Ab)->Nat
 | []=>0
 | (key,ps)::cs=>((4+key.length)+Cn ps)+DB cs
end
theorem Ab.lenB_eq(p:Ab):p.lenB=(if p.kind==1 then(E9 p.text).length
  else if p.kind==10 then 1
  else if p.kind==11 then(3+p.name.length)+(if p.parts.isEmpty then 0 else(2+p.name.length)+Cn p.parts)
  else(2+p.name.length)+Nm p.kind+(if p.style==[] then 0 else 2+p.style.length)+(if AJ p.kind then 1 else 0)+DB p.cases):=by cases p;simp only[Ab.lenB]
theorem Ex(p:Ab)(ps:List Ab):Cn (p::ps)=p.lenB+Cn ps:=by simp only[Cn]
theorem DH(c:Ar)(cs:List Ar):DB (c::cs)=((4+c.1.length)+Cn c.2)+DB cs:=by obtain⟨k,q⟩:=c;simp only[DB]
theorem UR(k:Int):Nm k<=9:=by unfold Nm;have:=H3 k;split<;>omega
theorem Ab.lenB_le1(p:Ab)(b:Cn p.parts<=20*Aw p.parts)(c:DB p.cases<=20*B9 p.cases):p.lenB<=20*p.wt:=by rw[p.wt_eq,p.lenB_eq];have a:=JD p.text;have a2:=UR p.kind;grind
theorem VM:∀(N:Nat) (ps:List Ab),Aw ps<N->Cn ps<=20*Aw ps:=by
 intro N
 induction N with
 | zero=>intro ps h;omega
 | succ N d=>
  have b:∀cs:List Ar,B9 cs<N->DB cs<=20*B9 cs:=by
   intro cs
   induction cs with
   | nil=>intro _;simp[DB]
   | cons c cs a=>intro h;rw[Ay] at h;rw[DH,Ay];grind
  intro ps
  induction ps with
  | nil=>intro _;simp[Cn]
  | cons p ps a=>intro h;rw[Aq] at h;rw[Ex,Aq];have e:=a (by omega);have f:=p.wt_eq;have:=p.lenB_le1 (d p.parts (by omega)) (b p.cases (by omega));omega
theorem J5(ps:List Ab):Cn ps<=20*Aw ps:=VM _ ps (Nat.lt_succ_self _)
theorem aE(cs:List Ar):DB cs<=20*B9 cs:=by
 induction cs with
 | nil=>simp[DB]
 | cons c cs a=>rw[DH,Ay];have:=J5 c.2;omega
theorem Ab.lenB_le(p:Ab):p.lenB<=20*p.wt:=p.lenB_le1 (J5 _) (aE _)
theorem Rp:Fa.length=7:=rfl
theorem lU{i:Nat}{a:V×V}(h:Fa[i]?=some a):i<7/\a=(.s (Rb (i+3:Nat)),.i .i64 (i+3:Nat)):=by
 have b:i<7:=by have:=(List.getElem?_eq_some_iff.1 h).1;rw[Rp] at this;exact this
 refine⟨b,?_⟩;have:i=0\/i=1\/i=2\/i=3\/i=4\/i=5\/i=6:=by omega
 rcases this with rfl|rfl|rfl|rfl|rfl|rfl|rfl<;>(simp only[Fa,List.getElem?_cons_zero,List.getElem?_cons_succ,Option.some.injEq] at h;rw[<-h];rfl)
def Gj(k:Int)(seen:List Nat):Nat:=if decide (k>=3)&&seen.contains (k-3).toNat then 2+(Rb k).length else 0
theorem WI(k:Int):Gj k []=0:=by simp[Gj]
theorem Xj{k:Int}{seen:List Nat}{i:Nat}(h:((i+3:Nat):Int)=k)(b:i∉seen):Gj k seen=0/\Gj k (seen++[i])=2+(Rb (i+3:Nat)).length:=by
 subst h;have:(((i+3:Nat):Int)-3).toNat=i:=by omega
 have a:((i+3:Nat):Int)>=3:=by omega
 unfold Gj;grind
theorem Tq{k:Int}{seen:List Nat}{i:Nat}(h:((i+3:Nat):Int)≠k):Gj k (seen++[i])=Gj k seen:=by unfold Gj;grind
theorem WX{k:Int}{seen:List Nat}(a:∀i,i<7->i∈seen)(b:∀i∈seen,i<7):Gj k seen=Nm k:=by unfold Gj Nm;grind
def QV(seen:List Nat):Nat:=(if 0∈seen then 0 else 1)+(if 1∈seen then 0 else 1)+(if 2∈seen then 0 else 1)+(if 3∈seen then 0 else 1)+(if 4∈seen then 0 else 1)+(if 5∈seen then 0 else 1)+(if 6∈seen then 0 else 1)
theorem dR{seen:List Nat}{i:Nat}(b:i<7)(a:i∉seen):QV (seen++[i])<QV seen:=by
 have:i=0\/i=1\/i=2\/i=3\/i=4\/i=5\/i=6:=by omega
 unfold QV;rcases this with rfl|rfl|rfl|rfl|rfl|rfl|rfl<;>simp[a]
end Go.Ir
end
namespace Go.Ir
open Go.Proofs
variable(W0:World)
set_option maxHeartbeats 4000000 in
theorem Ra:∀(N:Nat) (ps:List Ab),Aw ps<N->Aw ps<=2^24->
  An π W0 55 [.sl (ps.map Ab.enc)] [] (.i .i64 (Cn ps)) []:=by
 intro N
 induction N with
 | zero=>intro ps h;omega
 | succ N ih=>
 intro ps hN hb;have af:=C7 ps;generalize hS:Cn ps=S;refine Ak (vs:=[.i .i64 S]) AlZ (by simp) (by simp) λn0 ab=>?_;clear ab;simp only[push_cast,seval,reduceEqDiff];intros;refine As ps.length (Inv:=λm M=>∃dn a n e x,x=((e:Nat):Int)/\ps=dn++a/\m=a.length/\e+Cn a=S/\e+20*Aw a<=20*Aw ps/\M=⟨[(3,.i .i64 x),(10,.sl (ps.map Ab.enc)),(11,.i .i64 ps.length),(12,.i .i64 dn.length)],[],n⟩) ⟨_,Al.refl,[],ps,_,0,0,rfl,rfl,rfl,by omega,by omega,rfl⟩ ?_;clear hS;rintro m _ ⟨dn,a,n,e,_,rfl,b,rfl,d,F,rfl⟩;cases a with
 | nil=>
  rw[Cn,Nat.add_zero] at d;subst d;simp only[push_cast,seval,reduceEqDiff,b]
  repeat' (first|(((first|apply Ad|apply Ai|apply Ah)<;>intro _h)<;>simp only[push_cast,seval,reduceEqDiff,_h])|intro _)
  all_goals (first|(refine Af ?_;simp[get]<;>(intros;omega);done)|(refine Ag ?_;simp[push_cast,get];done)|skip)
 | cons p a=>
  have aj:=AW b;have hw:=CC (ps:=ps) (p:=p) (by rw[b];simp);rw[p.wt_eq] at hw;rw[Ex,<-Nat.add_assoc] at d;rw[Aq,p.wt_eq] at F;have ac:=p.lenB_le;rw[p.wt_eq] at ac;have ao:=J5 p.parts;have an:=Cc p.cases;have aa:=ih p.parts (by omega) (by omega);have K:=D5 W0 p.kind;rw[p.lenB_eq] at d;by_cases k1:p.kind=1
  .have X:=Xp W0 p.text (by omega);have:=JD p.text;rw[k1] at d;simp only[push_cast,seval,reduceEqDiff,b,Ac p (dn:=dn) (by omega),k1,Int.reduceBEq,Int.reduceBNe]
   repeat' (first|(((first|apply Ad|apply Ai|apply Ah)<;>intro _h)<;>simp only[push_cast,seval,reduceEqDiff,_h,b,Ac p (dn:=dn) (by omega),k1,Int.reduceBEq,Int.reduceBNe])|((first|refine Ae (by exact X) ?_|refine F3 (by simp only[List.length_append,List.length_cons,List.length_nil,AO]<;>omega) ?_);simp only[push_cast,seval,reduceEqDiff,b,Ac p (dn:=dn) (by omega),k1,Int.reduceBEq,Int.reduceBNe])|intro _)
   refine⟨_,_,Nat.lt_succ_self _,Al.drop1 rfl (Nat.le_refl _),dn++[p],a,_,e+(E9 p.text).length,_,by(try simp(disch:=omega) only [wrap64]);omega,by simp,rfl,by rw[<-d];simp,by rw[<-b];omega,rfl⟩
  by_cases k2:p.kind=10
  .rw[k2] at d;simp only[push_cast,seval,reduceEqDiff,b,Ac p (dn:=dn) (by omega),k2,Int.reduceBEq,Int.reduceBNe]
   repeat' (first|(((first|apply Ad|apply Ai|apply Ah)<;>intro _h)<;>simp only[push_cast,seval,reduceEqDiff,_h,b,Ac p (dn:=dn) (by omega),k2,Int.reduceBEq,Int.reduceBNe])|(refine F3 (by simp only[List.length_append,List.length_cons,List.length_nil,AO]<;>omega) ?_;simp only[push_cast,seval,reduceEqDiff,b,Ac p (dn:=dn) (by omega),k2,Int.reduceBEq,Int.reduceBNe])|intro _)
   refine⟨_,_,Nat.lt_succ_self _,Al.drop1 rfl (Nat.le_refl _),dn++[p],a,_,e+1,_,by(try simp(disch:=omega) only [wrap64]);omega,by simp,rfl,by rw[<-d];simp,by rw[<-b];omega,rfl⟩
  by_cases k3:p.kind=11
  .rw[k3] at d;rcases hps:p.parts with _|⟨q,qs⟩
   .rw[hps] at d;simp only[push_cast,seval,reduceEqDiff,b,Ac p (dn:=dn) (by omega),k3,Int.reduceBEq,Int.reduceBNe,hps]
    repeat' (first|(((first|apply Ad|apply Ai|apply Ah)<;>intro _h)<;>simp only[push_cast,seval,reduceEqDiff,_h,b,Ac p (dn:=dn) (by omega),k3,Int.reduceBEq,Int.reduceBNe,hps])|(refine F3 (by simp only[List.length_append,List.length_cons,List.length_nil,AO]<;>omega) ?_;simp only[push_cast,seval,reduceEqDiff,b,Ac p (dn:=dn) (by omega),k3,Int.reduceBEq,Int.reduceBNe,hps])|intro _)
    refine⟨_,_,Nat.lt_succ_self _,Al.drop1 rfl (Nat.le_refl _),dn++[p],a,_,e+(3+p.name.length),_,by(try simp(disch:=omega) only [wrap64]);omega,by simp,rfl,by rw[<-d];simp,by rw[<-b];omega,rfl⟩
   .have U:decide ((p.parts.length:Int)>0)=true:=by rw[hps];simp<;>omega
    have e2:p.parts.isEmpty=false:=by rw[hps];rfl
    rw[e2] at d;clear hps;simp only[push_cast,seval,reduceEqDiff,b,Ac p (dn:=dn) (by omega),k3,Int.reduceBEq,Int.reduceBNe,U]
    repeat' (first|(((first|apply Ad|apply Ai|apply Ah)<;>intro _h)<;>simp only[push_cast,seval,reduceEqDiff,_h,b,Ac p (dn:=dn) (by omega),k3,Int.reduceBEq,Int.reduceBNe,U])|((first|refine Ae (by exact aa) ?_|refine F3 (by simp only[List.length_append,List.length_cons,List.length_nil,AO]<;>omega) ?_);simp only[push_cast,seval,reduceEqDiff,b,Ac p (dn:=dn) (by omega),k3,Int.reduceBEq,Int.reduceBNe,U])|intro _)
    refine⟨_,_,Nat.lt_succ_self _,Al.drop1 rfl (Nat.le_refl _),dn++[p],a,_,e+(3+p.name.length)+((2+p.name.length)+Cn p.parts),_,by(try simp(disch:=omega) only [wrap64]);omega,by simp,rfl,by rw[<-d];simp<;>omega,by rw[<-b];omega,rfl⟩
  have q1:(p.kind==1)=false:=by simpa using k1
  have q2:(p.kind==10)=false:=by simpa using k2
  have q3:(p.kind==11)=false:=by simpa using k3
  rw[q1,q2,q3] at d;simp only[bq,if_true,if_false,Int.reduceBEq,reduceCtorEq] at d;simp only[push_cast,seval,reduceEqDiff,b,Ac p (dn:=dn) (by omega),q1,q2,q3,Int.reduceBEq,Int.reduceBNe];intros;refine oD (Aev W0) (λ_ _ h=>by simp[lk] at h) ?_;rw[IY];simp only[push_cast,seval,reduceEqDiff];intro kk;have ar:=H3 p.kind;refine As (QV []) (Inv:=λm M=>∃seen n' x A O,x=((e+(2+p.name.length)+Gj p.kind seen:Nat):Int)/\m=QV seen/\(∀i∈seen,i<7)/\M=⟨[(3,.i .i64 x),(5,.ref (O,5) 0),(10,.sl (List.map Ab.enc (dn++p::a))),(11,.i .i64 (dn++p::a).length),(12,.i .i64 dn.length),(25,.arr (A,25))],[((A,25),.mit (A,24) Fa.length seen Fa.length),((A,24),.map Fa),((O,5),.box p.v)],n'⟩) ⟨_,Al.refl,[],_,_,_,_,by(simp(disch:=omega) only [wrap64,WI];omega),rfl,by simp,rfl⟩ ?_;rintro m _ ⟨seen,n',x,A,O,L,rfl,C,rfl⟩;unfold Ab.v;simp only[push_cast,seval,reduceEqDiff,b,Ac p (dn:=dn) (by omega),q1,q2,q3,Int.reduceBEq,Int.reduceBNe];refine lC (id:=(A,25)) (mid:=(A,24)) (es:=Fa) (seen:=seen) rfl (by simp[lk]) (by simp[lk]) (by simp) (by simp) (λi kv Y J=>?_) (λo=>?_)
  .obtain⟨Z,rfl⟩:=lU Y;have r:(seen++[i]).getLast?=some i:=by simp
   have ag:=H3 (i+3:Nat);have I:=dR Z J;have z:∀j∈seen++[i],j<7:=by
    intro j hj;rcases List.mem_append.1 hj with h|h
    .exact C j h
    .simp at h;omega
   have G:=λh=>Xj (k:=p.kind) (seen:=seen) (i:=i) h J;have B:=λh=>Tq (k:=p.kind) (seen:=seen) (i:=i) h;generalize am:((i+3:Nat):Int)=ki at *;have ap:Gj p.kind seen<=9:=by unfold Gj;split<;>omega
   simp only[push_cast,seval,reduceEqDiff,r,Y]
   repeat' (first|(((first|apply Ad|apply Ai|apply Ah)<;>intro _h)<;>simp only[push_cast,seval,reduceEqDiff,_h,r,Y])|intro _)
   .obtain⟨u1,u2⟩:=G (by simpa using _h);refine⟨_,_,I,Al.refl,seen++[i],_,_,_,_,?_,rfl,z,rfl⟩;rw[u2];rw[u1] at L;simp(disch:=omega) only [wrap64];rw[L];simp only[Int.natCast_add];omega
   .have u2:=B (by simpa using _h);refine⟨_,_,I,Al.envD (λt=>?_) (Nat.le_refl _),seen++[i],_,x,A,O,?_,rfl,z,rfl⟩
    .by_cases h6:6=t
     .right;subst h6;rfl
     .by_cases E:34=t
      .right;subst E;rfl
      .left;simp[get,h6,E]
    .rw[u2,L];simp only[Int.natCast_add];omega
  .rw[Rp] at o;rw[WX o C] at L;have au:=UR p.kind;clear o C;obtain⟨sS,u⟩:∃n,n=(if(p.style==[])=true then 0 else 2+p.style.length):=⟨_,rfl⟩
   obtain⟨sC,s⟩:∃n,n=(if AJ p.kind=true then 1 else 0):=⟨_,rfl⟩;rw[<-u,<-s] at d;simp only[push_cast,seval,reduceEqDiff,b,Ac p (dn:=dn) (by omega),q1,q2,q3,Int.reduceBEq,Int.reduceBNe]
   repeat' (first|(((first|apply Ad|apply Ai|apply Ah)<;>intro _h)<;>simp only[push_cast,seval,reduceEqDiff,_h,b,Ac p (dn:=dn) (by omega),q1,q2,q3,Int.reduceBEq,Int.reduceBNe])|(refine Ae (by exact K) ?_;simp only[push_cast,seval,reduceEqDiff,b,Ac p (dn:=dn) (by omega),q1,q2,q3,Int.reduceBEq,Int.reduceBNe])|intro _)
   all_goals (try simp only[Bool.not_eq_true',Bool.not_eq_false'] at *)
   all_goals (first|rw[if_pos (by assumption)] at u|rw[if_neg (by simp only[*,Bool.false_eq_true,not_false_eq_true])] at u)
   all_goals (first|rw[if_pos (by assumption)] at s|rw[if_neg (by simp only[*,Bool.false_eq_true,not_false_eq_true])] at s)
   all_goals
    refine As p.cases.length (Inv:=λm M=>∃D y n' f x,x=((f:Nat):Int)/\p.cases=D++y/\m=y.length/\f+DB y+Cn a=S/\f+20*B9 y+20*Aw a<=20*Aw ps/\M=⟨[(3,.i .i64 x),(10,.sl (List.map Ab.enc (dn++p::a))),(11,.i .i64 (dn++p::a).length),(12,.i .i64 dn.length),(55,.sl (p.cases.map Ar.enc)),(56,.i .i64 p.cases.length),(57,.i .i64 D.length)],[],n'⟩) ⟨_,Al.drop (λ_ _ h=>by cases h) (Nat.le_refl _),[],p.cases,_,e+(2+p.name.length)+Nm p.kind+sS+sC,_,by((try simp(disch:=omega) only [wrap64]);omega),rfl,rfl,by rw[<-d];omega,by omega,rfl⟩ ?_;clear d u s L;rintro m _ ⟨D,y,n',f,x,rfl,g,rfl,d,l,rfl⟩;cases y with
    | nil=>rw[DB,Nat.add_zero] at d;rw[Gs] at l;simp only[push_cast,seval,reduceEqDiff,g,Ac p (dn:=dn) (by omega)];intros;exact⟨_,_,Nat.lt_succ_self _,Al.refl,dn++[p],a,_,f,_,rfl,by simp,rfl,d,by rw[<-b];omega,rfl⟩
    | cons c y=>
     have ak:=AW g;have aw:=Bj (cs:=p.cases) (c:=c) (by simp[g]);rw[DH] at d;rw[Ay] at l;have aq:=J5 c.2;have V:=ih c.2 (by omega) (by omega);simp only[push_cast,seval,reduceEqDiff,g,Ac c (dn:=D) (by omega)]
     repeat' (first|(refine Ae (by exact V) ?_;simp only[push_cast,seval,reduceEqDiff,g,Ac c (dn:=D) (by omega)])|intro _)
     refine⟨_,_,Nat.lt_succ_self _,Al.drop1 rfl (Nat.le_refl _),D++[c],y,_,f+((4+c.1.length)+Cn c.2),_,by(simp(disch:=omega) only [wrap64];omega),by simp[g],rfl,by rw[<-d];omega,by omega,rfl⟩
def Eg(ps:List Ab):Bool:=(BO ps 0 false false []).1&&decide (((BO ps 0 false false []).2.length:Int)<=20)&&decide ((Cn ps:Int)<=4000)
theorem rT(ps:List Ab)(d:Aw ps<=2^24):An π W0 32 [.sl (ps.map Ab.enc),.b false] [] (.b (Eg ps)) []:=by
 have a:=λid=>Akk W0 _ ps 0 false [] id (Nat.lt_succ_self _) d (by omega) (by omega);have e:=Ra W0 _ ps (Nat.lt_succ_self _) d;generalize hS:Eg ps=S;unfold Eg at hS;generalize BO ps 0 false false []=R at *;obtain⟨f,rl⟩:=R;have a:∀id,An π W0 54 [.agg [.arr id],.sl (ps.map Ab.enc),.i .i64 0,.b false] [(id,.map [])] (.b f) [(id,.map (Db rl))]:=a;simp only at hS;refine Ak (vs:=[.b S]) AkA (by simp) (by simp) λn0 c=>?_;clear c;simp only[push_cast,seval,reduceEqDiff];intros;refine N2 (a _) ?_ ?_
 .simp
 simp only[push_cast,seval,reduceEqDiff,Qk]
 repeat' (first|(((first|apply Ad|apply Ai|apply Ah)<;>intro _h)<;>simp only[push_cast,seval,reduceEqDiff,_h])|(refine Ae (by exact e) ?_;simp only[push_cast,seval,reduceEqDiff])|intro _)
 all_goals (try simp only[Qk] at *)
 all_goals subst hS
 all_goals (first|(refine Af ?_;simp[get, *]<;>(intros;omega);done)|(refine Ag ?_;simp[push_cast,get, *];done)|skip)
theorem tJ(ps:List Ab)(c:Aw ps<=2^24):An π W0 14 [.sl (ps.map Ab.enc)] [] (.b (Eg ps)) []:=by
 refine Ak (vs:=[.b (Eg ps)]) AiP (by simp) (by simp) λn0 a=>?_;clear a;simp only[push_cast,seval,reduceEqDiff]
 repeat' (first|(((first|apply Ad|apply Ai|apply Ah)<;>intro _h)<;>simp only[push_cast,seval,reduceEqDiff,_h])|(refine Ae (by exact rT W0 ps c) ?_;simp only[push_cast,seval,reduceEqDiff])|intro _)
 all_goals (first|(refine Af ?_;simp[get]<;>(intros;omega);done)|(refine Ag ?_;simp[push_cast,get];done)|skip)


end Go.Ir
namespace Go.Proofs
open Go.Shelf
def Tryz.laysM171_ren:Go.Shelf.Ren:=⟨fun|171=>34|243=>59|246=>80|283=>98|284=>99|285=>100|286=>101|129=>123|317=>122|318=>124|319=>125|320=>126|337=>143|338=>144|n=>n,fun|3=>3|9=>9|2=>2|4=>4|171=>144|0=>0|53=>145|37=>128|5=>5|173=>148|212=>171|51=>172|20=>20|213=>173|46=>174|232=>211|233=>212|n=>n,fun|17=>0|18=>1|19=>2|n=>n⟩
theorem Tryz.laysM171:Go.Proofs.LaysM.n171 Tryz.prog Tryz.laysM171_ren:={
 mixed:=by kernel_rfl
 f129:=Tryz.func123.trans (congrArg some (by kernel_rfl))
 f171:=Tryz.func34.trans (congrArg some (by kernel_rfl))
 f243:=Tryz.func59.trans (congrArg some (by kernel_rfl))
 f246:=Tryz.func80.trans (congrArg some (by kernel_rfl))
 f283:=Tryz.func98.trans (congrArg some (by kernel_rfl))
 f284:=Tryz.func99.trans (congrArg some (by kernel_rfl))
 f285:=Tryz.func100.trans (congrArg some (by kernel_rfl))
 f286:=Tryz.func101.trans (congrArg some (by kernel_rfl))
 f317:=Tryz.func122.trans (congrArg some (by kernel_rfl))
 f318:=Tryz.func124.trans (congrArg some (by kernel_rfl))
 f319:=Tryz.func125.trans (congrArg some (by kernel_rfl))
 f320:=Tryz.func126.trans (congrArg some (by kernel_rfl))
 f337:=Tryz.func143.trans (congrArg some (by kernel_rfl))
 f338:=Tryz.func144.trans (congrArg some (by kernel_rfl))
 t0:=Tryz.underlying0
 a0:=Tryz.isAgg0
 z0:=Tryz.sizeOf0
 v0:=Tryz.zeroValue0
 t2:=Tryz.underlying2
 a2:=Tryz.isAgg2
 z2:=Tryz.sizeOf2
 v2:=Tryz.zeroValue2
 t3:=Tryz.underlying3
 a3:=Tryz.isAgg3
 z3:=Tryz.sizeOf3
 v3:=Tryz.zeroValue3
 t4:=Tryz.underlying4
 a4:=Tryz.isAgg4
 z4:=Tryz.sizeOf4
 v4:=Tryz.zeroValue4
 t5:=Tryz.underlying5
 a5:=Tryz.isAgg5
 z5:=Tryz.sizeOf5
 v5:=Tryz.zeroValue5
 t9:=Tryz.underlying9
 a9:=Tryz.isAgg9
 z9:=Tryz.sizeOf9
 v9:=Tryz.zeroValue9
 t20:=Tryz.underlying20
 a20:=Tryz.isAgg20
 z20:=Tryz.sizeOf20
 v20:=Tryz.zeroValue20
 t37:=Tryz.underlying128
 a37:=Tryz.isAgg128
 z37:=Tryz.sizeOf128
 v37:=Tryz.zeroValue128
 t46:=Tryz.underlying174
 a46:=Tryz.isAgg174
 z46:=Tryz.sizeOf174
 v46:=Tryz.zeroValue174
 t51:=Tryz.underlying172
 a51:=Tryz.isAgg172
 z51:=Tryz.sizeOf172
 v51:=Tryz.zeroValue172
 t53:=Tryz.underlying145
 a53:=Tryz.isAgg145
 z53:=Tryz.sizeOf145
 v53:=Tryz.zeroValue145
 t171:=Tryz.underlying144
 a171:=Tryz.isAgg144
 z171:=Tryz.sizeOf144
 v171:=Tryz.zeroValue144
 t173:=Tryz.underlying148
 a173:=Tryz.isAgg148
 z173:=Tryz.sizeOf148
 v173:=Tryz.zeroValue148
 t212:=Tryz.underlying171
 a212:=Tryz.isAgg171
 z212:=Tryz.sizeOf171
 v212:=Tryz.zeroValue171
 t213:=Tryz.underlying173
 a213:=Tryz.isAgg173
 z213:=Tryz.sizeOf173
 t232:=Tryz.underlying211
 a232:=Tryz.isAgg211
 z232:=Tryz.sizeOf211
 v232:=Tryz.zeroValue211
 t233:=Tryz.underlying212
 a233:=Tryz.isAgg212
 z233:=Tryz.sizeOf212
 v233:=Tryz.zeroValue212
 g17:=by kernel_rfl
 g18:=by kernel_rfl
 g19:=by kernel_rfl
 i0:=by kernel_rfl
 i2:=by kernel_rfl
 i3:=by kernel_rfl
 i4:=by kernel_rfl
 i5:=by kernel_rfl
 i9:=by kernel_rfl
 i20:=by kernel_rfl
 i37:=by kernel_rfl
 i46:=by kernel_rfl
 i51:=by kernel_rfl
 i53:=by kernel_rfl
 i171:=by kernel_rfl
 i173:=by kernel_rfl
 i212:=by kernel_rfl
 i232:=by kernel_rfl
 i233:=by kernel_rfl
 m17:=by kernel_rfl
 m18:=by kernel_rfl
 m19:=by kernel_rfl }
end Go.Proofs
namespace Go.Ir
open Go.Proofs Go.RowKit
variable(W0:World)
def MQ(W0:World):Prop := Lib.TabIs Tryz.prog W0 "internal/strconv.uint64pow10" .u64 Lib.pow10Tab
theorem V5{P:Program}{W0 w:World}{a:String}{k:IntKind}{zs:List Int}(d:Below W0.heap.size W0 w)(h:Lib.TabIs P W0 a k zs):Lib.TabIs P w a k zs:=by
 unfold Lib.TabIs World.var? at *;cases b:P.globalNamed a with
 | none=>rw[b] at h;cases h
 | some g=>
  rw[b] at h;simp only[Option.bind_some] at h⊢;cases c:W0.heap[g]? with
  | none=>rw[c] at h;cases h
  | some o=>rw[d.block g (Array.getElem?_eq_some_iff.1 c).1];exact h
theorem mE(d:MQ W0)(i:Nat)(o:i<2^62):An Tryz.prog W0 34 [.i .i64 i] [] (.s (Lib.decDigits i)) []/\(Lib.decDigits i).length<=20:=by
 have b:(Lib.decDigits i).length<=20:=by rw[Lib.decDigits_length];exact Lib.nDigits_le20 _ (by omega)
 refine⟨BJ (by kernel_rfl) λw vals f ⟨μ,H,c⟩=>?_,b⟩;have a:=c.len;obtain⟨x,rfl⟩:∃x,vals=[x]:=by
  match vals,a with
  | [x],_=>exact⟨x,rfl⟩
 have m:=c.at_ 0 _ _ rfl rfl;cases m;refine(Any.strconv_Itoa Tryz.laysM171 i (by omega) (by omega) w (V5 f d)).mono λe w' ⟨g,k,p,l⟩=>?_;subst l;refine⟨_,g,λ_ _=>?_,?_⟩
 .rw[Lib.itoa_nonneg];exact .s _ (by unfold AO;omega)
 .refine⟨rfl,rfl,rfl,by simp[Sort.grow,World.drewN],λj h=>?_⟩;simp only[Sort.grow];rw[Array.getElem?_append_left (by simpa using h)];rfl
theorem AgS(laid:List (String×DataW Unit))(hl:(laid.all fun x => x.2.handleName?.isNone)=true){a b:String×DataW Unit}{r:List (String×DataW Unit)}(he:laid=a :: b :: ("internal/strconv.uint64pow10", Lib.tabData .u64 Lib.pow10Tab) :: r)
  {g:Nat}{t e:TypeId}{n:Nat}(hg:(Tryz.prog).globalNamed "internal/strconv.uint64pow10" = some g)(hty:((Tryz.prog).globals[g]?).map (·.type)=some t)(ht:(Tryz.prog).underlying t=some (.array n e))(hu:(Tryz.prog).underlying e=some (.int .u64))(hce:(Tryz.prog).cellsOf e=1)(hct:(Tryz.prog).cellsOf t=n)
  {W:World}(h:laidMetH Tryz.prog laid W):MQ W:=by
 rw[MakeChecks.laidMetH_plain _ _ _ hl] at h
 subst he
 have tl:∀{x:String×DataW Unit} {r:List (String×DataW Unit)},laidMet Tryz.prog (x::r) W->laidMet Tryz.prog r W:=by
  rintro⟨n,d⟩ r ⟨ps,hv,hnd,hrows⟩
  obtain⟨g,t,cs,fuel,p,q,_,_,_,_,hq,rfl⟩:=hv
  exact⟨q,hq,List.Nodup.sublist (List.sublist_append_right _ _) hnd,fun b off hm=>hrows b off (List.mem_append_right _ hm)⟩
 exact Lib.tabIs_of_head hg hty ht hu hce hct (tl (tl h))
end Go.Ir

namespace Go.Ir
open Go.Proofs
variable(W0:World)
def Cv(ps:List Ab):Bool:=AG ps 1 false false&&decide (((BE ps []).length:Int)<=20)&&decide (((Cx ps).length:Int)<=4000)
theorem YC(ps:List Ab)(a:Aw ps<=2^24):An π W0 16 [.sl (ps.map Ab.enc)] [] (.b (Cv ps)) []:=by
 have d:=X3 W0 _ ps 1 false (Nat.lt_succ_self _) a (by omega) (by omega);have e:=Yb W0 _ ps [] .nil (Nat.lt_succ_self _) a (by simp;omega) (.inl ⟨rfl,rfl⟩);have f:=rN W0 _ ps (Nat.lt_succ_self _) a;generalize hS:Cv ps=S;unfold Cv at hS;generalize AG ps 1 false false=F at *;refine Ak (vs:=[.b S]) Apf (by simp) (by simp) λn0 c=>?_;clear c;simp only[push_cast,seval,reduceEqDiff]
 repeat' (first|(((first|apply Ad|apply Ai|apply Ah)<;>intro _h)<;>simp only[push_cast,seval,reduceEqDiff,_h])|((first|refine Ae (by exact d) ?_|refine Ae (by exact e) ?_|refine Ae (by exact f) ?_);simp only[push_cast,seval,reduceEqDiff])|intro _)
 all_goals subst hS
 all_goals (first|(refine Af ?_;simp[get, *]<;>(intros;omega);done)|(refine Ag ?_;simp[push_cast,get, *];done)|skip)
end Go.Ir
namespace Go.Proofs
open Go.Shelf
end Go.Proofs
namespace Go.Ir
open Go.Proofs Go.RowKit
variable(W0:World)
def ID:List V->Option V
 | [.s s,.s p]=>some (.tup [.s (Lib.trimPrefix s p),.b (Lib.hasPrefix s p)])
 | _=>none
theorem R5:AF π W0 (X5 52 ID):=GE λargs v h=>by
 unfold ID at h;split at h
 .cases h;exact⟨FU W0 _ _,rfl⟩
 .cases h
end Go.Ir
section
namespace Go.Ir
section tree
variable{P:Ab→Prop}{Q:List Ab→Prop}{R:List Ar→Prop}
theorem QA(hp:∀p:Ab,R p.cases->Q p.parts->P p)(e:Q [])(q1:∀p ps,P p->Q ps->Q (p::ps))(f:R [])(i:∀(c:Ar) (cs:List Ar),Q c.2->R cs->R (c::cs)) :
  ∀N,(∀p:Ab,p.wt<N->P p)/\(∀ps,Aw ps<N->Q ps)/\(∀cs,B9 cs<N->R cs):=by
 intro N
 induction N with
 | zero=>grind
 | succ N g=>
  have b:∀p:Ab,p.wt<N+1->P p:=λp h=>by rw[p.wt_eq] at h;grind
  have d:∀ps,Aw ps<N+1->Q ps:=by
   intro ps
   induction ps with
   | nil=>intro _;exact e
   | cons p ps a=>intro h;rw[Aq] at h;grind
  refine⟨b,d,λcs=>?_⟩
  induction cs with
  | nil=>intro _;exact f
  | cons c cs a=>intro h;rw[Ay] at h;grind
theorem Bs(hp:∀p:Ab,R p.cases->Q p.parts->P p)(a:Q [])(q1:∀p ps,P p->Q ps->Q (p::ps))(b:R [])(d:∀(c:Ar) (cs:List Ar),Q c.2->R cs->R (c::cs))(ps:List Ab):Q ps:=
 (QA hp a q1 b d _).2.1 ps (Nat.lt_succ_self _)
end tree
theorem Q3{s:Aa}(h:BA s=true):s≠[]:=by rintro rfl;cases h
theorem Cb(k:Int):AJ k=true↔k=7\/k=8\/k=9:=by unfold AJ;simp;omega
theorem kW{a:Type}{l:List a}(h:((l.length:Int)==0)=true):l=[]:=by simp_all
theorem Je(p:Ab)(c:Bool)(b:(p.kind==11)=false)(d:AJ p.kind=false):Fz p c=(p.fieldsB&&!(p.kind==10&&!c)):=by
 obtain⟨k,t,g,i,cs,ps⟩:=p;simp only at b d;have f:(k==7)=false/\(k==8)=false/\(k==9)=false:=by
  have:¬(k=7\/k=8\/k=9):=λh=>by rw[(Cb k).2 h] at d;cases d
  simp;omega
 obtain⟨f,v,x⟩:=f;unfold Fz M6 wT wN wS Ab.fieldsB AI;simp only;have u:(t==t)=true:=by simp
 have s:(g==g)=true:=by simp
 have e:(i==i)=true:=by simp
 by_cases j:k=1
 .subst j;grind
 by_cases a:k=10
 .subst a;grind
 by_cases l:k=2
 .subst l;grind
 by_cases m:k=3
 .subst m;simp only[bq,if_true,if_false,Int.reduceBEq,reduceCtorEq,Int.reduceBEq,u,s,e,Gf];grind
 by_cases o:k=4
 .subst o;grind
 by_cases q:k=5
 .subst q;grind
 by_cases r:k=6
 .subst r;grind
 grind
theorem Vk(n:Nat):decide ((n:Int)>0)=!((n:Int)==0):=by grind
theorem oN{k:Int}(h:AJ k=true):K7 k=(k !=9):=by rcases(Cb k).1 h with rfl|rfl|rfl<;>rfl
theorem Lh(ps:List Ab):∀d c a l,(BO ps d c a l).1=AG ps (d+1) c a:=by
 refine Bs (P:=λp=>∀d c l,((p.fieldsB&&!(p.kind==10&&!c))&&(p.chk d c l).1)=p.formedB (d+1) c)
  (Q:=λps=>∀d c a l,(BO ps d c a l).1=AG ps (d+1) c a)
  (R:=λcs=>∀k d c n seen l,AJ k=true->(Ea cs k d c n seen l).1=(decide ((n:Int)<=20)&&Bq cs k d c seen)) ?_ ?_ ?_ ?_ ?_ ps
 .intro p v o d c l;rw[p.chk_eq,p.formedB_eq];by_cases g:p.kind=11
  .have i:AJ p.kind=false:=by rw[g];rfl
   have f:(p.kind==11)=true:=by simpa using g
   have h:=o (d+1) c false l;simp only[f,i,if_true,if_false,Bool.false_eq_true];have u:p.fieldsB=(BA p.name&&(p.text==[]&&(p.style==[]&&((p.cases.length:Int)==0)))):=by unfold Ab.fieldsB AI;rw[g];simp
   have j:(p.kind==10)=false:=by rw[g];rfl
   have t:decide (d+1>8)=decide (d>=8):=by simp;omega
   have s:=Vk p.cases.length;rw[u,j];unfold I5;rw[t,s,<-h];generalize BA p.name=m;generalize(p.text==[])=a2;generalize(p.style==[])=a3;generalize((p.cases.length:Int)==0)=a4;cases decide (d>=8) with
   | true=>cases m<;>cases a2<;>cases a3<;>cases a4<;>rfl
   | false=>simp only[Bool.false_eq_true,if_false];generalize BO p.parts (d+1) c false l=r;grind
  .have f:(p.kind==11)=false:=by simpa using g
   simp only[f,if_false,Bool.false_eq_true];cases i:AJ p.kind with
   | true=>
    have h:=v p.kind (d+1) c p.cases.length [] l i;have u:p.fieldsB=(BA p.name&&(p.text==[]&&(p.style==[]&&((p.parts.length:Int)==0)))):=by unfold Ab.fieldsB AI;rcases(Cb _).1 i with e|e|e<;>(rw[e];simp)
    have j:(p.kind==10)=false:=by rcases(Cb _).1 i with e|e|e<;>(rw[e];rfl)
    have t:decide (d+1>8)=decide (d>=8):=by simp;omega
    have s:=Vk p.parts.length;have q:decide ((p.cases.length:Int)>20)=!decide ((p.cases.length:Int)<=20):=by grind
    have A:decide ((p.cases.length:Int)<1)=true->Bq p.cases p.kind (d+1) c []=false:=by intro z;have:p.cases=[]:=List.length_eq_zero_iff.1 (by simp at z;omega);rw[this];simp[Bq]
    rw[u,j];unfold G7;rw[t,s,q];simp only[if_true];generalize BA p.name=m;generalize(p.text==[])=a2;generalize(p.style==[])=a3;generalize((p.parts.length:Int)==0)=a4;generalize decide ((p.cases.length:Int)<1)=a5 at *;generalize Bq p.cases p.kind (d+1) c []=F at *;generalize decide ((p.cases.length:Int)<=20)=y at *;cases decide (d>=8) with
    | true=>cases m<;>cases a2<;>cases a3<;>cases a4<;>rfl
    | false=>
     simp only[Bool.false_eq_true,if_false];generalize Ea p.cases p.kind (d+1) c p.cases.length [] l=r at *;obtain⟨b,l1⟩:=r;simp only at h;subst h;cases a5 with
     | true=>grind
     | false=>cases F<;>cases m<;>cases a2<;>cases a3<;>cases a4<;>cases y<;>rfl
   | false=>simp only[if_false,Bool.false_eq_true];rw[Je p c f i];simp
 .intro d c a l;rfl
 .intro p ps hp o d c a l;rw[IG,By,<-hp d c l];grind
 .intro k d c n seen l _;simp[Ea,Bq]
 .intro x cs o v k d c n seen l i;rw[Ix,Ce,oN i,<-o d (c||(k !=9)) false l];generalize(!Gp k x.1||seen.contains x.1)=m;generalize BO x.2 d (c||(k !=9)) false l=r;grind
theorem FT(ps:List Ab):∀d c b,AG ps d c b=true->Cn ps=(Cx ps).length:=by
 refine Bs (P:=λp=>∀d c,p.formedB d c=true->p.lenB=p.textB.length)
  (Q:=λps=>∀d c b,AG ps d c b=true->Cn ps=(Cx ps).length)
  (R:=λcs=>∀k d c g,Bq cs k d c g=true->DB cs=(D2 cs).length) ?_ ?_ ?_ ?_ ?_ ps
 .intro p y m d c h;rw[p.formedB_eq] at h;rw[p.lenB_eq,p.textB_eq];by_cases i:p.kind=11
  .have A:(p.kind==1)=false:=by rw[i];rfl
   have t:(p.kind==10)=false:=by rw[i];rfl
   have a:(p.kind==11)=true:=by simpa using i
   rw[a,if_pos rfl,Bool.and_eq_true] at h;have u:=m _ _ _ h.2;simp only[A,t,a,if_true,if_false,Bool.false_eq_true];cases p.parts.isEmpty<;>simp[u]<;>omega
  .have a:(p.kind==11)=false:=by simpa using i
   rw[a,if_neg (by simp)] at h;cases o:AJ p.kind with
   | true=>
    rw[o,if_pos rfl,Bool.and_eq_true] at h;have u:=y _ _ _ _ h.2;have r:(p.kind==1)=false/\(p.kind==10)=false/\(p.kind==2)=false/\(decide (p.kind>=3)&&decide (p.kind<=9))=true:=by rcases(Cb _).1 o with e|e|e<;>(rw[e];decide)
    obtain⟨r,s,z,f⟩:=r;simp only[r,s,z,a,f,if_true,if_false,Bool.false_eq_true];unfold Nm VE T4 SC;rw[if_pos f,o];cases l:(p.style==[])<;>simp[u]<;>omega
   | false=>
    rw[o,if_neg (by simp)] at h;unfold Fz at h;simp only[Bool.and_eq_true] at h;obtain⟨⟨⟨⟨⟨B,v⟩,hp⟩,E⟩,D⟩,l⟩:=h;have v:=kW v;rw[v];by_cases k1:p.kind=1
    .simp[k1]
    by_cases wC:p.kind=10
    .simp[wC]
    have e:∀j:Int,p.kind≠j->(p.kind==j)=false:=λj h=>by simpa using h
    by_cases k2:p.kind=2
    .have q:p.style=[]:=by unfold wS at l;grind
     rw[k2,q];simp[Nm,AJ,DB]<;>omega
    have C:p.kind=3\/p.kind=4\/p.kind=5\/p.kind=6:=by unfold M6 at B;grind
    have f:(decide (p.kind>=3)&&decide (p.kind<=9))=true:=by simp;omega
    simp only[e 1 k1,e 10 wC,e 2 k2,a,f,if_true,if_false,Bool.false_eq_true];unfold Nm VE T4 SC;rw[if_pos f,o];cases l:(p.style==[])<;>simp[DB,D2]<;>omega
 .intro d c b _;simp[Cn,Cx]
 .intro p ps hp m d c b h;rw[By,Bool.and_eq_true,Bool.and_eq_true] at h;rw[Ex,Hh,List.length_append,hp _ _ h.2.1,m _ _ _ h.2.2]
 .intro k d c g _;simp[DB,D2]
 .intro x cs m y k d c g h;rw[Ce,Bool.and_eq_true,Bool.and_eq_true] at h;rw[DH,FO,m _ _ _ h.2.1,y _ _ _ _ h.2.2];simp<;>omega
mutual
def Ab.nms:Ab->List Aa
 | ⟨k,_,n,_,cs,ps⟩=>(if decide (k>=2)&&decide (k<=9) then[n] else[])++(DR ps++EX cs)
def DR:List Ab->List Aa
 | []=>[]
 | p::ps=>p.nms++DR ps
def EX:List (Aa×List Ab)->List Aa
 | []=>[]
 | (_,ps)::cs=>DR ps++EX cs
end
theorem Ab.nms_eq(p:Ab):p.nms=(if decide (p.kind>=2)&&decide (p.kind<=9) then[p.name] else[])++(DR p.parts++EX p.cases):=by cases p;simp only[Ab.nms]
theorem G1(p:Ab)(ps:List Ab):DR (p::ps)=p.nms++DR ps:=by simp only[DR]
theorem GL(c:Ar)(cs:List Ar):EX (c::cs)=DR c.2++EX cs:=by obtain⟨k,q⟩:=c;simp only[EX]
def Es(l a m:List Aa):Prop:=(∀x,x∈a↔x∈l\/x∈m)/\(l.Nodup->a.Nodup)
theorem Es.refl(l:List Aa):Es l l []:=⟨λx=>by simp,λh=>h⟩
theorem Es.trans{a b c m n:List Aa}(h:Es a b m)(k:Es b c n):Es a c (m++n):=
 ⟨λx=>by rw[k.1,h.1];simp[or_assoc],λd=>k.2 (h.2 d)⟩
theorem Es.same{a b m n:List Aa}(h:Es a b m)(c:∀x,x∈m↔x∈n):Es a b n:=⟨λx=>by rw[h.1,c],h.2⟩
theorem SY{l:List Aa}{x:Aa}(h:l.Nodup)(a:x∉l):(l++[x]).Nodup:=by rw[List.nodup_append];grind
theorem PZ(x:Aa)(l:List Aa):Es l (Nl x l) [x]:=by
 unfold Nl;cases h:l.contains x with
 | true=>
  have a:x∈l:=by simpa using h
  exact⟨λy=>by grind,λh=>h⟩
 | false=>
  have a:x∉l:=by simpa using h
  exact⟨λy=>by simp,λh=>SY h a⟩
theorem fW(k:Int)(x:Aa)(l:List Aa):Es l (Kb k x l) (if decide (k>=2)&&decide (k<=9) then[x] else[]):=by
 unfold Kb;cases a:(decide (k>=2)&&decide (k<=9)) with
 | false=>simp only[Bool.false_and,Bool.false_eq_true,if_false];exact Es.refl l
 | true=>have:=PZ x l;unfold Nl at this;grind
theorem I3(ps:List Ab):∀l,Es l (BE ps l) (DR ps):=by
 refine Bs (P:=λp=>∀l,Es l (p.names l) p.nms) (Q:=λps=>∀l,Es l (BE ps l) (DR ps)) (R:=λcs=>∀l,Es l (CZ cs l) (EX cs)) ?_ ?_ ?_ ?_ ?_ ps
 .intro p b a l;rw[p.names_eq,p.nms_eq];exact(fW _ _ _).trans ((a _).trans (b _))
 .intro l;simp only[BE,DR];exact Es.refl l
 .intro p ps hp a l;rw[G5,G1];exact(hp l).trans (a _)
 .intro l;simp only[CZ,EX];exact Es.refl l
 .intro c cs a b l;rw[Ff,GL];exact(a l).trans (b _)
theorem QY{p:Ab}(h:p.fieldsB=true):(if decide (p.kind>=2)&&decide (p.kind<=9) then[p.name] else[])=(if !(p.kind==11)&&!(p.name==[]) then[p.name] else[]):=by
 obtain⟨k,t,b,c,cs,ps⟩:=p;unfold Ab.fieldsB AI at h;simp only at h⊢;have e:∀j:Int,k≠j->(k==j)=false:=λj h=>by simpa using h
 by_cases k1:k=1
 .grind
 by_cases wC:k=10
 .grind
 rw[e 1 k1,e 10 wC] at h;simp only[Bool.false_eq_true,if_false,Bool.and_eq_true] at h;have a:=Q3 h.1;grind
theorem GN{p:Ab}(h:p.fieldsB=true):(AJ p.kind=false->p.cases=[])/\((p.kind==11)=false->p.parts=[])/\(p.kind==11||AJ p.kind->p.text=[]/\p.style=[]):=by
 obtain⟨k,t,o,q,cs,ps⟩:=p;unfold Ab.fieldsB AI at h;simp only at h⊢;have e:∀j:Int,k≠j->(k==j)=false:=λj h=>by simpa using h
 have nil:∀{f:Type} (l:List f),((l.length:Int)==0)=true->l=[]:=λl h=>kW h;by_cases k1:k=1
 .subst k1;simp only[Int.reduceBEq,if_true,Bool.and_eq_true] at h;exact⟨λ_=>nil _ h.2.2.2.1,λ_=>nil _ h.2.2.2.2,λc=>by cases c⟩
 by_cases wC:k=10
 .grind
 rw[e 1 k1,e 10 wC] at h;simp only[Bool.false_eq_true,if_false,Bool.and_eq_true] at h;obtain⟨g,i,h⟩:=h;by_cases k2:k=2
 .grind
 by_cases OV:k=11
 .grind
 rw[e 2 k2,e 11 OV] at h;simp only[Bool.false_eq_true,if_false] at h;by_cases a:AJ k=true
 .have b:(k==7||k==8||k==9)=true:=by rcases(Cb k).1 a with rfl|rfl|rfl<;>rfl
  grind
 .have d:AJ k=false:=by simpa using a
  have m:k≠7/\k≠8/\k≠9:=⟨λe=>a ((Cb k).2 (.inl e)),λe=>a ((Cb k).2 (.inr (.inl e))),λe=>a ((Cb k).2 (.inr (.inr e)))⟩
  grind
theorem kG(ps:List Ab):∀d c a l,(BO ps d c a l).1=true->Es l (BO ps d c a l).2 (DR ps):=by
 refine Bs (P:=λp=>p.fieldsB=true->∀d c l,(p.chk d c l).1=true->Es l (p.chk d c l).2 p.nms)
  (Q:=λps=>∀d c a l,(BO ps d c a l).1=true->Es l (BO ps d c a l).2 (DR ps))
  (R:=λcs=>∀k d c n seen l,(Ea cs k d c n seen l).1=true->Es l (Ea cs k d c n seen l).2 (EX cs)) ?_ ?_ ?_ ?_ ?_ ps
 .intro p y o s d c l h;obtain⟨z,hp,_⟩:=GN s;rw[p.chk_eq] at h⊢;rw[p.nms_eq,QY s];have f:∀q m,Es l q m->Es l (if !(p.kind==11)&&!(p.name==[]) then Nl p.name q else q) ((if !(p.kind==11)&&!(p.name==[]) then[p.name] else[])++m):=by
   intro q m A;cases(!(p.kind==11)&&!(p.name==[])) with
   | true=>simp only[if_true];exact(A.trans (PZ p.name q)).same λx=>by grind
   | false=>simpa using A
  by_cases g:p.kind=11
  .have i:AJ p.kind=false:=by rw[g];rfl
   have e:(p.kind==11)=true:=by simpa using g
   rw[z i];have j:EX []=[]:=by simp only[EX]
   rw[j,List.append_nil];have B:=o (d+1) c false l;simp only[e,i,if_true,if_false,Bool.false_eq_true] at h f⊢;grind
  .have e:(p.kind==11)=false:=by simpa using g
   rw[hp e];have j:DR []=[]:=by simp only[DR]
   rw[j,List.nil_append];simp only[e,if_false,Bool.false_eq_true] at h f⊢;cases i:AJ p.kind with
   | false=>
    rw[i] at h;rw[z i];have j:EX []=[]:=by simp only[EX]
    rw[j];simp only[if_false,Bool.false_eq_true] at h⊢;exact f l [] (Es.refl l)
   | true=>
    rw[i] at h;have B:=y p.kind (d+1) c p.cases.length [] l;simp only[if_true] at h⊢;by_cases C:decide (d>=8)=true
    .grind
    .have u:decide (d>=8)=false:=by simpa using C
     rw[u] at h⊢;simp only[Bool.false_eq_true,if_false] at h⊢;generalize Ea p.cases p.kind (d+1) c p.cases.length [] l=r at *;obtain⟨b,l1⟩:=r;cases b with
     | false=>simp at h
     | true=>grind
 .intro d c a l _;simp only[BO,DR];exact Es.refl l
 .intro p ps hp o d c a l h;rw[IG] at h⊢;rw[G1];split at h
  .cases h
  .rename_i v;rw[if_neg v];have s:p.fieldsB=true:=by grind
   have t:=hp s d c l;generalize p.chk d c l=r at *;obtain⟨b,l1⟩:=r;cases b with
   | false=>simp at h
   | true=>exact(t rfl).trans (o _ _ _ _ h)
 .intro k d c n seen l _;simp only[Ea,EX];exact Es.refl l
 .intro x cs o y k d c n seen l h;rw[Ix] at h⊢;rw[GL];split at h
  .cases h
  .rename_i v;rw[if_neg v];have t:=o d (c||(k !=9)) false l;generalize BO x.2 d (c||(k !=9)) false l=r at *;obtain⟨b,l1⟩:=r;cases b with
   | false=>simp at h
   | true=>exact(t rfl).trans (y _ _ _ _ _ _ h)
theorem K1{a b:List Aa}(c:a.Nodup)(h:∀x∈a,x∈b):a.length<=b.length:=by
 induction a generalizing b with
 | nil=>simp
 | cons x a d=>
  rw[List.nodup_cons] at c;have e:x∈b:=h x (by simp);have:=d (b:=b.erase x) c.2 λy f=>by grind
  grind
theorem Mx(ps:List Ab):Eg ps=Cv ps:=by
 unfold Eg Cv;rw[Lh ps 0 false false []];have a:(0:Int)+1=1:=rfl;rw[a];cases e:AG ps 1 false false with
 | false=>simp
 | true=>have b:=kG ps 0 false false [] (by rw[Lh,a,e]);have c:=I3 ps [];have f:=FT ps _ _ _ e;have g:=K1 (b.2 List.nodup_nil) λx d=>(c.1 x).2 ((b.1 x).1 d);have h:=K1 (c.2 List.nodup_nil) λx d=>(b.1 x).2 ((c.1 x).1 d);grind
end Go.Ir
end
namespace Go.Ir
structure Em (p:Ab):Prop where
 keys:AJ p.kind=true->∀c∈p.cases,Gp p.kind c.1=true
 other:AJ p.kind=true->∃c∈p.cases,c.1=Bd
 cases0:AJ p.kind=false->p.cases=[]
 parts0:(p.kind==11)=false->p.parts=[]
 elem:(p.kind==11)=true->p.text=[]/\p.style=[]
 name:AJ p.kind=true->p.name.length<=40
theorem WN{s:Aa}(h:BA s=true):s.length<=40:=by
 cases s with
 | nil=>simp
 | cons c r=>unfold BA at h;grind
theorem JC{p:Ab}{c:Bool}(a:(p.kind==11)=false)(b:AJ p.kind=false)(h:Fz p c=true):p.fieldsB=true:=by rw[Je p c a b,Bool.and_eq_true] at h;exact h.1
theorem Xx(ps:List Ab):∀d c b,AG ps d c b=true->Ax Em ps:=by
 refine Bs (P:=λp=>∀d c,p.formedB d c=true->p.all Em)
  (Q:=λps=>∀d c b,AG ps d c b=true->Ax Em ps)
  (R:=λcs=>∀k d c a,Bq cs k d c a=true->Bl Em cs/\(∀x∈cs,Gp k x.1=true)/\(a.contains Bd=true\/∃x∈cs,x.1=Bd)) ?_ ?_ ?_ ?_ ?_ ps
 .intro p o l d c h;rw[p.formedB_eq] at h;rw[p.all_eq];cases f:p.kind==11 with
  | true=>
   have j:AJ p.kind=false:=by
    have:p.kind=11:=by simpa using f
    rw[this];rfl
   rw[f,if_pos rfl,Bool.and_eq_true] at h;obtain⟨e,i⟩:=h;unfold I5 at e;simp at e;have t:p.cases=[]:=by simpa using e.2
   refine⟨⟨λg=>(by grind),λg=>(by grind),λ_=>t,λg=>(by grind),λ_=>⟨e.1.1.2,e.1.2⟩,λg=>(by grind)⟩,?_,l _ _ _ i⟩;rw[t];simp only[Bl]
  | false=>
   rw[f,if_neg (by simp)] at h;cases j:AJ p.kind with
   | true=>
    rw[j,if_pos rfl,Bool.and_eq_true] at h;obtain⟨e,i⟩:=h;unfold G7 at e;simp at e;have hp:p.parts=[]:=by simpa using e.1.1.2
    obtain⟨m,a2,a3⟩:=o _ _ _ _ i;refine⟨⟨λ_=>a2,λ_=>?_,λg=>(by grind),λ_=>hp,λg=>(by grind),λ_=>WN e.1.1.1.1.1.2⟩,m,?_⟩
    .grind
    .rw[hp];simp only[Ax]
   | false=>
    rw[j,if_neg (by simp)] at h;obtain⟨r,s,z⟩:=GN (JC f j h);refine⟨⟨λg=>(by grind),λg=>(by grind),r,s,λg=>(by grind),λg=>(by grind)⟩,?_,?_⟩
    .rw[r j];simp only[Bl]
    .rw[s f];simp only[Ax]
 .intro d c b _;simp only[Ax]
 .intro p ps hp l d c b h;rw[By,Bool.and_eq_true,Bool.and_eq_true] at h;rw[A9];grind
 .intro k d c a h;refine⟨by simp only[Bl],λx v=>(by cases v),.inl ?_⟩;simpa only[Bq] using h
 .intro x cs l o k d c a h;rw[Ce,Bool.and_eq_true,Bool.and_eq_true] at h;obtain⟨A,e,i⟩:=h;obtain⟨m,a2,a3⟩:=o _ _ _ _ i;have B:Gp k x.1=true:=by grind
  rw[AP];refine⟨⟨l _ _ _ e,m⟩,λy u=>?_,?_⟩
  .grind
  .rcases a3 with a3|⟨y,u,q⟩
   .have:Bd∈a\/Bd=x.1:=by simpa using a3
    rcases this with h|h
    .left;simpa using h
    .right;exact⟨x,by simp,h.symm⟩
   .right;exact⟨y,by simp[u],q⟩
theorem Hk{ps:List Ab}(h:Cv ps=true):Ax Em ps:=by unfold Cv at h;rw[Bool.and_eq_true,Bool.and_eq_true] at h;exact Xx ps _ _ _ h.1.1
def EN(L:List BK)(p:Ab):Prop:=AJ p.kind=true->¬BL L p.kind p.name<0
theorem EN.mono{L a:List BK}(h:B5 L a){p:Ab}(hp:EN L p):EN a p:=λb=>by have:=hp b;rw[Kr h _ _ this];exact this
def KS(G:Int->Aa->Prop)(l:List BK):Prop:=∀s∈l,∀k∈s.keys,G s.kind k
theorem KS.mod{G:Int->Aa->Prop}{l:List BK}(h:KS G l){j:Nat}{key:Aa}{s:BK}(e:l[j]?=some s)(m:G s.kind key):KS G (l.modify j (Ct key)):=by
 intro t o k a;obtain⟨i,c⟩:=List.getElem?_of_mem o;rw[List.getElem?_modify] at c;by_cases g:j=i
 .subst g;rw[e] at c;have f:Ct key s=t:=by simpa using c
  subst f;have d:=List.mem_of_getElem? e;unfold Ct at a⊢;split at a
  .rename_i b;rw[if_pos b];exact h s d k a
  .rename_i b;rw[if_neg b];simp only[List.mem_append,List.mem_singleton] at a;rcases a with a|rfl
   .exact h s d k a
   .exact m
 .have:l[i]?=some t:=by
   grind
  exact h t (List.mem_of_getElem? this) k a
theorem KS.add{G:Int->Aa->Prop}{l:List BK}(h:KS G l)(k:Int)(n:Aa):KS G (CK l k n):=by
 unfold CK;split
 .intro s a k b;rcases List.mem_append.1 a with a|a
  .exact h s a k b
  grind
 .exact h
theorem KS.nil(G:Int->Aa->Prop):KS G []:=λs a=>by cases a

structure Lj (p:Ab):Prop where
 sel:AJ p.kind=false
 ten:(p.kind==10)=false
 cs:p.cases=[]

end Go.Ir

namespace Go.Ir
open Go.Proofs
variable(W0:World)
def BG(n:Nat):Aa:=Lib.decDigits n
theorem hM{W0:World}{nt n n' s e sz:Nat}{env:AB}{σ τ:Aj}{rid:Id}{es:List V}(p:get env s=.arr rid)(o:lk σ rid=some (.arr e sz es))(b:∀i e',lk τ i=some e'->lk σ i=some e'/\i≠rid)(m:∀y∈es,y.ok=true)(l:n<=n') :
  Al W0 nt ⟨env,σ,n⟩ ⟨(s,.sl es)::env,τ,n'⟩:=by
 refine Al.weak (λi=>if i=rid then some es else none) (λi es' h=>?_) (λt=>?_) (λi e' h=>⟨e',(b i e' h).1,.refl _⟩) l
 .split at h
  .rename_i j;subst j;cases h;refine⟨⟨e,sz,o⟩,?_⟩;cases q:lk τ i with
   | none=>rfl
   | some x=>grind
  .cases h
 .by_cases f:s=t
  .subst f;rw[p];simp only[get,if_true];refine .arr rid es es (by simp) rfl (λk c g d a=>?_) (λk c g d a=>?_)
   .rw[d] at a;cases a;exact .refl _
   grind
  .simp only[get,if_neg f];exact .refl _
end Go.Ir

namespace Go.Ir
open Go.Proofs
variable{P:Program}{W0:World}{nt n:Nat}{Q:Exit→St→Prop}{env:AB}{σ:Aj}
end Go.Ir

namespace Go.Ir
open Go.Proofs
variable(W0:World)
theorem Ww:∀(N:Nat),(∀ps,Aw ps<N->Dc ps ps=true)/\(∀cs,B9 cs<N->Ft cs cs=true):=by
 intro N
 induction N with
 | zero=>grind
 | succ N d=>
  have b:∀ps,Aw ps<N+1->Dc ps ps=true:=by
   intro ps
   induction ps with
   | nil=>intro _;simp[Dc]
   | cons p ps a=>intro h;rw[Aq] at h;have hp:=p.wt_eq;rw[Gr,p.eqB_eq,a (by omega),d.1 p.parts (by omega),d.2 p.cases (by omega)];simp
  refine⟨b,λcs=>?_⟩
  induction cs with
  | nil=>intro _;simp[Ft]
  | cons c cs a=>intro h;rw[Ay] at h;rw[Gc,b c.2 (by omega),a (by omega)];simp
theorem AgI(ps:List Ab):Dc ps ps=true:=(Ww _).1 ps (Nat.lt_succ_self _)
end Go.Ir

namespace Go.Ir
theorem HD{p:Ab}(h:p.all Em)(c:p.solid=false):p.kind=11\/AJ p.kind=true:=by
 have d:=((Ab.all_eq _ _).1 h).1;cases b:AJ p.kind with
 | true=>exact .inr rfl
 | false=>
  left;by_cases a:p.kind=11
  .exact a
  .have:(p.kind==11)=false:=by simpa using a
   rw[Ab.solid_eq,b,d.cases0 b,d.parts0 this] at c;simp[AK,Dl] at c
structure KN (p:Ab):Prop where
 bare:AJ p.kind=true->p.text=[]/\p.style=[]
 nodup:AJ p.kind=true->(p.cases.map (·.1)).Nodup
theorem To(ps:List Ab):∀d c b,AG ps d c b=true->Ax KN ps:=by
 refine Bs (P:=λp=>∀d c,p.formedB d c=true->p.all KN)
  (Q:=λps=>∀d c b,AG ps d c b=true->Ax KN ps)
  (R:=λcs=>∀k d c a,Bq cs k d c a=true->Bl KN cs/\(cs.map (·.1)).Nodup/\∀x∈cs.map (·.1),x∉a) ?_ ?_ ?_ ?_ ?_ ps
 .intro p o l d c h;rw[p.formedB_eq] at h;rw[p.all_eq];cases f:p.kind==11 with
  | true=>
   have i:AJ p.kind=false:=by
    have:p.kind=11:=by simpa using f
    rw[this];rfl
   rw[f,if_pos rfl,Bool.and_eq_true] at h;obtain⟨e,j⟩:=h;unfold I5 at e;simp at e;have s:p.cases=[]:=by simpa using e.2
   refine⟨⟨λg=>(by rw[i] at g;cases g),λg=>(by rw[i] at g;cases g)⟩,?_,l _ _ _ j⟩;rw[s];simp only[Bl]
  | false=>
   rw[f,if_neg (by simp)] at h;cases i:AJ p.kind with
   | true=>
    rw[i,if_pos rfl,Bool.and_eq_true] at h;obtain⟨e,j⟩:=h;unfold G7 at e;simp at e;have hp:p.parts=[]:=by simpa using e.1.1.2
    obtain⟨m,a2,_⟩:=o _ _ _ _ j;refine⟨⟨λ_=>⟨e.1.1.1.1.2,e.1.1.1.2⟩,λ_=>a2⟩,m,?_⟩;rw[hp];simp only[Ax]
   | false=>
    rw[i,if_neg (by simp)] at h;obtain⟨q,r,z⟩:=GN (JC f i h);refine⟨⟨λg=>(by rw[i] at g;cases g),λg=>(by rw[i] at g;cases g)⟩,?_,?_⟩
    .rw[q i];simp only[Bl]
    .rw[r f];simp only[Ax]
 .intro d c b _;simp only[Ax]
 .intro p ps hp l d c b h;rw[By,Bool.and_eq_true,Bool.and_eq_true] at h;rw[A9];grind
 .intro k d c a h;exact⟨by simp only[Bl],List.nodup_nil,λx u=>(by cases u)⟩
 .intro x cs l o k d c a h;rw[Ce,Bool.and_eq_true,Bool.and_eq_true] at h;obtain⟨A,e,j⟩:=h;obtain⟨m,a2,a3⟩:=o _ _ _ _ j;have B:a.contains x.1=false:=by grind
  have t:x.1∉a:=by grind
  rw[AP];refine⟨⟨l _ _ _ e,m⟩,?_,λy v=>?_⟩
  .rw[List.map_cons,List.nodup_cons];grind
  .rw[List.map_cons] at v;grind
theorem NH{ps:List Ab}(h:Cv ps=true):Ax KN ps:=by unfold Cv at h;rw[Bool.and_eq_true,Bool.and_eq_true] at h;exact To ps _ _ _ h.1.1
theorem P2(n:Nat):BG n=if n<10 then[UInt8.ofNat (48+n)] else BG (n / 10)++[UInt8.ofNat (48+n % 10)]:=by unfold BG;rw[Lib.decDigits];split<;>rfl
theorem ofNat_toNat{n:Nat}(h:n<256):(UInt8.ofNat n).toNat=n:=by simp_all
theorem Lm{p:Ab}(h:p.all Em)(g:p.all KN)(i:p.solid=false):p.text=[]/\p.style=[]/\((AJ p.kind=true/\p.parts=[])\/(AJ p.kind=false/\(p.kind==11)=true/\p.cases=[])):=by
 have d:=((Ab.all_eq _ _).1 h).1;have f:=((Ab.all_eq _ _).1 g).1;rcases HD h i with c|a
 .have b:(p.kind==11)=true:=by simpa using c
  have e:AJ p.kind=false:=by rw[c];rfl
  exact⟨(d.elem b).1,(d.elem b).2,.inr ⟨e,b,d.cases0 e⟩⟩
 .have b:(p.kind==11)=false:=by
   rcases(Cb _).1 a with h|h|h<;>rw[h]<;>rfl
  exact⟨(f.bare a).1,(f.bare a).2,.inl ⟨a,d.parts0 b⟩⟩

end Go.Ir

namespace Go.Ir
open Go.Proofs
variable{P:Program}{W0:World}{nt n:Nat}{Q:Exit→St→Prop}{env:AB}{σ:Aj}
end Go.Ir

namespace Go.Ir
open Go.Proofs
variable(W0:World)

end Go.Ir

namespace Go.Ir
open Go.Proofs Go.RowKit
variable(W0:World)
def pZ{a:Type}(f:V->Option a):List V->Option (List a)
 | []=>some []
 | v::vs=>match f v with
  | some w=>match pZ f vs with
   | some b=>some (w::b)
   | none=>none
  | none=>none
theorem ND{d:Type}{f:V->Option d}:∀{l:List V} {a:List d},pZ f l=some a->l.length=a.length/\∀(k:Nat) (c:V) (e:d),l[k]?=some c->a[k]?=some e->f c=some e
 | [],a,h=>by cases h;grind
 | v::vs,a,h=>by
  rw[pZ] at h;split at h
  .rename_i w j;split at h
   .rename_i m b;cases h;obtain⟨g,i⟩:=ND b;grind
   .cases h
  .cases h
def d8{a:Type}(f:V->Option a):V->Option (List a)
 | .sl es=>pZ f es
 | .nil=>some []
 | _=>none
def MK{a:Type}(f:V->Option a)(enc:a->V):Prop:=∀v x,f v=some x->HU (λ_=>none) v (enc x)/\(cells (enc x)).length=(cells v).length/\v.ok=true/\(enc x).ok=true
theorem Pu{i:Type}{f:V->Option i}{enc:i->V}(g:MK f enc):MK (d8 f) λl=>.sl (l.map enc):=by
 intro v l h;cases v with
 | sl es=>
  obtain⟨m,e⟩:=ND (f:=f) h;refine⟨.sl _ _ (by simpa using m) (λk c j b a=>?_) (λk c j b a=>?_),rfl,rfl,rfl⟩
  .rw[List.getElem?_map] at a;obtain⟨x,d,rfl⟩:=Option.map_eq_some_iff.1 a;exact(g _ _ (e k c x b d)).1
  .rw[List.getElem?_map] at a;obtain⟨x,d,rfl⟩:=Option.map_eq_some_iff.1 a;exact(g _ _ (e k c x b d)).2
 | nil=>cases h;exact⟨.nil,rfl,rfl,rfl⟩
 | _=>cases h
def Mq:V->Option Aa
 | .s l=>some l
 | _=>none
theorem HH:MK Mq V.s:=by intro v l h;cases v<;>cases h;exact⟨.refl _,rfl,rfl,rfl⟩
def Tp:V->Option Int
 | .i .i64 n=>some n
 | _=>none
theorem Vz:MK Tp (V.i .i64):=by
 intro v n h;unfold Tp at h;split at h
 .cases h;exact⟨.refl _,rfl,rfl,rfl⟩
 .cases h
def Adb(f:V->Option (List Ab)):V->Option Ar
 | .agg [k,ps]=>match Mq k with
  | some k=>match f ps with
   | some ps=>some (k,ps)
   | none=>none
  | none=>none
 | _=>none
def d6:Nat->V->Option Ab
 | 0=>λ_=>none
 | n+1=>λv=>match v with
  | .agg [a,t,m,b,cs,ps]=>(Tp a).bind λa=>(Mq t).bind λt=>(Mq m).bind λm=>(Mq b).bind λb=>(d8 (Adb (d8 (d6 n))) cs).bind λcs=>(d8 (d6 n) ps).bind λps=>some ⟨a,t,m,b,cs,ps⟩
  | _=>none
theorem pN{f:V->Option (List Ab)}(e:MK f λl=>.sl (l.map Ab.enc)):MK (Adb f) Ar.enc:=by
 intro v c h;unfold Adb at h;split at h
 .rename_i k ps;split at h
  .rename_i q g;split at h
   .rename_i i a;cases h;have o:=HH _ _ g;have p:=e _ _ a;rw[Ar.enc_eq];refine⟨.agg _ _ rfl λj c m b d=>?_,rfl,rfl,rfl⟩
    match j with
    | 0=>grind
    | 1=>grind
    | j+2=>simp at b
   .cases h
  .cases h
 .cases h
theorem TV:∀n,MK (d6 n) Ab.enc
 | 0=>λv x h=>by cases h
 | n+1=>by
  intro v p h;have a:=Pu (TV n);have b:=Pu (pN a);unfold d6 at h;split at h
  .obtain⟨B,d,h⟩:=Option.bind_eq_some_iff.1 h;obtain⟨t,e,h⟩:=Option.bind_eq_some_iff.1 h;obtain⟨m,f,h⟩:=Option.bind_eq_some_iff.1 h;obtain⟨C,g,h⟩:=Option.bind_eq_some_iff.1 h;obtain⟨cs,i,h⟩:=Option.bind_eq_some_iff.1 h;obtain⟨ps,k,h⟩:=Option.bind_eq_some_iff.1 h;cases h;have r:=Vz _ _ d;have s:=HH _ _ e;have u:=HH _ _ f;have y:=HH _ _ g;have z:=b _ _ i;have A:=a _ _ k;rw[Ab.enc_eq];refine⟨.agg _ _ rfl λj c q l o=>?_,rfl,rfl,rfl⟩
   match j with
   | 0=>grind
   | 1=>grind
   | 2=>grind
   | 3=>grind
   | 4=>simp_all
   | 5=>simp_all
   | j+6=>simp at l
  .cases h
def Ot:List V->Option V
 | [v]=>(d8 (d6 40) v).bind λps=>bif Nat.ble (Aw ps) 1000000 then some (.i .i64 (Cn ps)) else none
 | _=>none
theorem ZH:AF π W0 (CT 55 Ot):=j7 λargs v h=>by
 unfold Ot at h;split at h
 .rename_i x;obtain⟨ps,f,c⟩:=Option.bind_eq_some_iff.1 h;cases e:Nat.ble (Aw ps) 1000000 with
  | false=>rw[e] at c;cases c
  | true=>
   rw[e] at c;cases c;have i:=Nat.le_of_ble_eq_true e;refine⟨Wx (Ra W0 _ ps (Nat.lt_succ_self _) (by omega)) rfl λk a g d b=>?_,rfl⟩
   match k with
   | 0=>simp at d b;subst d b;exact(Pu (TV 40) _ _ f).1
   | k+1=>simp at d
 .cases h
end Go.Ir

namespace Go.Ir
open Go.Proofs
variable(W0:World)
theorem Al.ownBox{W0:World}{nt n:Nat}{env:AB}{τ:Aj}{rid:Id}{A B:List V}(e sz k:Nat):Al W0 nt ⟨env,(rid,.box (.agg (A++.nil::B)))::τ,n⟩ ⟨env,((n,k),.arr e sz [])::(rid,.box (.agg (A++.arr (n,k)::B)))::τ,n+1⟩:=by
 intro Y a w y;obtain⟨μ,H,I,hp,O,s,m,z⟩:=y;have b:μ (n,k)=none:=hp.bd _ (Nat.le_refl _);have i:=Bw (v:=.slice none 0 0) b;have C:lk ((rid,AX.box (.agg (A++.nil::B)))::τ) rid=some (.box (.agg (A++.nil::B))):=by simp[lk]
 have r:((n,k):Id)≠rid:=by rintro rfl;obtain⟨_,G⟩:=(hp.ents _ _ C).named;rw[b] at G;cases G
 have d:=(hp.more (Nat.le_succ n)).new_ (n':=n+1) (w':=w) (R:=λ_=>False) ⟨rfl,rfl,rfl,Nat.le_refl _,λ_ _ _=>rfl⟩ (λ_ h=>h.elim) (σ1:=(rid,.box (.agg (A++.nil::B)))::τ) (λid e h=>⟨h,λ_ _ h=>h⟩) (id:=(n,k)) (e:=.arr e sz []) (val:=.slice none 0 0) b (Nat.lt_succ_self _) (Nat.le_refl _) (λE N=>by simp[C2] at N)
  ⟨.slice none 0 0,[],Au _ _ _,rfl,World.ownsRow_nil w _ e sz,Nat.zero_le _,(λx U=>by cases U),AR.nil_⟩
 have p:lk (((n,k),AX.arr e sz [])::(rid,.box (.agg (A++.nil::B)))::τ) rid=some (.box (.agg (A++.nil::B))):=by simp[lk,r]
 have f:=d.1.set_ p (w':=w) (e:=.box (.agg (A++.arr (n,k)::B))) ⟨rfl,rfl,rfl,Nat.le_refl _,λ_ _ _=>rfl⟩ (by
  obtain⟨E,vals,t,K,L,M,l⟩:=d.1.ents _ _ p;refine⟨E,vals,t,K,L,M,⟨⟨by have:=l.len;simpa[cells] using this,λj c v g D=>?_⟩,l.one⟩⟩;simp only[cells] at g;by_cases F:j<A.length
  .rw[List.getElem?_append_left F] at g;exact l.at_ j c v (by simp only[cells];rw[List.getElem?_append_left F];exact g) D
  .rw[List.getElem?_append_right (by omega)] at g;cases u:j-A.length with
   | zero=>rw[u] at g;simp only[List.getElem?_cons_zero,Option.some.injEq] at g;subst g;have:=l.at_ j .nil v (by simp only[cells];rw[List.getElem?_append_right (by omega),u];rfl) D;rw[this.nil_inv];exact .arr _ _ (Au _ _ _) rfl
   | succ q=>rw[u] at g;simp only[List.getElem?_cons_succ] at g;exact l.at_ j c v (by simp only[cells];rw[List.getElem?_append_right (by omega),u];exact g) D)
 have S:upd (((n,k),AX.arr e sz [])::(rid,.box (.agg (A++.nil::B)))::τ) rid (.box (.agg (A++.arr (n,k)::B)))=((n,k),.arr e sz [])::(rid,.box (.agg (A++.arr (n,k)::B)))::τ:=by simp[upd,r]
 rw[S] at f;refine⟨_,H,⟨I.size,λX=>(I.at_ X).mono i (λ_ _ h=>h)⟩,f.1,O.trans (d.2.trans f.2),λid o J=>?_,Nat.le_trans m (Nat.le_succ _),z⟩;simp only at m;rw[BS _ _ (by rintro rfl;simp at o;omega)];exact s id o J
theorem UE{n:Nat}(h:n<10):(Utf8.encode (48+(n:Int))).data.toList=[UInt8.ofNat (48+n)]:=by
 have:∀m:_root_.Fin 10,(Utf8.encode (48+((m.1:Nat):Int))).data.toList=[UInt8.ofNat (48+m.1)]:=by decide
 have a:=this ⟨n,h⟩;simp only at a;exact a
theorem kM{n:Int}(a:0<=n)(b:n<2147483648):IntKind.i32.wrap n=n:=by simp only[IntKind.wrap,IntKind.bits,IntKind.signed];simp;omega
theorem M2(n:Nat)(h:n<2^40):(BG n).length<=20:=by unfold BG;rw[Lib.decDigits_length];exact Lib.nDigits_le20 _ (by omega)
theorem AsQ{ps dn a:List Ab}{p:Ab}(b:ps=dn++p::a):(if dn.length<=(dn++[p]).length/\(dn++[p]).length<=ps.length then some (V.sl (List.drop dn.length (List.take (dn++[p]).length (ps.map Ab.enc)))) else none)=some (V.sl [p.enc]):=by rw[if_pos ⟨by simp,by rw[b];simp⟩,b,show dn++p::a=(dn++[p])++a by simp,List.map_append,List.take_append_of_le_length (by simp),List.take_of_length_le (by simp),List.map_append,List.drop_append_of_le_length (by simp)];simp
theorem jW(p:Ab)(a:p.wt<=2^24):An π W0 39 [.sl [p.v]] [] (.b p.solid) []:=by have:=cG W0 _ [p] (Nat.lt_succ_self _) (by rw[Aq,BF];omega);simp only[List.map_cons,List.map_nil,Ab.enc_eq,Do,EE,Bool.and_true] at this;exact this
end Go.Ir
section
namespace Go.Ir
open Go.RowKit Go.Proofs.YtdeldicoigeabaaGreatDoor
def FW(a:Bool)(c:List V):V:=if a then .agg c else c.headD .any
inductive F9 (P:Program):TypeId->List V->Prop where
 | bool (t:TypeId) (b:Bool) (h:P.underlying t=some .bool):F9 P t [.b b]
 | int (t:TypeId) (k:IntKind) (n:Int) (h:P.underlying t=some (.int k)) (hw:(Lit.int k n).wf=true):F9 P t [.i k n]
 | str (t:TypeId) (l:List UInt8) (h:P.underlying t=some .string):F9 P t [.s l]
 | sl (t e:TypeId) (es:List V) (h:P.underlying t=some (.slice e)) (he:∀el∈es,∃c,el=FW ((D9 P e).getD false) c/\cells el=c) (hc:∀el∈es,(cells el).length=P.cellsOf e) (hw:∀el∈es,F9 P e (cells el)):F9 P t [.sl es]
 | st (t:TypeId) (fs:Array Field) (vs:List V) (h:P.underlying t=some (.struct fs)) (hl:vs.length=P.cellsOf t) (hf:∀f∈fs.toList,F9 P f.type ((vs.drop f.offset).take (P.cellsOf f.type))):F9 P t vs
mutual
def B6:V->Nat
 | .s l=>l.length+1
 | .sl es=>Bb es+1
 | .agg cs=>Bb cs
 | _=>1
def Bb:List V->Nat
 | []=>0
 | v::vs=>B6 v+Bb vs
end
theorem Iu(a b:List V):Bb (a++b)=Bb a+Bb b:=by
 induction a with
 | nil=>simp[Bb]
 | cons x a c=>simp[Bb,c];omega
def cA(P:Program):List Field->Nat->Option Nat
 | [],a=>some a
 | f::b,a=>if f.offset=a then cA P b (a+P.cellsOf f.type) else none
def AiB(P:Program)(T:List TypeId):Bool:=T.all λt=>match P.underlying t with
 | some .bool|some (.int _)|some .string=>P.cellsOf t==1
 | some (.slice e)=>P.cellsOf t==1&&T.contains e&&decide (0<P.cellsOf e)
 | some (.struct a)=>a.toList.all (λf=>T.contains f.type)&&cA P a.toList 0==some (P.cellsOf t)
 | _=>false
section
variable{H:Type}{enc:TypeId×Value→H}{P:Program}{w:World}{base:Nat}{spare:Nat→Bool}{held:Bool}{T:List TypeId}
theorem KY{d:DataW H}{a:List (DataW H)}(h:d∈a):Rows.uptoBulk d<=Rows.uptoBulkAll a:=by
 induction a with
 | nil=>cases h
 | cons x a b=>simp only[Rows.uptoBulkAll];grind
theorem KK{μ:Id->Option Value}{Hc:Addr->Option Value}{cs:List Value} :
  ∀(j:List Field) (b c:Nat) (e:List (DataW H)),cA P j b=some c->cs.length=c->e.length=j.length->
   (∀(i:Nat) (f:Field) (d:DataW H),j[i]?=some f->e[i]?=some d->∃vs,AR μ Hc vs ((cs.drop f.offset).take (P.cellsOf f.type))/\F9 P f.type vs/\Bb vs<=Rows.uptoBulk d)->
   b<=c/\∃vs,AR μ Hc vs (cs.drop b)/\(∀pre:List V,pre.length=b->∀f∈j,F9 P f.type (((pre++vs).drop f.offset).take (P.cellsOf f.type)))/\Bb vs<=Rows.uptoBulkAll e
 | [],b,c,e,a,k,g,h=>by simp only[cA,Option.some.injEq] at a;subst a;refine⟨Nat.le_refl _,[],?_,λ_ _ f o=>(by cases o),by simp[Bb]⟩;rw[List.drop_of_length_le (by omega)];exact AR.nil_
 | f::j,b,c,e,a,k,g,h=>by
  simp only[cA] at a;split at a
  .rename_i v;cases e with
   | nil=>simp at g
   | cons d e=>
    obtain⟨u,vs,s,A,B⟩:=KK j _ c e a k (by simpa using g) (λi p r o t=>h (i+1) p r (by simpa using o) (by simpa using t));obtain⟨us,m,y,z⟩:=h 0 f d rfl rfl;rw[v] at m;have x:us.length=P.cellsOf f.type:=by have:=m.len;grind
    refine⟨by omega,us++vs,?_,?_,?_⟩
    .have:=m.append s;rw[<-List.drop_drop,List.take_append_drop] at this;exact this
    .intro pre q p l;rcases List.mem_cons.1 l with rfl|l
     .grind
     grind
    .rw[Iu];simp only[Rows.uptoBulkAll];omega
  .cases a
theorem TB{t:TypeId}{vs:List V}{a:Bool}(b:D9 P t=some a)(h:F9 P t vs):cells (FW a vs)=vs:=by
 cases a with
 | true=>rfl
 | false=>
  cases h with
  | st t c vs h e d=>simp[D9,h,Vv] at b
  | _=>rfl
theorem WZ{t:TypeId}{vs:List V}{a:Bool}(b:D9 P t=some a)(h:F9 P t vs):B6 (FW a vs)=Bb vs:=by
 cases a with
 | true=>simp[FW,B6]
 | false=>
  cases h with
  | st t c vs h e d=>simp[D9,h,Vv] at b
  | _=>simp[FW,Bb]
theorem Aee{μ:Id->Option Value}(hT:AiB P T=true):∀(n:Nat) (t:TypeId) (cs:List Value) (x:DataW H×List MemPlace),t∈T->DataW.trod enc P w base spare held n t cs=some x->Rows.uptoBulk x.1<=1048576->
  ∃vs,AR μ (λo=>w.cell? o) vs cs/\F9 P t vs/\Bb vs<=Rows.uptoBulk x.1:=by
 intro n
 induction n with
 | zero=>intro t cs x _ h;simp[DataW.trod] at h
 | succ n ih=>
  intro t cs x ht h hb;have p:=List.all_eq_true.1 hT t ht;have one:∀{c:V} {v:Value},Ap μ (λo=>w.cell? o) c v->v.oneCell'=true->AR μ (λo=>w.cell? o) [c] [v]:=λhv D=>
   ⟨VRels.cons hv VRels.nil_,λv' aM=>by grind⟩
  cases u:P.underlying t with
  | none=>simp[u] at p
  | some d=>
   cases d<;>simp only[u] at p<;>(try (cases p;done))
   case bool=>
    unfold DataW.trod at h;rw[u] at h
    match cs,h with
    | [.bool b],h=>cases h;exact⟨[.b b],one (.b b) rfl,.bool t b u,by simp[Bb,B6,Rows.uptoBulk]⟩
   case int k=>
    unfold DataW.trod at h;rw[u] at h
    match cs,h with
    | [.int k' m],h=>
     simp only at h;split at h
     .rename_i G;obtain⟨rfl,hw⟩:=G;cases h;exact⟨[.i k' m],one (.i k' m) rfl,.int t k' m u hw,by simp[Bb,B6,Rows.uptoBulk]⟩
     .cases h
   case string=>
    unfold DataW.trod at h;rw[u] at h
    match cs,h with
    | [.string s],h=>
     simp only at h;split at h
     .rename_i hs;cases h;simp only[Rows.uptoBulk] at hb;refine⟨[.s s.data.toList],one ?_ rfl,.str t _ u,by simp[Bb,B6,Rows.uptoBulk]⟩;have:=Ap.s (μ:=μ) (H:=λo=>w.cell? o) s.data.toList (by unfold AO;omega);simpa using this
     .cases h
   case slice e=>
    simp only[Bool.and_eq_true,beq_iff_eq,List.contains_eq_mem,decide_eq_true_eq] at p;obtain⟨⟨aF,O⟩,aA⟩:=p;rcases DataW.trod_slice u h with⟨rfl,rfl⟩|⟨a,len,cap,elems,rest,m,hm,rfl,rfl,hbase,hlc,hcm,hel,helem,_,_⟩
    .exact⟨[.sl []],one (.slE none 0) rfl,.sl t e [] u (λ_ h=>by cases h) (λ_ h=>by cases h) (λ_ h=>by cases h),by simp[Bb,B6,Rows.uptoBulk]⟩
    .cases hm;simp only[Rows.uptoBulk] at hb;have S:=List.all_eq_true.1 hT e O;obtain⟨I,E⟩:∃I,D9 P e=some I:=by
      unfold D9;cases al:P.underlying e with
      | none=>simp[al] at S
      | some d=>exact⟨_,rfl⟩
     have L:∀i,i<len->∃(vs:List V) (g:List Value) (y:DataW H×List MemPlace),elems[i]?=some y/\g.length=P.cellsOf e/\(∀k,k<P.cellsOf e->w.cell? (a.add (i*P.cellsOf e+k))=g[k]?)/\AR μ (λo=>w.cell? o) vs g/\F9 P e vs/\Bb vs<=Rows.uptoBulk y.1:=by
      intro i hi;have D:=helem i hi;have C:i<elems.length:=by omega
      rw[List.getElem?_eq_getElem C] at D;cases r:w.cells? base (a.add (i*P.cellsOf e)) (P.cellsOf e) with
      | none=>rw[r] at D;cases D
      | some g=>
       rw[r] at D;obtain⟨_,hl,F⟩:=World.cells?_some r;have B:elems[i].1∈elems.map (·.1):=List.mem_map.2 ⟨_,List.getElem_mem C,rfl⟩;have:=KY B;obtain⟨vs,Z,r2,r3⟩:=ih e g elems[i] O D (by omega);refine⟨vs,g,elems[i],List.getElem?_eq_getElem C,hl,λk G=>?_,Z,r2,r3⟩;have:=F k G
       rwa [show(a.add (i*P.cellsOf e)).add k=a.add (i*P.cellsOf e+k) from by unfold Addr.add;by_cases hi:i*P.cellsOf e=0<;>by_cases hj:k=0<;>simp[hi,Nat.add_assoc]] at this
     have all:∀j,j<=len->∃(es:List V) (vals:List Value),es.length=j/\vals.length=j*P.cellsOf e/\(∀q∈es,(∃c,q=FW I c/\cells q=c)/\(cells q).length=P.cellsOf e/\F9 P e (cells q))/\AR μ (λo=>w.cell? o) (AN es) vals/\
       (∀(k:Nat) (v:Value),vals[k]?=some v->w.cell? (a.add k)=some v)/\Bb es<=Rows.uptoBulkAll ((elems.map (·.1)).take j):=by
      intro j
      induction j with
      | zero=>intro _;exact⟨[],[],rfl,by simp,λ_ h=>(by cases h),AR.nil_,λk v h=>(by simp at h),by simp[Bb]⟩
      | succ j ao=>
       intro hj;obtain⟨es,vals,g1,g2,J,M,g5,g6⟩:=ao (by omega);obtain⟨vs,g,y,e1,e2,e3,e4,e5,e6⟩:=L j (by omega);have N:cells (FW I vs)=vs:=TB E e5;refine⟨es++[FW I vs],vals++g,by simp[g1],by grind,?_,?_,?_,?_⟩
       .intro q A;rcases List.mem_append.1 A with h'|h'
        .exact J q h'
        .rw[List.mem_singleton.1 h',N];exact⟨⟨vs,rfl,rfl⟩,by rw[e4.len,e2],e5⟩
       .rw[FG];refine M.append ?_;have:AN [FW I vs]=vs:=by simp[AN,N]
        rw[this];exact e4
       .intro k v G;rcases Nat.lt_or_ge k vals.length with C|ag
        .grind
        .rw[List.getElem?_append_right ag] at G;have az:k-vals.length<g.length:=(List.getElem?_eq_some_iff.1 G).1;have:=e3 (k-vals.length) (by omega);rw[G,g2,show j*P.cellsOf e+(k-j*P.cellsOf e)=k by omega] at this;exact this
       .rw[Iu];have ht:(elems.map (·.1)).take (j+1)=(elems.map (·.1)).take j++[y.1]:=by rw[List.take_add_one,List.getElem?_map,e1];rfl
        have ae:∀(a b:List (DataW H)),Rows.uptoBulkAll (a++b)=Rows.uptoBulkAll a+Rows.uptoBulkAll b:=by
         intro a b
         induction a with
         | nil=>simp[Rows.uptoBulkAll]
         | cons x a ih=>simp[Rows.uptoBulkAll,ih];omega
        rw[ht,ae];have:=WZ E e5;simp only[Bb,Rows.uptoBulkAll];omega
     obtain⟨es,vals,g1,g2,J,M,g5,g6⟩:=all len (Nat.le_refl _);have Y:∀(K:List (DataW H)),K.length<=Rows.uptoBulkAll K:=by
      intro K
      induction K with
      | nil=>simp 
      | cons d K ih=>
       have:1<=Rows.uptoBulk d:=by
        cases d<;>(try simp only[Rows.uptoBulk])<;>(try omega)
        rename_i l;cases l<;>simp[Rows.uptoBulk]
       simp only[Rows.uptoBulkAll,List.length_cons];omega
     have ai:=Y (elems.map (·.1));rw[List.length_map,hel] at ai;refine⟨[.sl es],one ?_ rfl,.sl t e es u (by rw[E];exact λq h=>(J q h).1) (λq h=>(J q h).2.1) (λq h=>(J q h).2.2),?_⟩
     .have:=Ap.slC (μ:=μ) (H:=λo=>w.cell? o) es a cap (P.cellsOf e) vals (by omega) (by unfold Bf;omega) (λq A=>(J q A).2.1) M.len M.one g5 M.at_;grind
     .rw[List.take_of_length_le (by simp;omega)] at g6;simp only[Bb,B6,Rows.uptoBulk];omega
   case struct fs=>
    simp only[Bool.and_eq_true,beq_iff_eq] at p;obtain⟨aH,X⟩:=p;obtain⟨xs,m,hm,rfl,r,an,hf⟩:=DataW.trod_struct u h;cases hm;simp only[Rows.uptoBulk] at hb;obtain⟨_,vs,Z,r2,r3⟩:=KK (P:=P) (μ:=μ) (Hc:=λo=>w.cell? o) (cs:=cs) fs.toList 0 (P.cellsOf t) (xs.map (·.1)) X r (by simp[an]) (λi f d aI z=>by
     have U:fs[i]?=some f:=by grind
     have D:=hf i f U;rw[List.getElem?_map] at z;cases hx:xs[i]? with
     | none=>rw[hx] at z;cases z
     | some y=>rw[hx] at z D;cases z;have B:y.1∈xs.map (·.1):=List.mem_map.2 ⟨y,List.mem_of_getElem? hx,rfl⟩;have:=KY B;grind
)
    rw[List.drop_zero] at Z;refine⟨vs,Z,.st t fs vs u (by rw[Z.len,r]) (λf af=>by simpa using r2 [] rfl f af),?_⟩;simp only[Rows.uptoBulk];omega
end
end Go.Ir
end
section
namespace Go.Ir
open Go.RowKit Go.ChangeShapes Go.WideShapes
variable[FV]
section
variable{H:Type}{enc:TypeId×Value→H}{P:Program}{W W':World}
theorem Iv(o:laidOutB P=true)(m:Below W.heap.size W W'){r:Nat->Bool}:∀(g:List TypeId) (vs:List Value) (i:List (DataW H)) (ps:List MemPlace),(∀t∈g,P.readableRec t=true/\t<P.types.size)->
  DataW.TrodAll enc P W 0 (λ_=>true) true g vs i ps->(∀x∈ps,x.block<W.heap.size)->(∀x∈ps,r x.block=true)->DataW.TrodAll enc P W' 0 r true g vs i ps
 | [],vs,i,ps,_,h,_,_=>by obtain⟨rfl,rfl,rfl⟩:=trodAll_nil h;exact trodAll_mk0
 | t::g,vs,i,ps,f,h,b,e=>by obtain⟨v,l,d,j,p,q,rfl,rfl,rfl,s,u⟩:=trodAll_cons h;obtain⟨y,c⟩:=f t (by simp);refine trodAll_cons_mk (WideElems.Trod_stays o y c s (λx a=>m.same (b x (by simp[a]))) (λx a=>e x (by simp[a]))) (Iv o m g l j q (λz k=>f z (by simp[k])) u (λx a=>b x (by simp[a])) (λx a=>e x (by simp[a])))
theorem AgJ{f:Func}{s:ChangeSpec}{c g d e:Bool}{args:Array Value}{l E:List (DataW H)}{a:List MemPlace}{tb:TypeId}
  (M:laidOutB P=true)(C:∀t∈f.params.toList,P.readableRec t=true/\t<P.types.size)(j:f.resultTypes=#[tb])(k:P.underlying tb=some .bool)(D:s.vars=[])
  (z:s.fn H (l++E)={ results:=[.lit (.bool true)],args:=l })
  (u:DataW.Whole enc P f.params.toList s.vars c W args.toList l E a)(y:Below W.heap.size W W'):s.post enc P f c g d e W args (.bool true) W':=by
 have i:∀p∈a,p.block<W.heap.size:=λp hp=>u.lt p hp;have v:=u;obtain⟨p,q,K,F,rfl,O,N⟩:=u;rw[D] at F;obtain⟨rfl,rfl⟩:=trodVars_none F;simp only[List.append_nil] at *;have I:∀x∈p,(λb=>decide (b<W.heap.size)) x.block=true:=λx m=>by simpa using i x m
 have h:∀o:Nat->Bool,(∀x∈p,o x.block=true)->DataW.TrodAll enc P W' 0 o true f.params.toList args.toList l p:=λo B=>Iv M y _ _ _ _ C K i B;have J:∀(b:Nat) (o:Nat->Bool) (G:Bool),DataW.TrodAll enc P W' b o G f.resultTypes.toList ((Value.bool true).resultList f.resultTypes.size) [.lit (.bool true)] []:=by intro b o G;rw[j];exact trodAll_cons_mk (p:=[]) (p':=[]) (shut_bool k _) trodAll_mk0
 refine⟨l,[],p,[],p,[],v,?_,?_,?_,World.keptBut_mono (λx m=>⟨m,.inr (.inl m)⟩) (y.frame _),λ_=>?_⟩
 .grind
 .grind
 .rw[D,List.append_nil,z];rfl
 .refine⟨ok_one j rfl (okWide_bool_mk k _),.lit (.bool true)::l,[],p,⟨p,[],?_,by rw[D];rfl,by simp,?_,?_⟩,λx m _=>m⟩
  .rw[j];exact trodAll_cons_mk (p:=[]) (shut_bool k _) (h _ (λ_ _=>rfl))
  .intro b r hp;have:=i _ hp;have A:=y.frozen (p:=⟨b,r,none⟩) this;rw[A];exact O b r (by simpa using hp)
  .intro L;exact N L
theorem Hp.start(W:World)(n:Nat):Hp W [] n (λ_=>none) (λa=>W.cell? a) W where
 base:=Below.refl _ _
 pins _ _ h:=h
 ents _ _ h:=by simp[lk] at h
 unp bk ho:=by obtain⟨id,e,h,_⟩:=ho;simp[lk] at h
 sep _ _ _ _ _ h:=by simp[lk] at h
 bd _ _:=rfl
theorem Aef{f:FuncId}{args:List V}{vals:List Value}(h:An P W f args [] (.b true) [])(g:VRels (λ_=>none) (λa=>W.cell? a) args vals) :
  Calls P f vals.toArray W λe W'=>e=.returned (.bool true)/\Below W.heap.size W W':=
 (h.run 0 W _ _ vals (Hp.start W 0) g).mono λe W' ⟨val,i,j,n',c,d,hp,_⟩=>⟨by rw[c,d.b_inv],hp.base⟩
end
end Go.Ir
end
section
namespace Go.Ir
open Go.Proofs
section
variable{P:Program}
theorem F9.int_inv{t:TypeId}{k:IntKind}{v:V}(h:F9 P t [v])(a:P.underlying t=some (.int k)):∃n,v=.i k n/\(Lit.int k n).wf=true:=by
 cases h with
 | int _ f n h d=>grind
 | bool _ b h=>rw[a] at h;cases h
 | str _ l h=>rw[a] at h;cases h
 | sl _ e es h _ _ _=>rw[a] at h;cases h
 | st _ c vs h _ _=>rw[a] at h;cases h
theorem F9.str_inv{t:TypeId}{v:V}(h:F9 P t [v])(a:P.underlying t=some .string):∃l,v=.s l:=by
 cases h with
 | int _ f n h d=>rw[a] at h;cases h
 | bool _ b h=>rw[a] at h;cases h
 | str _ l h=>exact⟨l,rfl⟩
 | sl _ e es h _ _ _=>rw[a] at h;cases h
 | st _ c vs h _ _=>rw[a] at h;cases h
theorem F9.sl_inv{t e:TypeId}{v:V}(h:F9 P t [v])(d:P.underlying t=some (.slice e)):∃es,v=.sl es/\(∀a∈es,∃c,a=FW ((D9 P e).getD false) c/\cells a=c)/\(∀a∈es,(cells a).length=P.cellsOf e)/\(∀a∈es,F9 P e (cells a)):=by
 cases h with
 | int _ m n h k=>rw[d] at h;cases h
 | bool _ b h=>rw[d] at h;cases h
 | str _ l h=>rw[d] at h;cases h
 | sl _ e' es h g i j=>grind
 | st _ f vs h _ _=>rw[d] at h;cases h
theorem F9.st_inv{t:TypeId}{c:Array Field}{vs:List V}(h:F9 P t vs)(a:P.underlying t=some (.struct c)):vs.length=P.cellsOf t/\∀f∈c.toList,F9 P f.type ((vs.drop f.offset).take (P.cellsOf f.type)):=by
 cases h with
 | int _ k n h j=>rw[a] at h;cases h
 | bool _ b h=>rw[a] at h;cases h
 | str _ l h=>rw[a] at h;cases h
 | sl _ e' es h e g i=>rw[a] at h;cases h
 | st _ d vs h e g=>grind
end
theorem nH{l:List V}(h:l.length=2):∃a b,l=[a,b]:=by
 match l,h with
 | [a,b],_=>exact⟨a,b,rfl⟩
theorem Asl{l:List V}(h:l.length=6):∃a b c d e f,l=[a,b,c,d,e,f]:=by
 match l,h with
 | [a,b,c,d,e,f],_=>grind
theorem c9:π.cellsOf 9=1:=by kernel_rfl
theorem c3:π.cellsOf 3=1:=by kernel_rfl
theorem Fk:π.cellsOf 22=1:=by kernel_rfl
theorem It:π.cellsOf 57=1:=by kernel_rfl
theorem Jx:π.cellsOf 59=6:=by kernel_rfl
theorem GF:π.cellsOf 56=2:=by kernel_rfl
theorem J0:D9 π 59=some true:=by kernel_rfl
theorem KD:D9 π 56=some true:=by kernel_rfl
theorem eU:∀(N:Nat) (v:V),B6 v<=N->F9 π 22 [v]->∃ps,v=.sl (EW ps)/\Aw ps<=B6 v:=by
 intro N
 induction N with
 | zero=>intro v h;cases v<;>simp[B6] at h<;>intro f<;>obtain⟨es,M,_⟩:=f.sl_inv Tryz.underlying22<;>cases M
 | succ N L=>
  intro v u f;obtain⟨es,rfl,d,r,m⟩:=f.sl_inv Tryz.underlying22;rw[J0] at d;simp only[Option.getD_some] at d;simp only[B6] at u⊢;have g:∀v:V,B6 v<=N->F9 π 57 [v]->∃cs,v=.sl (Gn cs)/\B9 cs<=B6 v:=by
   intro v D f;obtain⟨es,rfl,d,r,m⟩:=f.sl_inv Tryz.underlying57;rw[KD] at d;simp only[Option.getD_some] at d;simp only[B6] at D⊢;have:∃cs,es=Gn cs/\B9 cs<=Bb es:=by
    clear f
    induction es with
    | nil=>exact⟨[],by simp[Gn],by simp[B9]⟩
    | cons q es j=>
     simp only[Bb] at D⊢;obtain⟨cs,g,A⟩:=j (by omega) (λx b=>d x (List.mem_cons_of_mem _ b)) (λx b=>r x (List.mem_cons_of_mem _ b)) (λx b=>m x (List.mem_cons_of_mem _ b));obtain⟨c,rfl,_⟩:=d q (by simp);have a:=m (FW true c) (by simp);have z:cells (FW true c)=c:=rfl;rw[z] at a;obtain⟨o,e⟩:=a.st_inv Tryz.underlying56;rw[GF] at o;obtain⟨X,p,rfl⟩:=nH o;have f0:=e _ (by exact List.mem_cons_self);have l:=e _ (by exact List.mem_cons_of_mem _ List.mem_cons_self);simp only[c9,Fk,List.drop_zero,List.drop_succ_cons,List.take_succ_cons,List.take_zero] at f0 l;obtain⟨k,rfl⟩:=f0.str_inv Tryz.underlying9;have y:B6 (FW true [.s k,p])=k.length+1+B6 p:=by simp[FW,B6,Bb]
     rw[y] at D⊢;obtain⟨ps,rfl,C⟩:=L p (by omega) l;refine⟨(k,ps)::cs,by rw[g];simp[Gn,FW],?_⟩;rw[Ay];simp only;omega
   obtain⟨cs,rfl,f⟩:=this;exact⟨cs,rfl,by omega⟩
  have:∃ps,es=EW ps/\Aw ps<=Bb es:=by
   clear f
   induction es with
   | nil=>exact⟨[],by simp[EW],by simp[Aw]⟩
   | cons q es j=>
    simp only[Bb] at u⊢;obtain⟨ps,B,C⟩:=j (by omega) (λx b=>d x (List.mem_cons_of_mem _ b)) (λx b=>r x (List.mem_cons_of_mem _ b)) (λx b=>m x (List.mem_cons_of_mem _ b));obtain⟨c,rfl,_⟩:=d q (by simp);have a:=m (FW true c) (by simp);have z:cells (FW true c)=c:=rfl;rw[z] at a;obtain⟨o,e⟩:=a.st_inv Tryz.underlying59;rw[Jx] at o;obtain⟨X,p,Z,x3,E,F,rfl⟩:=Asl o;have f0:=e _ (by exact List.mem_cons_self);have l:=e _ (by exact List.mem_cons_of_mem _ List.mem_cons_self);have G:=e _ (by exact List.mem_cons_of_mem _ (List.mem_cons_of_mem _ List.mem_cons_self));have I:=e _ (by exact List.mem_cons_of_mem _ (List.mem_cons_of_mem _ (List.mem_cons_of_mem _ List.mem_cons_self)));have J:=e _ (by exact List.mem_cons_of_mem _ (List.mem_cons_of_mem _ (List.mem_cons_of_mem _ (List.mem_cons_of_mem _ List.mem_cons_self))));have K:=e _ (by exact List.mem_cons_of_mem _ (List.mem_cons_of_mem _ (List.mem_cons_of_mem _ (List.mem_cons_of_mem _ (List.mem_cons_of_mem _ List.mem_cons_self)))));simp only[c9,Fk,c3,It,List.drop_zero,List.drop_succ_cons,List.take_succ_cons,List.take_zero] at f0 l G I J K;obtain⟨k,rfl,Y⟩:=f0.int_inv Tryz.underlying3;obtain⟨t,rfl⟩:=l.str_inv Tryz.underlying9;obtain⟨n,rfl⟩:=G.str_inv Tryz.underlying9;obtain⟨s,rfl⟩:=I.str_inv Tryz.underlying9;have y:B6 (FW true [.i .i64 k,.s t,.s n,.s s,E,F])=1+(t.length+1)+(n.length+1)+(s.length+1)+B6 E+B6 F:=by simp[FW,B6,Bb];omega
    rw[y] at u⊢;obtain⟨cs,rfl,A⟩:=g E (by omega) J;obtain⟨U,rfl,O⟩:=L F (by omega) K;refine⟨⟨k,t,n,s,cs,U⟩::ps,by rw[B];simp[EW,Ab.enc,FW],?_⟩;rw[Aq,Ab.wt_eq];simp only;omega
  obtain⟨ps,rfl,S⟩:=this;exact⟨ps,rfl,by omega⟩
end Go.Ir
end
section
namespace Go.Ir
open Go.Proofs
def F8{a:Type}(w:a->Nat):List a->Nat
 | []=>0
 | x::xs=>w x+F8 w xs
theorem OW{c:Type}{G:V->Prop}(enc:c->V)(w:c->Nat)(b:∀a,G a->∃x,a=enc x/\w x<=B6 a):∀es,(∀a∈es,G a)->∃xs,es=xs.map enc/\F8 w xs<=Bb es:=by
 intro es
 induction es with
 | nil=>intro _;exact⟨[],rfl,by simp[F8]⟩
 | cons e es i=>intro h;obtain⟨xs,d,j⟩:=i λx g=>h x (by simp[g]);obtain⟨x,f,k⟩:=b e (h e (by simp));exact⟨x::xs,by rw[d,f];rfl,by simp only[F8,Bb];omega⟩
section
variable{P:Program}
theorem Hz{k:Type}{t e:TypeId}{v:V}(h:F9 P t [v])(q:P.underlying t=some (.slice e))(p:D9 P e=some true)(enc:k->V)(w:k->Nat)(f:∀c,F9 P e c->∃x,V.agg c=enc x/\w x<=Bb c) :
  ∃xs:List k,v=.sl (xs.map enc)/\F8 w xs+1<=B6 v:=by
 obtain⟨es,rfl,l,r,o⟩:=h.sl_inv q;rw[p] at l;obtain⟨xs,j,s⟩:=OW (G:=λa=>∃c,a=V.agg c/\F9 P e c) enc w (λa ⟨c,b,g⟩=>by
  subst b;obtain⟨x,j,i⟩:=f c g;exact⟨x,j,by simpa[B6] using i⟩) es λa m=>by
  obtain⟨c,b,d⟩:=l a m;have:=o a m;rw[d] at this;exact⟨c,b,this⟩
 exact⟨xs,by rw[j],by simp only[B6];omega⟩
end
end Go.Ir
end
namespace Go.Ir
open Go.Proofs
theorem LR{a:Type}{w:a->Nat}{l:List a}(h:∀x,1<=w x):l.length<=F8 w l:=by
 induction l with
 | nil=>simp 
 | cons y l b=>simp only[F8,List.length_cons];have:=h y;omega
end Go.Ir
section
namespace Go.Ir
mutual
def Ab.rem(b:Aa->Aa->Bool):Ab->Aa->Ab
 | ⟨k,t,c,d,cs,ps⟩,a=>if AJ k then⟨k,t,c,d,El b cs a,ps⟩ else⟨k,t,c,d,cs,CM b ps (a++[47]) 0⟩
def CM(a:Aa->Aa->Bool):List Ab->Aa->Nat->List Ab
 | [],_,_=>[]
 | p::ps,b,n=>if p.solid then p::CM a ps b n else p.rem a (b++BG (n+1))::CM a ps b (n+1)
def El(b:Aa->Aa->Bool):List (Aa×List Ab)->Aa->List (Aa×List Ab)
 | [],_=>[]
 | (k,ps)::cs,a=>if k==Bd||!b a k then(k,CM b ps (a++[47]++k++[47]) 0)::El b cs a else El b cs a
end
theorem Ab.rem_eq(b:Aa->Aa->Bool)(p:Ab)(a:Aa):p.rem b a=if AJ p.kind then{ p with cases:=El b p.cases a } else{ p with parts:=CM b p.parts (a++[47]) 0 }:=by cases p;simp only[Ab.rem]
theorem Ky(a:Aa->Aa->Bool)(b:Aa)(n:Nat):CM a [] b n=[]:=by simp only[CM]
theorem I8(a:Aa->Aa->Bool)(p:Ab)(ps:List Ab)(b:Aa)(n:Nat):CM a (p::ps) b n=if p.solid then p::CM a ps b n else p.rem a (b++BG (n+1))::CM a ps b (n+1):=by simp only[CM]
theorem Kn(b:Aa->Aa->Bool)(a:Aa):El b [] a=[]:=by simp only[El]
theorem I7(b:Aa->Aa->Bool)(c:Ar)(cs:List Ar)(a:Aa):El b (c::cs) a=if c.1==Bd||!b a c.1 then(c.1,CM b c.2 (a++[47]++c.1++[47]) 0)::El b cs a else El b cs a:=by obtain⟨k,q⟩:=c;simp only[El]
mutual
def Ab.rrem(b:Aa->Aa->Bool):Ab->Aa->Ab
 | ⟨k,_,c,_,cs,ps⟩,a=>⟨k,[],c,[],Dj b cs a,Cl b ps (a++[47]) 0⟩
def Cl(a:Aa->Aa->Bool):List Ab->Aa->Nat->List Ab
 | [],_,_=>[]
 | p::ps,b,n=>if p.solid then p::Cl a ps b n else p.rrem a (b++BG (n+1))::Cl a ps b (n+1)
def Dj(b:Aa->Aa->Bool):List (Aa×List Ab)->Aa->List (Aa×List Ab)
 | [],_=>[]
 | (k,ps)::cs,a=>if k==Bd||!b a k then(k,Cl b ps (a++[47]++k++[47]) 0)::Dj b cs a else Dj b cs a
end
theorem Ab.rrem_eq(b:Aa->Aa->Bool)(p:Ab)(a:Aa):p.rrem b a=⟨p.kind,[],p.name,[],Dj b p.cases a,Cl b p.parts (a++[47]) 0⟩:=by cases p;simp only[Ab.rrem]
theorem IA(a:Aa->Aa->Bool)(b:Aa)(n:Nat):Cl a [] b n=[]:=by simp only[Cl]
theorem KF(a:Aa->Aa->Bool)(p:Ab)(ps:List Ab)(b:Aa)(n:Nat):Cl a (p::ps) b n=if p.solid then p::Cl a ps b n else p.rrem a (b++BG (n+1))::Cl a ps b (n+1):=by simp only[Cl]
theorem II(b:Aa->Aa->Bool)(a:Aa):Dj b [] a=[]:=by simp only[Dj]
theorem KX(b:Aa->Aa->Bool)(c:Ar)(cs:List Ar)(a:Aa):Dj b (c::cs) a=if c.1==Bd||!b a c.1 then(c.1,Cl b c.2 (a++[47]++c.1++[47]) 0)::Dj b cs a else Dj b cs a:=by obtain⟨k,q⟩:=c;simp only[Dj]
theorem AjH(e:Aa->Aa->Bool)(ps:List Ab):Ax Em ps->Ax KN ps->∀f n,Cl e ps f n=CM e ps f n:=by
 refine Bs (P:=λp=>p.all Em->p.all KN->p.solid=false->∀d,p.rrem e d=p.rem e d) (Q:=λps=>Ax Em ps->Ax KN ps->∀f n,Cl e ps f n=CM e ps f n) (R:=λcs=>Bl Em cs->Bl KN cs->∀d,Dj e cs d=El e cs d) ?_ ?_ ?_ ?_ ?_ ps
 .intro p m h a b o d;obtain⟨r,l,g⟩:=Lm a b o;rw[p.all_eq] at a b;have j:=m a.2.1 b.2.1;have i:=h a.2.2 b.2.2;rw[p.rrem_eq,p.rem_eq];obtain⟨k,t,s,u,cs,q⟩:=p;simp only at r l g j i⊢;subst r l;rcases g with⟨g,rfl⟩|⟨g,_,rfl⟩
  .rw[g,if_pos rfl,j,IA]
  .rw[g,if_neg (by simp),i,II]
 .intro _ _ f n;rw[Ky,IA]
 .intro p ps hp h a b f n;rw[A9] at a b;rw[I8,KF,h a.2 b.2,h a.2 b.2];cases o:p.solid with
  | true=>rfl
  | false=>simp only[Bool.false_eq_true,if_false];rw[hp a.1 b.1 o]
 .intro _ _ d;rw[Kn,II]
 .intro c cs h m a b d;rw[AP] at a b;rw[I7,KX,h a.1 b.1,m a.2 b.2]
def ES(l:List (Aa×Aa))(a k:Aa):Bool:=l.any λf=>f.1==a&&f.2==k
theorem L7(a k:Aa):ES [] a k=false:=rfl
theorem Ja(f:Aa×Aa)(l:List (Aa×Aa))(a k:Aa):ES (f::l) a k=(f.1==a&&f.2==k||ES l a k):=rfl
theorem nX(l m:List (Aa×Aa))(a k:Aa):ES (l++m) a k=(ES l a k||ES m a k):=by unfold ES;rw[List.any_append]
def J6(S:List (Aa×Aa))(f:Aa×Aa):List (Aa×Aa):=if ES S f.1 f.2 then S else S++[f]
theorem rI(S:List (Aa×Aa))(f:Aa×Aa)(a k:Aa):ES (J6 S f) a k=(ES S a k||f.1==a&&f.2==k):=by
 unfold J6;split
 .rename_i h;cases b:(f.1==a&&f.2==k) with
  | false=>rw[Bool.or_false]
  | true=>simp only[Bool.and_eq_true,beq_iff_eq] at b;rw[<-b.1,<-b.2,h];rfl
 .rw[nX,Ja,L7,Bool.or_false]
theorem aH(a k:Aa):∀(l S:List (Aa×Aa)),ES (l.foldl J6 S) a k=(ES S a k||ES l a k):=by
 intro l
 induction l with
 | nil=>intro S;rw[L7,Bool.or_false];rfl
 | cons f l b=>intro S;rw[List.foldl_cons,b,rI,Ja,Bool.or_assoc]
end Go.Ir
end
namespace Go.Ir
open Go.Proofs
variable{P:Program}{W0:World}{nt n:Nat}{Q:Exit→St→Prop}{env:AB}{σ:Aj}
def cY:IC:=sQ (.block 1 (oS [m1 14 0,m1 15 7,iA 16 14 15 28 2,fA 17 16 0,l1 18 17,m1 19 1,bT 20 .eql 18 19,m1 21 20,BX 22 21 0,BX 23 21 7,gT 24 21 (.iaddr (.t 22) (.t 23) 28 2),D0 25 21 24 1,Dm 26 21 25,BX 27 21 2,gT 28 21 (.bin .eql (.t 26) (.t 27)),pA 29 21 28] [0,1,2,7,29] (cD 29 (oR [mC 6 (.b true)] [6]) .skip))) (oP [m1 12 7,bZ 13 .add 12 1,m1 7 13] [0,1,2,7])
def tT:IC:=sQ (oS [mZ 7 0] [0,1,2,7] (.block 0 (.loop (sQ (oS [m1 8 7,m1 9 0,nL 10 9,bT 11 .lss 8 10] [0,1,2,7,11] (cD 11 .skip (.exit 0))) cY)))) (oR [mC 6 (.b false)] [6])
def yK:IC:=oS [mC 6 (.b false)] [0,1,2] tT
@[push_cast]def Au8:List R:=[.t 6]
@[push_cast]def Axz:=AL cY.eq_1<|AL tT.eq_1<|AZ yK.eq_1
theorem Amo:AD π 41 30 yK Au8=true:=by kernel_rfl
def Aad:IC:=oR [m1 9 0,bZ 10 .quo 9 10,q1 11 40 10,m1 12 0,bZ 13 .rem 12 10,o1 14 (.bin .add (ci 48) (.t 13)),o1 15 (.cvi .i32 (.t 14)),o1 16 (.pu .itos [.t 15]),bT 17 .add 11 16,m1 2 17] [2]
def yC:IC:=sQ (oS [m1 3 0,bZ 4 .lss 3 10] [0,4] (cD 4 (oR [m1 5 0,o1 6 (.bin .add (ci 48) (.t 5)),o1 7 (.cvi .i32 (.t 6)),o1 8 (.pu .itos [.t 7]),m1 2 8] [2]) .skip)) Aad
def yQ:IC:=oS [mC 2 (.s [])] [0] yC
@[push_cast]def Asn:List R:=[.t 2]
@[push_cast]def Awf:=AL Aad.eq_1<|AL yC.eq_1<|AZ yQ.eq_1
theorem wW:AD π 40 18 yQ Asn=true:=by kernel_rfl
def f9:IC:=.ops [fA 72 12 4,l1 73 72,fA 74 14 0,l1 75 74,fA 76 14 1,l1 77 76,m1 78 11,bC 79 .add 78 (.s [47]),fA 80 14 0,l1 81 80,bT 82 .add 79 81,bC 83 .add 82 (.s [47]),m1 84 2,q3 85 17 77 83 84,o1 86 (.build [.s [],.nil] [(0,1,.t 75),(1,1,.t 85)]),o1 87 (.msl false 56 2 [.t 86]),o1 88 (.app (.t 73) (.t 87) 56 2),fA 89 12 4,sT 89 88 1] [0,1,2,7,8,9,10,11,12,13] [[0,1],[2,3],[4,5],[6,7],[8,9],[7,10],[9,10],[10,11],[5,13],[11,13],[12,13],[3,14],[13,14],[14,15],[1,16],[3,14,15,16],[5,13,16],[9,10,11,13,16],[15,16],[1,18],[3,18],[5,18],[9,18],[16,18],[17,18]]
def YY:IC:=oS [fA 61 14 0,l1 62 61,bC 63 .eql 62 (.s [111,116,104,101,114]),m1 64 63,B0 65 64 2,B0 66 64 11,C4 67 64 14 0,C3 68 64 67,gF 69 64 (.call 41 [.t 65,.t 66,.t 68]),gF 70 64 (.not (.t 69)),pO 71 64 70] [0,1,2,7,8,9,10,11,12,13,14,71] (cD 71 f9 .skip)
def cN:IC:=sQ (.block 3 (oS [fA 56 10 4,l1 57 56,m1 58 13,iA 59 57 58 56 2,lA 60 59 2,o1 14 (.alloc (.agg [.s [],.nil])),sT 14 60 2] [0,1,2,7,8,9,10,11,12,13,14] YY)) (oP [m1 54 13,bZ 55 .add 54 1,m1 13 55] [0,1,2,7,8,9,10,11,12,13])
def Sq:IC:=sQ (oS [m1 49 13,fA 50 10 4,l1 51 50,nL 52 51,bT 53 .lss 49 52] [0,1,2,7,8,9,10,11,12,13,53] (cD 53 .skip (.exit 2))) cN
def bB:IC:=sQ (.ops [fA 38 10 0,l1 39 38,fA 40 10 2,l1 41 40,fA 42 10 5,l1 43 42,m1 44 11,bC 45 .add 44 (.s [47]),m1 46 2,q3 47 17 43 45 46,o1 48 (.build [.i .i64 0,.s [],.s [],.s [],.nil,.nil] [(0,1,.t 39),(2,1,.t 41),(5,1,.t 47)]),o1 12 (.alloc (.agg [.i .i64 0,.s [],.s [],.s [],.nil,.nil])),sT 12 48 6] [0,1,2,7,8,9,10,11,12] [[0,1],[2,3],[4,5],[6,7],[5,9],[7,9],[8,9],[1,10],[3,10],[9,10],[1,12],[3,12],[5,12],[10,12],[11,12]]) (sQ (oS [mZ 13 0] [0,1,2,7,8,9,10,11,12,13] (.block 2 (.loop Sq))) (.wk (oP [lA 90 12 6,sT 10 90 6] [0,1,2,7,8,9,10])))
def ZB:IC:=cD 31 (oS [m1 32 8,bZ 33 .add 32 1,m1 8 33] [0,1,2,7,8,9,10] (oS [m1 34 1,m1 35 8,q1 36 40 35,bT 37 .add 34 36,m1 11 37] [0,1,2,7,8,9,10,11] bB)) .skip
def aC:IC:=sQ (oS [m1 25 0,m1 26 9,m1 27 9,bZ 28 .add 27 1,o1 29 (.slL (.t 25) (some (.t 26)) (some (.t 28)) 6),q1 30 39 29,nT 31 30] [0,1,2,7,8,9,10,31] ZB) (oP [m1 91 7,lA 92 10 6,o1 93 (.msl false 59 6 [.t 92]),o1 94 (.app (.t 91) (.t 93) 59 6),m1 7 94] [0,1,2,7,8,9])
def Y1:IC:=sQ (.block 1 (oS [m1 21 0,m1 22 9,iA 23 21 22 59 6,lA 24 23 6,o1 10 (.alloc (.agg [.i .i64 0,.s [],.s [],.s [],.nil,.nil])),sT 10 24 6] [0,1,2,7,8,9,10] aC)) (oP [m1 19 9,bZ 20 .add 19 1,m1 9 20] [0,1,2,7,8,9])
def Aao:IC:=sQ (oS [mZ 9 0] [0,1,2,7,8,9] (.block 0 (.loop (sQ (oS [m1 15 9,m1 16 0,nL 17 16,bT 18 .lss 15 17] [0,1,2,7,8,9,18] (cD 18 .skip (.exit 0))) Y1)))) (oR [m1 95 7,m1 6 95] [6])
def zV:IC:=oS [mC 6 .nil] [0,1,2] (oS [mC 7 .nil] [0,1,2,7] (oS [mZ 8 0] [0,1,2,7,8] Aao))
@[push_cast]def Asa:List R:=[.t 6]
@[push_cast]def Axl:=AL f9.eq_1<|AL YY.eq_1<|AL cN.eq_1<|AL Sq.eq_1<|AL bB.eq_1<|AL ZB.eq_1<|AL aC.eq_1<|AL Y1.eq_1<|AL Aao.eq_1<|AZ zV.eq_1
theorem AhY:AD π 17 96 zV Asa=true:=by kernel_rfl
def Ajs:IC:=sQ (oS [m1 6 0,q1 7 16 6,nT 8 7] [0,1,8] (cD 8 (oR [mC 4 .nil,mZ 5 1] [4,5]) .skip)) (oR [m1 9 0,m1 10 1,o1 11 (.call 17 [.t 9,.c (.s []),.t 10]),m1 4 11,mZ 5 0] [4,5])
def Ahs:IC:=oS [mC 4 .nil,mZ 5 0] [0,1] Ajs
@[push_cast]def Hr:List R:=[.t 4,.t 5]
@[push_cast]def Mv:=AL Ajs.eq_1<|AZ Ahs.eq_1
theorem Am3:AD π 7 12 Ahs Hr=true:=by kernel_rfl
def Y3:IC:=oS [fA 38 10 5,l1 39 38,m1 40 11,bC 41 .add 40 (.s [47]),m1 42 2,o1 43 (.callr 15 [.t 39,.t 41,.t 42]),fA 44 10 5,sT 44 43 1] [1,2,7,8,10,15,16,17] (oS [m1 45 7,lA 46 10 6,o1 47 (.msl false 59 6 [.t 46]),o1 48 (.app (.t 45) (.t 47) 59 6),m1 7 48] [1,2,7,8,15,16,17] (.exit 1))
def XV:IC:=.ops [m1 68 12,fA 69 14 0,l1 70 69,fA 71 14 1,l1 72 71,m1 73 11,bC 74 .add 73 (.s [47]),fA 75 14 0,l1 76 75,bT 77 .add 74 76,bC 78 .add 77 (.s [47]),m1 79 2,o1 80 (.callr 15 [.t 72,.t 78,.t 79]),o1 81 (.build [.s [],.nil] [(0,1,.t 70),(1,1,.t 80)]),o1 82 (.msl false 56 2 [.t 81]),o1 83 (.app (.t 68) (.t 82) 56 2),m1 12 83] [1,2,7,8,10,11,12,15,16,17,50,51,52] [[1,2],[3,4],[5,6],[7,8],[6,9],[8,9],[9,10],[4,12],[10,12],[11,12],[2,13],[12,13],[13,14],[0,15],[2,13,14,15],[4,12,15],[8,9,10,12,15],[12,15],[14,15],[0,16],[15,16]]
def fO:IC:=oS [fA 56 14 0,l1 57 56,bC 58 .eql 57 (.s [111,116,104,101,114]),m1 59 58,B0 60 59 2,B0 61 59 11,C4 62 59 14 0,C3 63 59 62,gF 64 59 (.build [.s [],.s []] [(0,1,.t 61),(1,1,.t 63)]),gF 65 59 (.rdm (.mget (.st [(0,.str),(1,.str)]) (.b false) false) (.t 60) [.t 64]),gF 66 59 (.not (.t 65)),pO 67 59 66] [1,2,7,8,10,11,12,14,15,16,17,50,51,52,67] (cD 67 XV .skip)
def YL:IC:=sQ (.block 3 (oS [iA 54 50 52 56 2,lA 55 54 2,o1 14 (.alloc (.agg [.s [],.nil])),sT 14 55 2] [1,2,7,8,10,11,12,14,15,16,17,50,51,52] fO)) (oP [bZ 84 .add 52 1,m1 52 84] [1,2,7,8,10,11,12,15,16,17,50,51,52])
def Ts:IC:=oS [bT 53 .lss 52 51] [1,2,7,8,10,11,12,15,16,17,50,51,52,53] (sQ (cD 53 .skip (.exit 2)) YL)
def dD:IC:=sQ (oS [fA 49 10 4,l1 50 49,nL 51 50,mZ 52 0] [1,2,7,8,10,11,12,15,16,17,50,51,52] (.block 2 (.loop Ts))) (sQ (.wk (oP [m1 85 12,fA 86 10 4,sT 86 85 1] [1,2,7,8,10,15,16,17])) (oP [m1 87 7,lA 88 10 6,o1 89 (.msl false 59 6 [.t 88]),o1 90 (.app (.t 87) (.t 89) 59 6),m1 7 90] [1,2,7,8,15,16,17]))
def Yr:IC:=sQ (oS [fA 34 10 0,l1 35 34,q1 36 35 35,nT 37 36] [1,2,7,8,10,11,15,16,17,37] (cD 37 Y3 .skip)) (oS [mC 12 .nil] [1,2,7,8,10,11,12,15,16,17] dD)
def dC:IC:=oS [m1 28 8,bZ 29 .add 28 1,m1 8 29] [1,2,7,8,10,15,16,17] (oS [m1 30 1,m1 31 8,q1 32 34 31,bT 33 .add 30 32,m1 11 33] [1,2,7,8,10,11,15,16,17] Yr)
def jP:IC:=sQ (oS [lA 21 10 6,o1 22 (.msl false 59 6 [.t 21]),q1 23 33 22] [1,2,7,8,10,15,16,17,23] (cD 23 (oS [m1 24 7,lA 25 10 6,o1 26 (.msl false 59 6 [.t 25]),o1 27 (.app (.t 24) (.t 26) 59 6),m1 7 27] [1,2,7,8,15,16,17] (.exit 1)) .skip)) dC
def Y9:IC:=sQ (.block 1 (oS [iA 19 15 17 59 6,lA 20 19 6,o1 10 (.alloc (.agg [.i .i64 0,.s [],.s [],.s [],.nil,.nil])),sT 10 20 6] [1,2,7,8,10,15,16,17] jP)) (oP [bZ 91 .add 17 1,m1 17 91] [1,2,7,8,15,16,17])
def y8:IC:=sQ (oS [m1 15 0,nL 16 15,mZ 17 0] [1,2,7,8,15,16,17] (.block 0 (.loop (oS [bT 18 .lss 17 16] [1,2,7,8,15,16,17,18] (sQ (cD 18 .skip (.exit 0)) Y9))))) (oR [m1 92 7,m1 6 92] [6])
def tR:IC:=oS [mC 6 .nil] [0,1,2] (oS [mC 7 .nil] [0,1,2,7] (oS [mZ 8 0] [0,1,2,7,8] y8))
@[push_cast]def Asu:List R:=[.t 6]
@[push_cast]def Awn:=AL Y3.eq_1<|AL XV.eq_1<|AL fO.eq_1<|AL YL.eq_1<|AL Ts.eq_1<|AL dD.eq_1<|AL Yr.eq_1<|AL dC.eq_1<|AL jP.eq_1<|AL Y9.eq_1<|AL y8.eq_1<|AZ tR.eq_1
theorem AiE:AD π 15 93 tR Asu=true:=by kernel_rfl
def vZ:IC:=sQ (.block 1 (oS [iA 17 13 15 29 2,lA 18 17 2,o1 8 (.alloc (.agg [.s [],.s []])),sT 8 18 2] [0,6,8,13,14,15] (oP [m1 19 6,lA 20 8 2,o0 (.wrm (.mput (.st [(0,.str),(1,.str)])) (.t 19) [.t 20,.c (.b true)])] [0,6,13,14,15]))) (oP [bZ 21 .add 15 1,m1 15 21] [0,6,13,14,15])
def yV:IC:=sQ (oS [m1 13 1,nL 14 13,mZ 15 0] [0,6,13,14,15] (.block 0 (.loop (oS [bT 16 .lss 15 14] [0,6,13,14,15,16] (sQ (cD 16 .skip (.exit 0)) vZ))))) (oR [m1 22 0,m1 23 6,o1 24 (.calls 15 [.t 22,.c (.s []),.t 23]),m1 4 24,mZ 5 0] [4,5])
def AlT:IC:=sQ (oS [m1 9 0,q1 10 14 9,nT 11 10] [0,1,11] (cD 11 (oR [mC 4 .nil,mZ 5 1] [4,5]) .skip)) (oS [o1 12 (.mkm .mkmap []),m1 6 12] [0,1,6] yV)
def AhX:IC:=oS [mC 4 .nil,mZ 5 0] [0,1] AlT
@[push_cast]def Ii:List R:=[.t 4,.t 5]
@[push_cast]def Lx:=AL vZ.eq_1<|AL yV.eq_1<|AL AlT.eq_1<|AZ AhX.eq_1
theorem AkM:AD π 6 25 AhX Ii=true:=by kernel_rfl
def z8:IC:=sQ (.block 1 (sQ (oS [m1 27 1,m1 28 6,iA 29 27 28 28 2,fA 30 29 0,l1 31 30,nS 32 31,bZ 33 .gtr 32 200,m1 34 33,B0 35 34 1,B0 36 34 6,gF 37 34 (.iaddr (.t 35) (.t 36) 28 2),C4 38 34 37 1,C3 39 34 38,gF 40 34 (.lenS (.t 39)),EZ 41 34 .gtr 40 60,pO 42 34 41] [0,1,5,6,42] (cD 42 (oR [mC 4 (.b true)] [4]) .skip)) (oP [m1 43 5,m1 44 1,m1 45 6,iA 46 44 45 28 2,lA 47 46 2,o1 48 (.msl false 29 2 [.t 47]),o1 49 (.app (.t 43) (.t 48) 29 2),m1 5 49] [0,1,5,6]))) (oP [m1 25 6,bZ 26 .add 25 1,m1 6 26] [0,1,5,6])
def xZ:IC:=oS [m1 57 0,m1 58 1,q2 59 7 57 58,m1 56 59,xT 60 56 0,xT 61 56 1,m1 9 60,m1 10 61] [7,8,9,10] (oR [m1 62 8,m1 63 10,bT 64 .eql 62 63,m1 65 64,BX 66 65 7,BX 67 65 9,gT 68 65 (.call 8 [.t 66,.t 67]),pA 69 65 68,m1 4 69] [4])
def Aaz:IC:=sQ (oS [mZ 6 0] [0,1,5,6] (.block 0 (.loop (sQ (oS [m1 21 6,m1 22 1,nL 23 22,bT 24 .lss 21 23] [0,1,5,6,24] (cD 24 .skip (.exit 0))) z8)))) (sQ (.wk (oP [m1 51 0,m1 52 5,q2 53 6 51 52,m1 50 53,xT 54 50 0,xT 55 50 1,m1 7 54,m1 8 55] [0,1,7,8])) xZ)
def Ana:IC:=sQ (oS [m1 13 0,q1 14 5 13,nT 15 14,m1 16 15,B0 17 16 1,gF 18 16 (.lenL (.t 17)),EZ 19 16 .gtr 18 60,pO 20 16 19] [0,1,20] (cD 20 (oR [mC 4 (.b true)] [4]) .skip)) (oS [mC 5 .nil] [0,1,5] Aaz)
def Aoq:IC:=oS [mC 4 (.b false)] [0,1] (sQ (oS [o1 11 (.call 4 []),nT 12 11] [0,1,12] (cD 12 (oR [mC 4 (.b false)] [4]) .skip)) Ana)
@[push_cast]def Ld:List R:=[.t 4]
@[push_cast]def LQ:=AL z8.eq_1<|AL xZ.eq_1<|AL Aaz.eq_1<|AL Ana.eq_1<|AZ Aoq.eq_1
theorem Ax1:AD π 3 70 Aoq Ld=true:=by kernel_rfl
end Go.Ir

namespace Go.Ir
open Go.Proofs
variable(W0:World)
theorem F4{a b:Id×AX}{σ:Aj}(h:lk (a::σ) b.1=none):∀i e,lk (a::σ) i=some e->lk (a::b::σ) i=some e:=by
 intro i e c;obtain⟨j,g⟩:=a;obtain⟨f,k⟩:=b;by_cases d:f=i
 .subst d;rw[h] at c;cases c
 .simp only[lk] at c⊢;rw[if_neg d];exact c
def Fg(f:Aa×Aa):V:=.agg [.s f.1,.s f.2]
theorem eH(l:List (Aa×Aa))(k key:Aa)(r:l.length<=2^40):An π W0 41 [.sl (l.map Fg),.s k,.s key] [] (.b (ES l k key)) []:=by
 generalize hS:ES l k key=S;refine Ak (vs:=[.b S]) Amo (by simp) (by simp) λn0 p=>?_;clear p;simp only[push_cast,seval,reduceEqDiff];intros;refine As l.length (Inv:=λm q=>∃dn a n,l=dn++a/\m=a.length/\ES a k key=S/\q=⟨[(0,.sl (l.map Fg)),(1,.s k),(2,.s key),(7,.i .i64 dn.length)],[],n⟩) ⟨_,Al.refl,[],l,_,rfl,rfl,hS,rfl⟩ ?_;clear hS;rintro m _ ⟨dn,a,n,j,rfl,e,rfl⟩;cases a with
 | nil=>
  have c:decide ((dn.length:Int)<(l.length:Int))=false:=by rw[j];simp
  rw[L7] at e;subst e;simp only[push_cast,seval,reduceEqDiff,c,List.length_map];intros;exact Af (by simp[get])
 | cons f a=>
  have c:decide ((dn.length:Int)<(l.length:Int))=true:=by rw[j];simp;omega
  have g:=AW j;have d:(l.map Fg)[dn.length]?=some (.agg [.s f.1,.s f.2]):=by rw[j,List.getElem?_map,List.getElem?_append_right (by simp)];simp[Fg]
  rw[Ja] at e;cases h:(f.1==k) with
  | false=>rw[h,Bool.false_and,Bool.false_or] at e;simp only[push_cast,seval,reduceEqDiff,c,d,if_pos g,List.length_map,h,Ac f (dn:=dn) (by omega)];intros;exact⟨_,_,Nat.lt_succ_self _,Al.refl,dn++[f],a,_,by rw[j];simp,rfl,e,rfl⟩
  | true=>
   cases o:(f.2==key) with
   | false=>rw[h,o,Bool.true_and,Bool.false_or] at e;simp only[push_cast,seval,reduceEqDiff,c,d,if_pos g,List.length_map,h,o,Ac f (dn:=dn) (by omega)];intros;exact⟨_,_,Nat.lt_succ_self _,Al.refl,dn++[f],a,_,by rw[j];simp,rfl,e,rfl⟩
   | true=>rw[h,o,Bool.true_and,Bool.true_or] at e;subst e;simp only[push_cast,seval,reduceEqDiff,c,d,if_pos g,List.length_map,h,o,Ac f (dn:=dn) (by omega)];intros;exact Af (by simp[get])
set_option maxHeartbeats 4000000 in
theorem iD:∀(n:Nat),n<2^40->An π W0 40 [.i .i64 n] [] (.s (BG n)) []:=by
 intro n
 induction n using Nat.strongRecOn with
 | ind n u=>
 intro v;have d:=P2 n;have b:IntKind.i64.wrap (48+(n:Int))=48+(n:Int):=wrap64 (by omega) (by omega);generalize hS:BG n=S;rw[hS] at d;by_cases f:n<10
 .rw[if_pos f] at d;have a:decide ((n:Int)<10)=true:=by simp;omega
  have c:IntKind.i32.wrap (48+(n:Int))=48+(n:Int):=kM (by omega) (by omega);have e:=UE f;rw[<-d] at e;refine Ak (vs:=[.s S]) wW (by simp) (by simp) λn0 g=>?_;clear g;simp only[push_cast,seval,reduceEqDiff,a,b,c,e];intros;exact Af (by simp[get,e])
 .rw[if_neg f] at d;have a:decide ((n:Int)<10)=false:=by simp;omega
  have k:=u (n / 10) (by omega) (by omega);have m:(n:Int).tdiv 10=((n / 10:Nat):Int):=rfl;have l:(n:Int).tmod 10=((n % 10:Nat):Int):=rfl;have t:n % 10<10:=Nat.mod_lt _ (by decide);have o:n / 10<2^40:=by omega
  have p:=M2 _ o;generalize n % 10=r at *;generalize n / 10=q at *;have h:IntKind.i64.wrap (q:Int)=(q:Int):=wrap64 (by omega) (by omega);have j:IntKind.i64.wrap (r:Int)=(r:Int):=wrap64 (by omega) (by omega);have b:IntKind.i64.wrap (48+(r:Int))=48+(r:Int):=wrap64 (by omega) (by omega);have c:IntKind.i32.wrap (48+(r:Int))=48+(r:Int):=kM (by omega) (by omega);have e:=UE t;generalize BG q=D at *;refine Ak (vs:=[.s S]) wW (by simp) (by simp) λn0 g=>?_;clear g;simp only[push_cast,seval,reduceEqDiff,a,h,j,b,c,e,m,l,d]
  repeat' (first|(((first|apply Ad|apply Ai|apply Ah)<;>intro _h)<;>simp only[push_cast,seval,reduceEqDiff,_h,a,h,j,b,c,e,m,l,d])|((first|refine Ae (by exact k) ?_|refine F3 (by simp only[List.length_append,List.length_cons,List.length_nil,AO]<;>omega) ?_);simp only[push_cast,seval,reduceEqDiff,a,h,j,b,c,e,m,l,d])|intro _)
  exact Af (by simp[get,d])
set_option maxHeartbeats 4000000 in
theorem Xg(l:List (Aa×Aa))(p:Ab)(d:Aa)(a0 a1 a7 a8 a9:V)(L K:Nat)(R:List Ab)(id:Id)(OE:AX)(m0:Nat)(aw:id.1<L)(aD:L<K)(aF:K<m0)(aC:B9 p.cases<=2^24)(ax:d.length<=2^32)(hl:l.length<=2^40)
  (ag:∀c∈p.cases,c.1.length<=2^32/\An π W0 17 [.sl (c.2.map Ab.enc),.s (d++[47]++c.1++[47]),.sl (l.map Fg)] [] (.sl ((Cl (ES l) c.2 (d++[47]++c.1++[47]) 0).map Ab.enc)) [])(Q:Exit->St->Prop)
  (hQ:∀e n,K<e.1->e.1<n->Q (.exit 2) ⟨[(0,a0),(1,a1),(2,.sl (l.map Fg)),(7,a7),(8,a8),(9,a9),(10,.ref (L,10) 0),(11,.s d),(12,.ref (K,12) 0),(13,.i .i64 p.cases.length),(53,.b false)],[(e,.arr MD 2 ((Dj (ES l) p.cases d).map Ar.enc)),((K,12),.box (.agg [.i .i64 p.kind,.s [],.s p.name,.s [],.arr e,.sl (R.map Ab.enc)])),((L,10),.box p.v),(id,OE)],n⟩) :
  HB π W0 96 Sq Q ⟨[(0,a0),(1,a1),(2,.sl (l.map Fg)),(7,a7),(8,a8),(9,a9),(10,.ref (L,10) 0),(11,.s d),(12,.ref (K,12) 0),(13,.i .i64 0)],[((K,12),.box (.agg [.i .i64 p.kind,.s [],.s p.name,.s [],.nil,.sl (R.map Ab.enc)])),((L,10),.box p.v),(id,OE)],m0⟩:=by
 generalize hS:Dj (ES l) p.cases d=S at hQ;have aA:=Cc p.cases;unfold Ab.v at *;have Y:∀j:Nat,((L,j)=id)=False:=λj=>eq_false λa=>(by have:=congrArg Prod.fst a;(try simp only at this);omega)
 have x:∀j:Nat,(id=(L,j))=False:=λj=>eq_false λa=>of_eq_false (Y j) a.symm;have Z:∀j:Nat,((K,j)=id)=False:=λj=>eq_false λa=>(by have:=congrArg Prod.fst a;(try simp only at this);omega)
 have y:∀j:Nat,(id=(K,j))=False:=λj=>eq_false λa=>of_eq_false (Z j) a.symm;have c3:∀j q:Nat,((L,j)=(K,q))=False:=λj q=>eq_false λa=>(by have:=congrArg Prod.fst a;(try simp only at this);omega)
 have z:∀j q:Nat,((K,q)=(L,j))=False:=λj q=>eq_false λa=>of_eq_false (c3 j q) a.symm;refine As p.cases.length (Inv:=λm st=>∃F cr n e dl,p.cases=F++cr/\m=cr.length/\dl++Dj (ES l) cr d=S/\dl.length<=F.length/\K<e.1/\e.1<n/\st=⟨[(0,a0),(1,a1),(2,.sl (l.map Fg)),(7,a7),(8,a8),(9,a9),(10,.ref (L,10) 0),(11,.s d),(12,.ref (K,12) 0),(13,.i .i64 F.length)],[(e,.arr MD 2 (dl.map Ar.enc)),((K,12),.box (.agg ([.i .i64 p.kind,.s [],.s p.name,.s []]++.arr e::[.sl (R.map Ab.enc)]))),((L,10),.box (.agg [.i .i64 p.kind,.s p.text,.s p.name,.s p.style,.sl (p.cases.map Ar.enc),.sl (p.parts.map Ab.enc)])),(id,OE)],n⟩)
  ⟨_,Al.ownBox (A:=[.i .i64 p.kind,.s [],.s p.name,.s []]) MD 2 99,[],p.cases,m0+1,(m0,99),[],rfl,rfl,hS,by simp,by simp only;omega,by simp only;omega,rfl⟩ ?_
 clear hS;rintro m _ ⟨F,cr,n,e,dl,E,rfl,t,aB,aq,aE,rfl⟩;have d1:∀j:Nat,((L,j)=e)=False:=λj=>eq_false λa=>(by have:=congrArg Prod.fst a;(try simp only at this);omega)
 have B:∀j:Nat,(e=(L,j))=False:=λj=>eq_false λa=>of_eq_false (d1 j) a.symm;have d2:∀j:Nat,((K,j)=e)=False:=λj=>eq_false λa=>(by have:=congrArg Prod.fst a;(try simp only at this);omega)
 have C:∀j:Nat,(e=(K,j))=False:=λj=>eq_false λa=>of_eq_false (d2 j) a.symm;have d3:(id=e)=False:=eq_false λa=>(by have:=congrArg Prod.fst a;(try simp only at this);omega)
 have D:(e=id)=False:=eq_false λa=>of_eq_false (d3) a.symm;cases cr with
 | nil=>
  have f:decide ((F.length:Int)<(p.cases.length:Int))=false:=by rw[E];simp
  have ap:F.length=p.cases.length:=by rw[E];simp
  rw[II,List.append_nil] at t;subst t;simp only[push_cast,seval,reduceEqDiff,f,List.length_map,List.cons_append,List.nil_append,Y,x,Z,y,c3,z,d1,B,d2,C,d3,D];intros;rw[ap];exact hQ _ _ aq (by omega)
 | cons c cr=>
  have f:decide ((F.length:Int)<(p.cases.length:Int))=true:=by rw[E];simp;omega
  have I:=AW E;have av:=Bj (cs:=p.cases) (c:=c) (by rw[E];simp);obtain⟨ay,ah⟩:=ag c (by rw[E];simp);have af:=eH W0 l d c.1 hl;have J:(p.cases.map Ar.enc)[F.length]?=some (.agg [.s c.1,.sl (c.2.map Ab.enc)]):=by rw[E,List.getElem?_map,List.getElem?_append_right (by simp)];simp[Ar.enc_eq]
  rw[KX] at t;generalize Cl (ES l) c.2 (d++[47]++c.1++[47]) 0=RC at *;have X:dl.map Ar.enc++[.agg [.s c.1,.sl (RC.map Ab.enc)]]=(dl++[(c.1,RC)]).map Ar.enc:=by simp[Ar.enc_eq]
  have G:dl.length+1<=Bf:=by unfold Bf;omega
  have u:(c.1==[111,116,104,101,114])=(c.1==Bd):=rfl;have M:∀k j q:Nat,((n+1+k,j)=(K,q))=False:=λk j q=>eq_false λa=>(by have:=congrArg Prod.fst a;(try simp only at this);omega)
  have g:∀k j q:Nat,((K,q)=(n+1+k,j))=False:=λk j q=>eq_false λa=>of_eq_false (M k j q) a.symm;have N:∀k j:Nat,((n+1+k,j)=e)=False:=λk j=>eq_false λa=>(by have:=congrArg Prod.fst a;(try simp only at this);omega)
  have h:∀k j:Nat,(e=(n+1+k,j))=False:=λk j=>eq_false λa=>of_eq_false (N k j) a.symm;have O:∀k j q:Nat,((n+1+k,j)=(L,q))=False:=λk j q=>eq_false λa=>(by have:=congrArg Prod.fst a;(try simp only at this);omega)
  have o:∀k j q:Nat,((L,q)=(n+1+k,j))=False:=λk j q=>eq_false λa=>of_eq_false (O k j q) a.symm;have U:∀k j:Nat,((n+1+k,j)=id)=False:=λk j=>eq_false λa=>(by have:=congrArg Prod.fst a;(try simp only at this);omega)
  have r:∀k j:Nat,(id=(n+1+k,j))=False:=λk j=>eq_false λa=>of_eq_false (U k j) a.symm;cases h1:(c.1==Bd) with
  | true=>
   rw[h1] at u;rw[h1,Bool.true_or,if_pos rfl] at t;simp only[push_cast,seval,reduceEqDiff,f,J,if_pos I,u,List.length_map,List.cons_append,List.nil_append,Y,x,Z,y,c3,z,d1,B,d2,C,d3,D,M,g,N,h,O,o,U,r,X,eq_true G,MD,Ac c (dn:=F) (by omega)]
   repeat' (first|(((first|apply Ad|apply Ai|apply Ah)<;>intro _h)<;>simp only[push_cast,seval,reduceEqDiff,_h,f,J,if_pos I,u,List.length_map,List.cons_append,List.nil_append,Y,x,Z,y,c3,z,d1,B,d2,C,d3,D,M,g,N,h,O,o,U,r,X,eq_true G,MD,Ac c (dn:=F) (by omega)])|((first|refine Ae (by exact ah) ?_|refine F3 (by simp only[List.length_append,List.length_cons,List.length_nil,AO]<;>omega) ?_);simp only[push_cast,seval,reduceEqDiff,f,J,if_pos I,u,List.length_map,List.cons_append,List.nil_append,Y,x,Z,y,c3,z,d1,B,d2,C,d3,D,M,g,N,h,O,o,U,r,X,eq_true G,MD,Ac c (dn:=F) (by omega)])|intro _)
   exact⟨_,_,Nat.lt_succ_self _,Al.drop (F4 (by simp[lk,M,g,N,h,O,o,U,r])) (Nat.le_refl _),F++[c],cr,_,_,dl++[(c.1,RC)],by rw[E];simp,rfl,by rw[<-t];simp,by simp;omega,by(try simp only);omega,by(try simp only);omega,rfl⟩
  | false=>
   rw[h1] at u;rw[h1,Bool.false_or] at t;cases h2:ES l d c.1 with
   | true=>
    rw[h2] at t af;simp only[bq,if_true,if_false,Int.reduceBEq,reduceCtorEq,Bool.not_true] at t;simp only[push_cast,seval,reduceEqDiff,f,J,if_pos I,u,List.length_map,List.cons_append,List.nil_append,Y,x,Z,y,c3,z,d1,B,d2,C,d3,D,M,g,N,h,O,o,U,r,Ac c (dn:=F) (by omega)]
    repeat' (first|(((first|apply Ad|apply Ai|apply Ah)<;>intro _h)<;>simp only[push_cast,seval,reduceEqDiff,_h,f,J,if_pos I,u,List.length_map,List.cons_append,List.nil_append,Y,x,Z,y,c3,z,d1,B,d2,C,d3,D,M,g,N,h,O,o,U,r,Ac c (dn:=F) (by omega)])|((first|refine Ae (by exact af) ?_|refine F3 (by simp only[List.length_append,List.length_cons,List.length_nil,AO]<;>omega) ?_);simp only[push_cast,seval,reduceEqDiff,f,J,if_pos I,u,List.length_map,List.cons_append,List.nil_append,Y,x,Z,y,c3,z,d1,B,d2,C,d3,D,M,g,N,h,O,o,U,r,Ac c (dn:=F) (by omega)])|intro _)
    exact⟨_,_,Nat.lt_succ_self _,Al.drop1 (by simp[lk,M,g,N,h,O,o,U,r]) (Nat.le_refl _),F++[c],cr,_,_,dl,by rw[E];simp,rfl,by rw[<-t],by simp;omega,by(try simp only);omega,by(try simp only);omega,rfl⟩
   | false=>
    rw[h2] at t af;simp only[bq,if_true,if_false,Int.reduceBEq,reduceCtorEq,Bool.not_false] at t;simp only[push_cast,seval,reduceEqDiff,f,J,if_pos I,u,List.length_map,List.cons_append,List.nil_append,Y,x,Z,y,c3,z,d1,B,d2,C,d3,D,M,g,N,h,O,o,U,r,X,eq_true G,MD,Ac c (dn:=F) (by omega)]
    repeat' (first|(((first|apply Ad|apply Ai|apply Ah)<;>intro _h)<;>simp only[push_cast,seval,reduceEqDiff,_h,f,J,if_pos I,u,List.length_map,List.cons_append,List.nil_append,Y,x,Z,y,c3,z,d1,B,d2,C,d3,D,M,g,N,h,O,o,U,r,X,eq_true G,MD,Ac c (dn:=F) (by omega)])|((first|refine Ae (by exact af) ?_|refine Ae (by exact ah) ?_|refine F3 (by simp only[List.length_append,List.length_cons,List.length_nil,AO]<;>omega) ?_);simp only[push_cast,seval,reduceEqDiff,f,J,if_pos I,u,List.length_map,List.cons_append,List.nil_append,Y,x,Z,y,c3,z,d1,B,d2,C,d3,D,M,g,N,h,O,o,U,r,X,eq_true G,MD,Ac c (dn:=F) (by omega)])|intro _)
    exact⟨_,_,Nat.lt_succ_self _,Al.drop (F4 (by simp[lk,M,g,N,h,O,o,U,r])) (Nat.le_refl _),F++[c],cr,_,_,dl++[(c.1,RC)],by rw[E];simp,rfl,by rw[<-t];simp,by simp;omega,by(try simp only);omega,by(try simp only);omega,rfl⟩
set_option maxHeartbeats 4000000 in
theorem RW(l:List (Aa×Aa))(hl:l.length<=2^30):∀(N:Nat) (ps:List Ab) (K:Aa),Aw ps<N->Aw ps<=2^21->K.length+32*Aw ps<=2^32->
  An π W0 17 [.sl (ps.map Ab.enc),.s K,.sl (l.map Fg)] [] (.sl ((Cl (ES l) ps K 0).map Ab.enc)) []:=by
 intro N
 induction N with
 | zero=>intro ps K h;omega
 | succ N ih=>
 intro ps K hN aL aJ;have aA:=C7 ps;generalize hS:Cl (ES l) ps K 0=S;refine Ak (vs:=[.sl (S.map Ab.enc)]) AhY (by simp) (by simp) λn0 ar=>?_;clear ar;simp only[push_cast,seval,reduceEqDiff];intro k1 k2 k3 k4;refine As ps.length (Inv:=λm st=>∃dn f n id o j,ps=dn++f/\m=f.length/\o++Cl (ES l) f K j=S/\o.length<=dn.length/\j<=dn.length/\id.1<n/\st=⟨[(0,.sl (ps.map Ab.enc)),(1,.s K),(2,.sl (l.map Fg)),(7,.arr id),(8,.i .i64 ((j:Nat):Int)),(9,.i .i64 dn.length)],[(id,.arr Lp 6 (o.map Ab.enc))],n⟩) ⟨_,(Al.own (s:=7) (e:=Lp) (sz:=6) (k:=99) rfl).trans (Al.envD (λt=>?_) (Nat.le_refl _)),[],ps,_,_,[],0,rfl,rfl,hS,by simp,by simp,?_,rfl⟩ ?_
 .left;by_cases h3:7=t
  .subst h3;rfl
  .simp[get,h3]
 .simp
 clear hS;rintro m _ ⟨dn,f,n,id,o,j,J,rfl,I,aH,hj,ah,rfl⟩;cases f with
 | nil=>simp only[List.append_nil] at J;subst J;rw[IA,List.append_nil] at I;subst I;simp only[push_cast,seval,reduceEqDiff];intros;exact LF (e:=Lp) (sz:=6) rfl (aI _) (by simp[lk])
 | cons p f=>
  have E:=AW J;have aM:=CC (ps:=ps) (p:=p) (by rw[J];simp);have aK:=p.wt_eq;have G:=jW W0 p (by omega);unfold Ab.v at G;have u:(ps.map Ab.enc)[dn.length]?=some p.enc:=by rw[J,List.getElem?_map,List.getElem?_append_right (by simp)];simp
  have x:decide ((dn.length:Int)<(ps.length:Int))=true:=by rw[J];simp;omega
  have aE:dn.length<ps.length:=by rw[J];simp
  have r:=AsQ J;have g:=Ajd ps;have y:∀k j,((n+1+k,j)=id)=False:=λk j=>eq_false λa=>by rw[<-a] at ah;simp at ah;omega
  have D:∀k j,(id=(n+1+k,j))=False:=λk j=>eq_false λa=>of_eq_false (y k j) a.symm;have C:o.length+1<=Bf:=by unfold Bf;omega
  rw[KF] at I;cases hs:p.solid with
  | true=>
   rw[hs] at G I;simp only[bq,if_true,if_false,Int.reduceBEq,reduceCtorEq] at I;have F:o.map Ab.enc++[p.enc]=(o++[p]).map Ab.enc:=by simp
   rw[Ab.enc_eq p] at F;simp only[push_cast,seval,reduceEqDiff,x,u,if_pos E,Ac p (dn:=dn) (by omega),D,y,List.length_map,r,eq_true g,eq_true C,F,Lp]
   repeat' (first|(((first|apply Ad|apply Ai|apply Ah)<;>intro _h)<;>simp only[push_cast,seval,reduceEqDiff,_h,x,u,if_pos E,Ac p (dn:=dn) (by omega),D,y,List.length_map,r,eq_true g,eq_true C,F,Lp])|(refine Ae (by exact G) ?_;simp only[push_cast,seval,reduceEqDiff,x,u,if_pos E,Ac p (dn:=dn) (by omega),D,y,List.length_map,r,eq_true g,eq_true C,F,Lp])|intro _)
   exact⟨_,_,Nat.lt_succ_self _,Al.drop (λi e h=>Hl (τ:=[_]) h) (Nat.le_refl _),dn++[p],f,_,_,o++[p],j,by rw[J];simp,rfl,by rw[<-I];simp,by simp;omega,by simp;omega,by(try simp only);omega,rfl⟩
  | false=>
   rw[hs] at G I;simp only[bq,if_true,if_false,Int.reduceBEq,reduceCtorEq] at I;rw[p.rrem_eq] at I;have aG:=Cc p.cases;have Y:IntKind.i64.wrap ((j:Int)+1)=((j+1:Nat):Int):=by rw[wrap64 (by omega) (by omega)];simp
   have ai:=iD W0 (j+1) (by omega);have aF:=M2 (j+1) (by omega);generalize d:K++BG (j+1)=b at *;generalize BG (j+1)=DN at *;have aq:=ih p.parts (b++[47]) (by omega) (by omega) (by rw[<-d];simp only[List.length_append,List.length_cons,List.length_nil];omega);have X:∀c∈p.cases,c.1.length<=2^32/\An π W0 17 [.sl (c.2.map Ab.enc),.s (b++[47]++c.1++[47]),.sl (l.map Fg)] [] (.sl ((Cl (ES l) c.2 (b++[47]++c.1++[47]) 0).map Ab.enc)) []:=λc hc=>by have:=Bj hc;exact⟨by omega,ih c.2 _ (by omega) (by omega) (by rw[<-d];simp only[List.length_append,List.length_cons,List.length_nil];omega)⟩
   have ap:b.length<=2^32:=by rw[<-d];simp only[List.length_append];omega
   generalize Cl (ES l) p.parts (b++[47]) 0=RP at *;simp only[push_cast,seval,reduceEqDiff,x,u,if_pos E,Ac p (dn:=dn) (by omega),D,y,List.length_map,r,eq_true g,Y,d]
   repeat' (first|(((first|apply Ad|apply Ai|apply Ah)<;>intro _h)<;>simp only[push_cast,seval,reduceEqDiff,_h,x,u,if_pos E,Ac p (dn:=dn) (by omega),D,y,List.length_map,r,eq_true g,Y,d])|((first|refine Ae (by exact G) ?_|refine Ae (by exact ai) ?_|refine Ae (by exact aq) ?_|refine F3 (by simp only[List.length_append,List.length_cons,List.length_nil,AO]<;>omega) ?_);simp only[push_cast,seval,reduceEqDiff,x,u,if_pos E,Ac p (dn:=dn) (by omega),D,y,List.length_map,r,eq_true g,Y,d])|intro _)
   rename_i L Z b3 b4 b5 b6 b7;have hx:id.1<n+1+L/\n+1+L<n+1+L+1+Z+1+b3+1+b4+1+b5/\n+1+L+1+Z+1+b3+1+b4+1+b5<n+1+L+1+Z+1+b3+1+b4+1+b5+1+b6+1+b7:=by omega
   generalize n+1+L+1+Z+1+b3+1+b4+1+b5+1+b6+1+b7=n2 at *;generalize n+1+L+1+Z+1+b3+1+b4+1+b5=O at *;generalize n+1+L=M at *;obtain⟨au,av,aw⟩:=hx;refine Xg W0 l p b _ _ _ _ _ M O RP id _ _ au av aw (by omega) ap (by omega) X _ (λz n' g1 g2=>?_);have c1:∀j:Nat,((M,j)=id)=False:=λj=>eq_false λa=>(by have:=congrArg Prod.fst a;(try simp only at this);omega)
   have ad:∀j:Nat,(id=(M,j))=False:=λj=>eq_false λa=>of_eq_false (c1 j) a.symm;have c2:∀j:Nat,((O,j)=id)=False:=λj=>eq_false λa=>(by have:=congrArg Prod.fst a;(try simp only at this);omega)
   have U:∀j:Nat,(id=(O,j))=False:=λj=>eq_false λa=>of_eq_false (c2 j) a.symm;have c3:∀j q:Nat,((M,j)=(O,q))=False:=λj q=>eq_false λa=>(by have:=congrArg Prod.fst a;(try simp only at this);omega)
   have V:∀j q:Nat,((O,q)=(M,j))=False:=λj q=>eq_false λa=>of_eq_false (c3 j q) a.symm;have d1:∀j:Nat,((M,j)=z)=False:=λj=>eq_false λa=>(by have:=congrArg Prod.fst a;(try simp only at this);omega)
   have ae:∀j:Nat,(z=(M,j))=False:=λj=>eq_false λa=>of_eq_false (d1 j) a.symm;have d2:∀j:Nat,((O,j)=z)=False:=λj=>eq_false λa=>(by have:=congrArg Prod.fst a;(try simp only at this);omega)
   have af:∀j:Nat,(z=(O,j))=False:=λj=>eq_false λa=>of_eq_false (d2 j) a.symm;have d3:(id=z)=False:=eq_false λa=>(by have:=congrArg Prod.fst a;(try simp only at this);omega)
   have ag:(z=id)=False:=eq_false λa=>of_eq_false (d3) a.symm;unfold Ab.v;simp only[push_cast,seval,reduceEqDiff,List.length_map,c1,ad,c2,U,c3,V,d1,ae,d2,af,d3,ag];intros;refine RF (Zv (e:=MD) (sz:=2) (rid:=(O,12)) (kid:=z) (A:=[.i .i64 p.kind,.s [],.s p.name,.s []]) (B:=[.sl (RP.map Ab.enc)]) (es:=(Dj (ES l) p.cases b).map Ar.enc) (τ:=[((M,10),.box (.agg [.i .i64 p.kind,.s p.text,.s p.name,.s p.style,.sl (p.cases.map Ar.enc),.sl (p.parts.map Ab.enc)])),(id,.arr Lp 6 (o.map Ab.enc))]) (λa=>of_eq_false (d2 _) a) (by simp[lk,af]) (by simp[lk]) (λi e' h=>?_) (by simp[lk,c3,U]) (AjL _) (λs=>.inl rfl) (Nat.le_refl _)) ?_
   .simp only[lk] at h;split at h
    .rename_i a;subst a;cases h;exact⟨by simp[lk,ae,V],λh=>of_eq_false (d1 _) h⟩
    .split at h
     .rename_i a;subst a;cases h;exact⟨by simp[lk,ag,c1,c2],λh=>of_eq_false d3 h⟩
     .cases h
   have F:o.map Ab.enc++[.agg [.i .i64 p.kind,.s [],.s p.name,.s [],.sl ((Dj (ES l) p.cases b).map Ar.enc),.sl (RP.map Ab.enc)]]=(o++[(⟨p.kind,[],p.name,[],Dj (ES l) p.cases b,RP⟩:Ab)]).map Ab.enc:=by simp[Ab.enc_eq]
   simp only[push_cast,seval,reduceEqDiff,List.length_map,List.cons_append,List.nil_append,c1,ad,c2,U,c3,V,eq_true C,F,Lp,Ac p (dn:=dn) (by omega)];intros;exact⟨_,_,Nat.lt_succ_self _,Al.drop (λi e h=>Hl (τ:=[_,_]) h) (Nat.le_refl _),dn++[p],f,_,_,_,j+1,by rw[J];simp,rfl,by rw[<-I];simp,by simp;omega,by simp;omega,by(try simp only);omega,rfl⟩
theorem Na{W0:World}{nt n:Nat}{env:AB}{σ:Aj}{e:V}(b:get env 4=.nil)(c:get env 5=e):I1 W0 nt [.t 4,.t 5] [.sl [],e] [] .ret ⟨env,σ,n⟩:=by
 refine⟨⟨[(4,.sl []),(5,e)],[],n⟩,Al.weak (λ_=>none) (λ_ _ h=>by cases h) (λt=>?_) (λi e' h=>by cases h) (Nat.le_refl _),⟨by simp[KU,get],by simp[KU,get],trivial⟩,λ_ _ h=>by cases h⟩;by_cases h:4=t
 .subst h;rw[b];simp only[get,if_true];exact .nil
 .by_cases a:5=t
  .subst a;rw[c];simp only[get,if_true,if_neg h];exact .refl _
  .simp only[get,if_neg h,if_neg a];exact .any _
def Kf(l:List (Aa×Aa)):List (V×V):=l.map λf=>(Fg f,.b true)
theorem XD(a k:Aa)(l:List (Aa×Aa)):∀n,(ES l a k=true/\∃i,Bz (.st [(0,.str),(1,.str)]) (.agg [.s a,.s k]) (Kf l) n=some (some (n+i,.b true))/\(Kf l).modify i (λe=>(e.1,.b true))=Kf l)\/(ES l a k=false/\Bz (.st [(0,.str),(1,.str)]) (.agg [.s a,.s k]) (Kf l) n=some none):=by
 induction l with
 | nil=>intro n;exact .inr ⟨rfl,rfl⟩
 | cons f l j=>
  intro n;have d:EY (.st [(0,.str),(1,.str)]) (.agg [.s a,.s k]) (Fg f)=some (a==f.1&&k==f.2):=by unfold EY Fg;simp only[List.length_cons,List.length_nil,and_self,if_true,p3,List.getElem?_cons_zero,List.getElem?_cons_succ,Ev];cases(a==f.1)<;>cases(k==f.2)<;>rfl
  have g:Bz (.st [(0,.str),(1,.str)]) (.agg [.s a,.s k]) (Kf (f::l)) n=(match EY (.st [(0,.str),(1,.str)]) (.agg [.s a,.s k]) (Fg f) with
   | some true=>some (some (n,.b true))
   | some false=>Bz (.st [(0,.str),(1,.str)]) (.agg [.s a,.s k]) (Kf l) (n+1)
   | none=>none):=rfl
  have c:(a==f.1&&k==f.2)=(f.1==a&&f.2==k):=by rw[Bool.eq_iff_iff];simp only[Bool.and_eq_true,beq_iff_eq];exact⟨λh=>⟨h.1.symm,h.2.symm⟩,λh=>⟨h.1.symm,h.2.symm⟩⟩
  rw[g,d,Ja,c];cases h:(f.1==a&&f.2==k) with
  | true=>refine .inl ⟨rfl,0,by simp,?_⟩;simp[Kf]
  | false=>
   rw[Bool.false_or];rcases j (n+1) with⟨h1,i,h2,h3⟩|⟨h1,h2⟩
   .refine .inl ⟨h1,i+1,?_,?_⟩
    .simp only;rw[h2];simp;omega
    .show(Kf (f::l)).modify (i+1) _=_;simp only[Kf,List.map_cons,List.modify_succ_cons] at h3⊢;rw[h3]
   .exact .inr ⟨h1,by simp only;rw[h2]⟩
theorem oA(f:Aa×Aa)(l:List (Aa×Aa)):Kf l++[(V.agg [.s f.1,.s f.2],V.b true)]=Kf (l++[f]):=by simp[Kf,Fg]
theorem Yy(p:Ab)(a:p.wt<=2^24):An π W0 33 [.sl [p.v]] [] (.b p.solid) []:=by have:=Pe W0 _ [p] (Nat.lt_succ_self _) (by rw[Aq,BF];omega);simp only[List.map_cons,List.map_nil,Ab.enc_eq,Do,EE,Bool.and_true] at this;exact this
theorem Aeh{mid:Id}{M:AX}{τ:Aj}(h:∀p∈τ,p.1≠mid):∀i e,lk [(mid,M)] i=some e->lk (τ++[(mid,M)]) i=some e:=by
 intro i e b
 induction τ with
 | nil=>exact b
 | cons a τ j=>
  obtain⟨c,d⟩:=a;have g:i=mid:=by
   simp only[lk] at b;split at b
   .rename_i f;exact f.symm
   .cases b
  have:c≠i:=by rw[g];exact h (c,d) (by simp)
  show(if c=i then some d else lk (τ++[(mid,M)]) i)=some e;rw[if_neg this];exact j λp hp=>h p (List.mem_cons_of_mem _ hp)
set_option maxHeartbeats 4000000 in
theorem Zp(l:List (Aa×Aa))(mid:Id)(p:Ab)(f:Aa)(a1 a7 a8 ai aj ak:V)(M:Nat)(id:Id)(OE:AX)(m0:Nat)(aB:id.1<M)(aG:mid.1<id.1)(aJ:M<m0)(aH:B9 p.cases<=2^24)(aC:f.length<=2^32)
  (al:∀c∈p.cases,c.1.length<=2^32/\An π W0 15 [.sl (c.2.map Ab.enc),.s (f++[47]++c.1++[47]),.arr mid] [(mid,.map (Kf l))] (.sl ((CM (ES l) c.2 (f++[47]++c.1++[47]) 0).map Ab.enc)) [(mid,.map (Kf l))])(Q:Exit->St->Prop)
  (hQ:∀d n,M<d.1->d.1<n->Q (.exit 2) ⟨[(1,a1),(2,.arr mid),(7,a7),(8,a8),(10,.ref (M,10) 0),(11,.s f),(12,.arr d),(15,ai),(16,aj),(17,ak),(50,.sl (p.cases.map Ar.enc)),(51,.i .i64 p.cases.length),(52,.i .i64 p.cases.length),(53,.b false)],[(d,.arr MD 2 ((El (ES l) p.cases f).map Ar.enc)),((M,10),.box p.v),(id,OE),(mid,.map (Kf l))],n⟩) :
  HB π W0 93 Ts Q ⟨[(1,a1),(2,.arr mid),(7,a7),(8,a8),(10,.ref (M,10) 0),(11,.s f),(12,.nil),(15,ai),(16,aj),(17,ak),(50,.sl (p.cases.map Ar.enc)),(51,.i .i64 p.cases.length),(52,.i .i64 0)],[((M,10),.box p.v),(id,OE),(mid,.map (Kf l))],m0⟩:=by
 generalize hS:El (ES l) p.cases f=S at hQ;have aE:=Cc p.cases;unfold Ab.v at *;have c1:∀j:Nat,((M,j)=id)=False:=λj=>eq_false λa=>(by have:=congrArg Prod.fst a;(try simp only at this);omega)
 have C:∀j:Nat,(id=(M,j))=False:=λj=>eq_false λa=>of_eq_false (c1 j) a.symm;have Z:∀j:Nat,((M,j)=mid)=False:=λj=>eq_false λa=>(by have:=congrArg Prod.fst a;(try simp only at this);omega)
 have D:∀j:Nat,(mid=(M,j))=False:=λj=>eq_false λa=>of_eq_false (Z j) a.symm;have c3:(id=mid)=False:=eq_false λa=>(by have:=congrArg Prod.fst a;(try simp only at this);omega)
 have E:(mid=id)=False:=eq_false λa=>of_eq_false (c3) a.symm;refine As p.cases.length (Inv:=λm st=>∃J cr n d dl,p.cases=J++cr/\m=cr.length/\dl++El (ES l) cr f=S/\dl.length<=J.length/\M<d.1/\d.1<n/\st=⟨[(1,a1),(2,.arr mid),(7,a7),(8,a8),(10,.ref (M,10) 0),(11,.s f),(12,.arr d),(15,ai),(16,aj),(17,ak),(50,.sl (p.cases.map Ar.enc)),(51,.i .i64 p.cases.length),(52,.i .i64 J.length)],[(d,.arr MD 2 (dl.map Ar.enc)),((M,10),.box (.agg [.i .i64 p.kind,.s p.text,.s p.name,.s p.style,.sl (p.cases.map Ar.enc),.sl (p.parts.map Ab.enc)])),(id,OE),(mid,.map (Kf l))],n⟩)
  ⟨_,(Al.own (s:=12) (e:=MD) (sz:=2) (k:=99) rfl).trans (Al.envD (λt=>?_) (Nat.le_refl _)),[],p.cases,m0+1,(m0,99),[],rfl,rfl,hS,by simp,by simp only;omega,by simp only;omega,rfl⟩ ?_
 .left;by_cases h3:12=t
  .subst h3;rfl
  .simp[get,h3]
 clear hS;rintro m _ ⟨J,cr,n,d,dl,I,rfl,y,aF,ax,aI,rfl⟩;have d1:∀j:Nat,((M,j)=d)=False:=λj=>eq_false λa=>(by have:=congrArg Prod.fst a;(try simp only at this);omega)
 have F:∀j:Nat,(d=(M,j))=False:=λj=>eq_false λa=>of_eq_false (d1 j) a.symm;have d2:(id=d)=False:=eq_false λa=>(by have:=congrArg Prod.fst a;(try simp only at this);omega)
 have G:(d=id)=False:=eq_false λa=>of_eq_false (d2) a.symm;have d3:(mid=d)=False:=eq_false λa=>(by have:=congrArg Prod.fst a;(try simp only at this);omega)
 have A:(d=mid)=False:=eq_false λa=>of_eq_false (d3) a.symm;cases cr with
 | nil=>
  have g:decide ((J.length:Int)<(p.cases.length:Int))=false:=by rw[I];simp
  have aw:J.length=p.cases.length:=by rw[I];simp
  rw[Kn,List.append_nil] at y;subst y;simp only[push_cast,seval,reduceEqDiff,g,List.length_map,List.cons_append,List.nil_append,c1,C,Z,D,c3,E,d1,F,d2,G,d3,A];intros;rw[aw];exact hQ _ _ ax (by omega)
 | cons c cr=>
  have g:decide ((J.length:Int)<(p.cases.length:Int))=true:=by rw[I];simp;omega
  have K:=AW I;have aA:=Bj (cs:=p.cases) (c:=c) (by rw[I];simp);obtain⟨aD,am⟩:=al c (by rw[I];simp);have L:(p.cases.map Ar.enc)[J.length]?=some (.agg [.s c.1,.sl (c.2.map Ab.enc)]):=by rw[I,List.getElem?_map,List.getElem?_append_right (by simp)];simp[Ar.enc_eq]
  rw[I7] at y;generalize CM (ES l) c.2 (f++[47]++c.1++[47]) 0=RC at *;have N:dl.map Ar.enc++[.agg [.s c.1,.sl (RC.map Ab.enc)]]=(dl++[(c.1,RC)]).map Ar.enc:=by simp[Ar.enc_eq]
  have h:dl.length+1<=Bf:=by unfold Bf;omega
  have B:(c.1==[111,116,104,101,114])=(c.1==Bd):=rfl;have U:∀k j:Nat,((n+1+k,j)=d)=False:=λk j=>eq_false λa=>(by have:=congrArg Prod.fst a;(try simp only at this);omega)
  have o:∀k j:Nat,(d=(n+1+k,j))=False:=λk j=>eq_false λa=>of_eq_false (U k j) a.symm;have X:∀k j q:Nat,((n+1+k,j)=(M,q))=False:=λk j q=>eq_false λa=>(by have:=congrArg Prod.fst a;(try simp only at this);omega)
  have r:∀k j q:Nat,((M,q)=(n+1+k,j))=False:=λk j q=>eq_false λa=>of_eq_false (X k j q) a.symm;have Y:∀k j:Nat,((n+1+k,j)=id)=False:=λk j=>eq_false λa=>(by have:=congrArg Prod.fst a;(try simp only at this);omega)
  have u:∀k j:Nat,(id=(n+1+k,j))=False:=λk j=>eq_false λa=>of_eq_false (Y k j) a.symm;have O:∀k j:Nat,((n+1+k,j)=mid)=False:=λk j=>eq_false λa=>(by have:=congrArg Prod.fst a;(try simp only at this);omega)
  have x:∀k j:Nat,(mid=(n+1+k,j))=False:=λk j=>eq_false λa=>of_eq_false (O k j) a.symm;have af:∀(k j:Nat) (z:V) i e,lk [(mid,.map (Kf l))] i=some e->lk [((n+1+k,j),.box z),(d,.arr MD 2 (dl.map Ar.enc)),((M,10),.box (.agg [.i .i64 p.kind,.s p.text,.s p.name,.s p.style,.sl (p.cases.map Ar.enc),.sl (p.parts.map Ab.enc)])),(id,OE),(mid,.map (Kf l))] i=some e:=λk j z=>Aeh (τ:=[_,_,_,_]) (λq hq=>by
   simp only[List.mem_cons,List.not_mem_nil,or_false] at hq;rcases hq with rfl|rfl|rfl|rfl
   .exact λa=>of_eq_false (O _ _) a
   .exact λa=>of_eq_false A a
   .exact λa=>of_eq_false (Z _) a
   .exact λa=>of_eq_false c3 a)
  cases h1:(c.1==Bd) with
  | true=>
   rw[h1] at B;rw[h1,Bool.true_or,if_pos rfl] at y;simp only[push_cast,seval,reduceEqDiff,g,L,if_pos K,B,List.length_map,List.cons_append,List.nil_append,c1,C,Z,D,c3,E,d1,F,d2,G,d3,A,U,o,X,r,Y,u,O,x,N,eq_true h,MD,Ac c (dn:=J) (by omega)]
   repeat' (first|(((first|apply Ad|apply Ai|apply Ah)<;>intro _h)<;>simp only[push_cast,seval,reduceEqDiff,_h,g,L,if_pos K,B,List.length_map,List.cons_append,List.nil_append,c1,C,Z,D,c3,E,d1,F,d2,G,d3,A,U,o,X,r,Y,u,O,x,N,eq_true h,MD,Ac c (dn:=J) (by omega)])|(refine F3 (by simp only[List.length_append,List.length_cons,List.length_nil,AO]<;>omega) ?_;simp only[push_cast,seval,reduceEqDiff,g,L,if_pos K,B,List.length_map,List.cons_append,List.nil_append,c1,C,Z,D,c3,E,d1,F,d2,G,d3,A,U,o,X,r,Y,u,O,x,N,eq_true h,MD,Ac c (dn:=J) (by omega)])|intro _)
   all_goals (refine Ov am (af _ _ _) ?_)
   simp only[push_cast,seval,reduceEqDiff,g,L,if_pos K,B,List.length_map,List.cons_append,List.nil_append,c1,C,Z,D,c3,E,d1,F,d2,G,d3,A,U,o,X,r,Y,u,O,x,N,eq_true h,MD,Ac c (dn:=J) (by omega)];intros;exact⟨_,_,Nat.lt_succ_self _,Al.drop (F4 (by simp[lk,U,o,X,r,Y,u,O,x])) (Nat.le_refl _),J++[c],cr,_,_,dl++[(c.1,RC)],by rw[I];simp,rfl,by rw[<-y];simp,by simp;omega,by(try simp only);omega,by(try simp only);omega,rfl⟩
  | false=>
   rw[h1] at B;rw[h1,Bool.false_or] at y;rcases XD f c.1 l 0 with⟨h2,i,h3,_⟩|⟨h2,h3⟩
   .rw[h2] at y;simp only[bq,if_true,if_false,Int.reduceBEq,reduceCtorEq,Bool.not_true] at y;simp only[push_cast,seval,reduceEqDiff,g,L,if_pos K,B,h3,List.length_map,List.cons_append,List.nil_append,c1,C,Z,D,c3,E,d1,F,d2,G,d3,A,U,o,X,r,Y,u,O,x,Ac c (dn:=J) (by omega)];intros;exact⟨_,_,Nat.lt_succ_self _,Al.drop1 (by simp[lk,U,o,X,r,Y,u,O,x]) (Nat.le_refl _),J++[c],cr,_,_,dl,by rw[I];simp,rfl,by rw[<-y],by simp;omega,by(try simp only);omega,by(try simp only);omega,rfl⟩
   .rw[h2] at y;simp only[bq,if_true,if_false,Int.reduceBEq,reduceCtorEq,Bool.not_false] at y;simp only[push_cast,seval,reduceEqDiff,g,L,if_pos K,B,h3,List.length_map,List.cons_append,List.nil_append,c1,C,Z,D,c3,E,d1,F,d2,G,d3,A,U,o,X,r,Y,u,O,x,N,eq_true h,MD,Ac c (dn:=J) (by omega)]
    repeat' (first|(((first|apply Ad|apply Ai|apply Ah)<;>intro _h)<;>simp only[push_cast,seval,reduceEqDiff,_h,g,L,if_pos K,B,h3,List.length_map,List.cons_append,List.nil_append,c1,C,Z,D,c3,E,d1,F,d2,G,d3,A,U,o,X,r,Y,u,O,x,N,eq_true h,MD,Ac c (dn:=J) (by omega)])|(refine F3 (by simp only[List.length_append,List.length_cons,List.length_nil,AO]<;>omega) ?_;simp only[push_cast,seval,reduceEqDiff,g,L,if_pos K,B,h3,List.length_map,List.cons_append,List.nil_append,c1,C,Z,D,c3,E,d1,F,d2,G,d3,A,U,o,X,r,Y,u,O,x,N,eq_true h,MD,Ac c (dn:=J) (by omega)])|intro _)
    all_goals (refine Ov am (af _ _ _) ?_)
    simp only[push_cast,seval,reduceEqDiff,g,L,if_pos K,B,h3,List.length_map,List.cons_append,List.nil_append,c1,C,Z,D,c3,E,d1,F,d2,G,d3,A,U,o,X,r,Y,u,O,x,N,eq_true h,MD,Ac c (dn:=J) (by omega)];intros;exact⟨_,_,Nat.lt_succ_self _,Al.drop (F4 (by simp[lk,U,o,X,r,Y,u,O,x])) (Nat.le_refl _),J++[c],cr,_,_,dl++[(c.1,RC)],by rw[I];simp,rfl,by rw[<-y];simp,by simp;omega,by(try simp only);omega,by(try simp only);omega,rfl⟩
set_option maxHeartbeats 4000000 in
theorem Vx(K:Nat)(hI:∀i:Nat,i<=K->An π W0 34 [.i .i64 i] [] (.s (BG i)) []/\(BG i).length<=20)(l:List (Aa×Aa))(mid:Id):∀(N:Nat) (ps:List Ab) (U:Aa),Aw ps<N->Aw ps<=2^21->Aw ps<=K->U.length+32*Aw ps<=2^32->
  An π W0 15 [.sl (ps.map Ab.enc),.s U,.arr mid] [(mid,.map (Kf l))] (.sl ((CM (ES l) ps U 0).map Ab.enc)) [(mid,.map (Kf l))]:=by
 intro N
 induction N with
 | zero=>intro ps U h;omega
 | succ N ih=>
 intro ps U hN aQ hK aO;have aD:=C7 ps;generalize hS:CM (ES l) ps U 0=S;refine Ak (vs:=[.sl (S.map Ab.enc)]) AiE (by simp) Acq λn0 ag=>?_;have hb:mid.1<n0:=ag mid (.map (Kf l)) (by simp[lk]);clear ag;simp only[push_cast,seval,reduceEqDiff,List.length_map];intro k1 k2 k3 k4;refine As ps.length (Inv:=λm st=>∃dn A n id o j,ps=dn++A/\m=A.length/\o++CM (ES l) A U j=S/\o.length<=dn.length/\j<=dn.length/\mid.1<id.1/\id.1<n/\st=⟨[(1,.s U),(2,.arr mid),(7,.arr id),(8,.i .i64 ((j:Nat):Int)),(15,.sl (ps.map Ab.enc)),(16,.i .i64 ps.length),(17,.i .i64 dn.length)],[(id,.arr Lp 6 (o.map Ab.enc)),(mid,.map (Kf l))],n⟩) ⟨_,(Al.own (s:=7) (e:=Lp) (sz:=6) (k:=99) rfl).trans (Al.envD (λt=>?_) (Nat.le_refl _)),[],ps,_,_,[],0,rfl,rfl,hS,by simp,by simp,?_,?_,rfl⟩ ?_
 .left;by_cases h3:7=t
  .subst h3;rfl
  .simp[get,h3]
 .simp only;omega
 .simp
 clear hS;rintro m _ ⟨dn,A,n,id,o,j,O,rfl,F,aN,hj,ao,aK,rfl⟩;cases A with
 | nil=>
  simp only[List.append_nil] at O;subst O;rw[Ky,List.append_nil] at F;subst F;have r:decide ((ps.length:Int)<(ps.length:Int))=false:=by simp
  simp only[push_cast,seval,reduceEqDiff,r];intros;exact Wi (e:=Lp) (sz:=6) rfl (aI _) (by simp[lk]) (λi e h=>by
   simp only[lk] at h;split at h
   .rename_i b;subst b;cases h;have ah:id≠mid:=by rintro rfl;omega
    exact⟨by simp[lk,ah],Ne.symm ah⟩
   .cases h)
 | cons p A=>
  have E:=AW O;have aR:=CC (ps:=ps) (p:=p) (by rw[O];simp);have aP:=p.wt_eq;have J:=Yy W0 p (by omega);unfold Ab.v at J;have I:=D5 W0 p.kind;have x:(ps.map Ab.enc)[dn.length]?=some p.enc:=by rw[O,List.getElem?_map,List.getElem?_append_right (by simp)];simp
  have r:decide ((dn.length:Int)<(ps.length:Int))=true:=by rw[O];simp;omega
  have aJ:dn.length<ps.length:=by rw[O];simp
  have C:o.length+1<=Bf:=by unfold Bf;omega
  have B:∀k j:Nat,((n+1+k,j)=id)=False:=λk j=>eq_false λb=>(by have:=congrArg Prod.fst b;(try simp only at this);omega)
  have f:∀k j:Nat,(id=(n+1+k,j))=False:=λk j=>eq_false λb=>of_eq_false (B k j) b.symm;have y:∀k j:Nat,((n+1+k,j)=mid)=False:=λk j=>eq_false λb=>(by have:=congrArg Prod.fst b;(try simp only at this);omega)
  have g:∀k j:Nat,(mid=(n+1+k,j))=False:=λk j=>eq_false λb=>of_eq_false (y k j) b.symm;have u:(id=mid)=False:=eq_false λb=>(by have:=congrArg Prod.fst b;(try simp only at this);omega)
  have a:(mid=id)=False:=eq_false λb=>of_eq_false (u) b.symm;rw[I8] at F;cases hs:p.solid with
  | true=>
   rw[hs] at J F;simp only[bq,if_true,if_false,Int.reduceBEq,reduceCtorEq] at F;have D:o.map Ab.enc++[p.enc]=(o++[p]).map Ab.enc:=by simp
   rw[Ab.enc_eq p] at D;simp only[push_cast,seval,reduceEqDiff,r,x,if_pos E,Ac p (dn:=dn) (by omega),B,f,y,g,u,a,List.length_map,eq_true C,D,Lp]
   repeat' (first|(((first|apply Ad|apply Ai|apply Ah)<;>intro _h)<;>simp only[push_cast,seval,reduceEqDiff,_h,r,x,if_pos E,Ac p (dn:=dn) (by omega),B,f,y,g,u,a,List.length_map,eq_true C,D,Lp])|(refine Ae (by exact J) ?_;simp only[push_cast,seval,reduceEqDiff,r,x,if_pos E,Ac p (dn:=dn) (by omega),B,f,y,g,u,a,List.length_map,eq_true C,D,Lp])|intro _)
   exact⟨_,_,Nat.lt_succ_self _,Al.drop (F4 (by simp[lk,B,f,y,g,u,a])) (Nat.le_refl _),dn++[p],A,_,_,o++[p],j,by rw[O];simp,rfl,by rw[<-F];simp,by simp;omega,by simp;omega,by(try simp only);omega,by(try simp only);omega,rfl⟩
  | false=>
   rw[hs] at J F;simp only[bq,if_true,if_false,Int.reduceBEq,reduceCtorEq] at F;rw[p.rem_eq] at F;have aM:=Cc p.cases;have G:IntKind.i64.wrap ((j:Int)+1)=((j+1:Nat):Int):=by rw[wrap64 (by omega) (by omega)];simp
   obtain⟨ai,aL⟩:=hI (j+1) (by omega);have M:An π W0 34 [.i .i64 ((j:Int)+1)] [] (.s (BG (j+1))) []:=ai;generalize d:U++BG (j+1)=z at *;generalize BG (j+1)=DN at *;have an:=ih p.parts (z++[47]) (by omega) (by omega) (by omega) (by rw[<-d];simp only[List.length_append,List.length_cons,List.length_nil];omega);have Z:∀c∈p.cases,c.1.length<=2^32/\An π W0 15 [.sl (c.2.map Ab.enc),.s (z++[47]++c.1++[47]),.arr mid] [(mid,.map (Kf l))] (.sl ((CM (ES l) c.2 (z++[47]++c.1++[47]) 0).map Ab.enc)) [(mid,.map (Kf l))]:=λc hc=>by have:=Bj hc;exact⟨by omega,ih c.2 _ (by omega) (by omega) (by omega) (by rw[<-d];simp only[List.length_append,List.length_cons,List.length_nil];omega)⟩
   have am:z.length<=2^32:=by rw[<-d];simp only[List.length_append];omega
   cases hk:AJ p.kind with
   | false=>
    rw[hk] at I F;simp only[bq,if_true,if_false,Int.reduceBEq,reduceCtorEq] at F;generalize CM (ES l) p.parts (z++[47]) 0=RP at *;have D:o.map Ab.enc++[.agg [.i .i64 p.kind,.s p.text,.s p.name,.s p.style,.sl (p.cases.map Ar.enc),.sl (RP.map Ab.enc)]]=(o++[({ p with parts:=RP }:Ab)]).map Ab.enc:=by simp[Ab.enc_eq]
    simp only[push_cast,seval,reduceEqDiff,r,x,if_pos E,Ac p (dn:=dn) (by omega),B,f,y,g,u,a,List.length_map,G,d,eq_true C,D,Lp]
    repeat' (first|(((first|apply Ad|apply Ai|apply Ah)<;>intro _h)<;>simp only[push_cast,seval,reduceEqDiff,_h,r,x,if_pos E,Ac p (dn:=dn) (by omega),B,f,y,g,u,a,List.length_map,G,d,eq_true C,D,Lp])|((first|refine Ae (by exact J) ?_|refine Ae (by exact M) ?_|refine Ae (by exact I) ?_|refine F3 (by simp only[List.length_append,List.length_cons,List.length_nil,AO]<;>omega) ?_);simp only[push_cast,seval,reduceEqDiff,r,x,if_pos E,Ac p (dn:=dn) (by omega),B,f,y,g,u,a,List.length_map,G,d,eq_true C,D,Lp])|intro _)
    refine Ov an (Aeh (τ:=[_,_]) (λq hq=>by
     simp only[List.mem_cons,List.not_mem_nil,or_false] at hq;rcases hq with rfl|rfl
     .exact λb=>of_eq_false (y _ _) b
     .exact λb=>of_eq_false u b)) ?_
    simp only[push_cast,seval,reduceEqDiff,r,x,if_pos E,Ac p (dn:=dn) (by omega),B,f,y,g,u,a,List.length_map,G,d,eq_true C,D,Lp];intros;exact⟨_,_,Nat.lt_succ_self _,Al.drop (F4 (by simp[lk,B,f,y,g,u,a])) (Nat.le_refl _),dn++[p],A,_,_,_,j+1,by rw[O];simp,rfl,by rw[<-F];simp,by simp;omega,by simp;omega,by(try simp only);omega,by(try simp only);omega,rfl⟩
   | true=>
    rw[hk] at I F;simp only[bq,if_true,if_false,Int.reduceBEq,reduceCtorEq] at F;simp only[push_cast,seval,reduceEqDiff,r,x,if_pos E,Ac p (dn:=dn) (by omega),B,f,y,g,u,a,List.length_map,G,d]
    repeat' (first|(((first|apply Ad|apply Ai|apply Ah)<;>intro _h)<;>simp only[push_cast,seval,reduceEqDiff,_h,r,x,if_pos E,Ac p (dn:=dn) (by omega),B,f,y,g,u,a,List.length_map,G,d])|((first|refine Ae (by exact J) ?_|refine Ae (by exact M) ?_|refine Ae (by exact I) ?_|refine F3 (by simp only[List.length_append,List.length_cons,List.length_nil,AO]<;>omega) ?_);simp only[push_cast,seval,reduceEqDiff,r,x,if_pos E,Ac p (dn:=dn) (by omega),B,f,y,g,u,a,List.length_map,G,d])|intro _)
    rename_i b1 b2 b3 b4 b5 b6 b7 b8;have hx:id.1<n+1+b1/\n+1+b1<n+1+b1+1+b2+1+b3+1+b4+1+b5+1+b6+1+b7+1+b8:=by omega
    generalize n+1+b1+1+b2+1+b3+1+b4+1+b5+1+b6+1+b7+1+b8=n2 at *;generalize n+1+b1=V at *;obtain⟨ap,aq⟩:=hx;refine Zp W0 l mid p z _ _ _ _ _ _ V id _ _ ap ao aq (by omega) am Z _ (λL n' g1 g2=>?_);have c1:∀j:Nat,((V,j)=id)=False:=λj=>eq_false λb=>(by have:=congrArg Prod.fst b;(try simp only at this);omega)
    have X:∀j:Nat,(id=(V,j))=False:=λj=>eq_false λb=>of_eq_false (c1 j) b.symm;have c2:∀j:Nat,((V,j)=mid)=False:=λj=>eq_false λb=>(by have:=congrArg Prod.fst b;(try simp only at this);omega)
    have Y:∀j:Nat,(mid=(V,j))=False:=λj=>eq_false λb=>of_eq_false (c2 j) b.symm;have d1:∀j:Nat,((V,j)=L)=False:=λj=>eq_false λb=>(by have:=congrArg Prod.fst b;(try simp only at this);omega)
    have ad:∀j:Nat,(L=(V,j))=False:=λj=>eq_false λb=>of_eq_false (d1 j) b.symm;have d2:(id=L)=False:=eq_false λb=>(by have:=congrArg Prod.fst b;(try simp only at this);omega)
    have ae:(L=id)=False:=eq_false λb=>of_eq_false (d2) b.symm;have d3:(mid=L)=False:=eq_false λb=>(by have:=congrArg Prod.fst b;(try simp only at this);omega)
    have af:(L=mid)=False:=eq_false λb=>of_eq_false (d3) b.symm;unfold Ab.v;simp only[push_cast,seval,reduceEqDiff,List.length_map,c1,X,c2,Y,d1,ad,d2,ae,d3,af,u,a];intros;refine RF (hM (s:=12) (e:=MD) (sz:=2) (es:=(El (ES l) p.cases z).map Ar.enc) (τ:=[((V,10),.box (.agg [.i .i64 p.kind,.s p.text,.s p.name,.s p.style,.sl (p.cases.map Ar.enc),.sl (p.parts.map Ab.enc)])),(id,.arr Lp 6 (o.map Ab.enc)),(mid,.map (Kf l))]) rfl (by simp[lk]) (λi e' h=>?_) (AjL _) (Nat.le_refl _)) ?_
    .simp only[lk] at h;split at h
     .rename_i b;subst b;cases h;exact⟨by simp[lk,ad],λh=>of_eq_false (d1 _) h⟩
     .split at h
      .rename_i b;subst b;cases h;exact⟨by simp[lk,ae,c1],λh=>of_eq_false d2 h⟩
      .split at h
       .rename_i b;subst b;cases h;exact⟨by simp[lk,af,c2,u],λh=>of_eq_false d3 h⟩
       .cases h
    have D:o.map Ab.enc++[.agg [.i .i64 p.kind,.s p.text,.s p.name,.s p.style,.sl ((El (ES l) p.cases z).map Ar.enc),.sl (p.parts.map Ab.enc)]]=(o++[({ p with cases:=El (ES l) p.cases z }:Ab)]).map Ab.enc:=by simp[Ab.enc_eq]
    simp only[push_cast,seval,reduceEqDiff,List.length_map,List.cons_append,List.nil_append,c1,X,c2,Y,u,a,eq_true C,D,Lp,Ac p (dn:=dn) (by omega)];intros;exact⟨_,_,Nat.lt_succ_self _,Al.drop (F4 (by simp[lk,u,a,c1,X,c2,Y])) (Nat.le_refl _),dn++[p],A,_,_,_,j+1,by rw[O];simp,rfl,by rw[<-F];simp,by simp;omega,by simp;omega,by(try simp only);omega,by(try simp only);omega,rfl⟩
end Go.Ir
