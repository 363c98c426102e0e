/- Parts of the proof: the calculus of walks, contracts of functions, plain laws; each theorem states its conditions. -/
import Derived.Test.YtalbicndcfmbnaaGreatDoorTae
import Derived.Test.YtalbicndcfmbnaaGreatDoorRows
import Derived.ChangeArms
import Derived.Carry
import Derived.ChangeSame
import Derived.OpenShut
import Derived.Test.YtalbicndcfmbnaaGreatDoorChecked
set_option linter.all false
open Nat (reduceEqDiff)
namespace Go.Ir
open Go.Proofs
variable(W0:World)
theorem eE(L:BR)(u c:Aa):Jt L u c=match Fa u c (L.units.foldl Pz []) with
  | some p=>some p
  | none=>Fa u [111,116,104,101,114] (L.units.foldl Pz []):=by
 unfold Jt;rw[LM,LM];rfl
theorem zW(L:BR)(u c:Aa)(g:L.units.length<=2^20):Al Tryz.prog W0 211 [L.enc,.s u,.s c] [] (.tup [.s ((Jt L u c).getD []),.b (Jt L u c).isSome]) []:=by
 have hp:=Ajj W0 L g;generalize hS:Jt L u c=S;rw[eE] at hS;generalize L.units.foldl Pz []=M at *;rw[BR.enc_eq] at hp⊢;have d:=Tb u c M 0;have f:=Tb u [111,116,104,101,114] M 0;unfold UK at d f;refine Ae (vs:=[.s (S.getD []),.b S.isSome]) Agp (by simp) (by simp) λn0 a=>?_;clear a;simp only[push_cast,seval,reduceEqDiff];intro k1;refine KO hp (λi e h=>by simp[lk] at h) ?_;rw[GS];rcases d with⟨i,p,h1,h2⟩|⟨h1,h2⟩
 .rw[h1] at hS;simp only at hS;subst hS;simp only[push_cast,seval,reduceEqDiff,h2]
  repeat' (first|(((first|apply Ab|apply Ag|apply Ah)<;>intro _h)<;>simp only[push_cast,seval,reduceEqDiff,_h,h2])|(refine Ar (by omega) ?_;simp only[push_cast,seval,reduceEqDiff,h2])|intro _)
  refine Ad ?_;simp[push_cast,get]
 .rw[h1] at hS;simp only at hS;rcases f with⟨i,p,h3,h4⟩|⟨h3,h4⟩
  .rw[h3] at hS;subst hS;simp only[push_cast,seval,reduceEqDiff,h2,h4]
   repeat' (first|(((first|apply Ab|apply Ag|apply Ah)<;>intro _h)<;>simp only[push_cast,seval,reduceEqDiff,_h,h2,h4])|(refine Ar (by omega) ?_;simp only[push_cast,seval,reduceEqDiff,h2,h4])|intro _)
   refine Ad ?_;simp[push_cast,get]
  .rw[h3] at hS;subst hS;simp only[push_cast,seval,reduceEqDiff,h2,h4]
   repeat' (first|(((first|apply Ab|apply Ag|apply Ah)<;>intro _h)<;>simp only[push_cast,seval,reduceEqDiff,_h,h2,h4])|(refine Ar (by omega) ?_;simp only[push_cast,seval,reduceEqDiff,h2,h4])|intro _)
   refine Ad ?_;simp[push_cast,get]
structure Xj (L:BR):Prop where
 n:L.units.length<=2^20
 p:∀u∈L.units,u.pat.length<=2^16
theorem JE{u c:Aa}:∀{l:List D6} {p:Aa},K9 u c l=some p->∃x∈l,x.pat=p
 | [],p,h=>by cases h
 | x::l,p,h=>by
  rw[K9] at h;split at h
  .grind
  .obtain⟨y,a,b⟩:=JE h;grind
theorem NS{L:BR}(b:Xj L){u c p:Aa}(h:Jt L u c=some p):p.length<=2^16:=by
 unfold Jt at h;split at h
 .rename_i q d;cases h;obtain⟨x,a,rfl⟩:=JE d;exact b.p x a
 .obtain⟨x,a,rfl⟩:=JE h;exact b.p x a
theorem If(L:BR)(a:K6 L)(n st:Aa)(b:n.length<=2^30):(DL L n st).1.length<=2^23+2^19:=by
 have l1:=DE L a (CR n).1 (JA n);have d:=DE L a (CT n).1 (Ke n);have e:=a.perc;unfold DL;cases hB:DI n with
 | false=>simp
 | true=>have c:=DE L a n (PQ hB);grind
def Fe(L:BR)(u n:Aa):Aa×Int:=
 if(C9 L.card n).2==0 then
  match Jt L u (C9 L.card n).1 with
  | none=>([],18)
  | some p=>if Pj p 1 then(if(DL L n []).2==0 then(Lib.replace p [123,48,125] (DL L n []).1 1,0) else([],(DL L n []).2)) else([],4)
 else([],(C9 L.card n).2)
theorem Sh(s p t:Aa):(Lib.replace s p t 1).length<=s.length+t.length:=by
 have c:∀s,(Lib.replaceK p t 1 s).length<=s.length+t.length:=by
  intro s;unfold Lib.replaceK;split
  .omega
  .rename_i d;rcases HM s p with b|⟨b,e⟩
   .grind
   .unfold Lib.replaceK;grind
 unfold Lib.replace Lib.replaceNum;split
 .omega
 .split
  .rename_i h;have a:Lib.count s p=0:=by omega
   rw[a];unfold Lib.replaceK;omega
  .exact c s
theorem Y7(t:Bi W0)(L:BR)(r:K6 L)(v:Xj L)(u n:Aa)(h:n.length<=2^30)(z:A7 L.card<=2^30):Al Tryz.prog W0 157 [L.enc,.s u,.s n] [] (.tup [.s (Fe L u n).1,.i .i64 (Fe L u n).2]) []:=by
 have e:=WR W0 L.card n h z;have g:=zW W0 L u (C9 L.card n).1 v.n;have f:=QB W0 L r n [] h;have j:=If L r n [] h;have m:=@NS L v u (C9 L.card n).1;generalize hS:Fe L u n=S;unfold Fe at hS;generalize C9 L.card n=C at *;generalize DL L n []=N at *;generalize Jt L u C.1=U at *;rw[BR.enc_eq] at *;obtain⟨B,q⟩:=C;obtain⟨o,x⟩:=N;simp only at *;cases b:(q==0) with
 | false=>
  rw[b] at hS;simp only[AcT,if_false] at hS;subst hS;refine Ae (vs:=[.s [],.i .i64 q]) L8 (by simp) (by simp) λn0 a=>?_;clear a;simp only[push_cast,seval,reduceEqDiff,bne,b];have _h:=trivial;repeat' (first|(first|((first|apply Ab|apply Ag|apply Ah)<;>intro _h)|refine Ac e ?_|refine Ar (by omega) ?_)<;>simp only[push_cast,seval,reduceEqDiff,_h,bne,b]|intro _)
  refine Ad ?_;simp[push_cast,get]
 | true=>
  rw[b] at hS;simp only[if_true] at hS;cases U with
  | none=>
   simp only at hS;subst hS;refine Ae (vs:=[.s [],.i .i64 18]) L8 (by simp) (by simp) λn0 a=>?_;clear a;simp only[push_cast,seval,reduceEqDiff,bne,b,Option.getD_none,AxE];have _h:=trivial;repeat' (first|(first|((first|apply Ab|apply Ag|apply Ah)<;>intro _h)|refine Ac e ?_|refine Ac g ?_|refine Ar (by omega) ?_)<;>simp only[push_cast,seval,reduceEqDiff,_h,bne,b,Option.getD_none,AxE]|intro _)
   refine Ad ?_;simp[push_cast,get]
  | some p=>
   have k:=m rfl;have c:=NV W0 t p 1 (by omega) (by omega) (by omega);have A:=Sh p [123,48,125] o;have l:=LJ W0 t p [123,48,125] o 1 (by omega) (by simp) (Am5 (AzK k j) (by omega)) (by unfold AJ;omega);simp only at hS;cases hB:Pj p 1 with
   | false=>
    rw[hB] at hS c;simp only[AcT,if_false] at hS;subst hS;refine Ae (vs:=[.s [],.i .i64 4]) L8 (by simp) (by simp) λn0 a=>?_;clear a;simp only[push_cast,seval,reduceEqDiff,bne,b,Option.getD_some,Atq];have _h:=trivial;repeat' (first|(first|((first|apply Ab|apply Ag|apply Ah)<;>intro _h)|refine Ac e ?_|refine Ac g ?_|refine Ac c ?_|refine Ar (by omega) ?_)<;>simp only[push_cast,seval,reduceEqDiff,_h,bne,b,Option.getD_some,Atq]|intro _)
    refine Ad ?_;simp[push_cast,get]
   | true=>
    rw[hB] at hS c;simp only[if_true] at hS;cases d:(x==0) with
    | false=>
     rw[d] at hS;simp only[AcT,if_false] at hS;subst hS;refine Ae (vs:=[.s [],.i .i64 x]) L8 (by simp) (by simp) λn0 a=>?_;clear a;simp only[push_cast,seval,reduceEqDiff,bne,b,d,Option.getD_some,Atq];have _h:=trivial;repeat' (first|(first|((first|apply Ab|apply Ag|apply Ah)<;>intro _h)|refine Ac e ?_|refine Ac g ?_|refine Ac c ?_|refine Ac f ?_|refine Ar (by omega) ?_)<;>simp only[push_cast,seval,reduceEqDiff,_h,bne,b,d,Option.getD_some,Atq]|intro _)
     refine Ad ?_;simp[push_cast,get]
    | true=>
     rw[d] at hS;simp only[if_true] at hS;subst hS;generalize Lib.replace p [123,48,125] o 1=y at *;refine Ae (vs:=[.s y,.i .i64 0]) L8 (by simp) (by simp) λn0 a=>?_;clear a;simp only[push_cast,seval,reduceEqDiff,bne,b,d,Option.getD_some,Atq];have _h:=trivial;repeat' (first|(first|((first|apply Ab|apply Ag|apply Ah)<;>intro _h)|refine Ac e ?_|refine Ac g ?_|refine Ac c ?_|refine Ac f ?_|refine Ac l ?_|refine Ar (by omega) ?_)<;>simp only[push_cast,seval,reduceEqDiff,_h,bne,b,d,Option.getD_some,Atq]|intro _)
     refine Ad ?_;simp[push_cast,get]
def Q0(k t:Int):Bool:=if k==2 then !(t==4) else if k==5 then t==3 else if k==6 then t==4 else t==2
theorem Ah6(k:Int)(v:BC):Al Tryz.prog W0 156 [.i .i64 k,v.enc] [] (.b (Q0 k v.type)) []:=by
 generalize hS:Q0 k v.type=S;unfold Q0 at hS;rw[BC.enc_eq];refine Ae (vs:=[.b S]) Akb (by simp) (by simp) λn0 e=>?_;clear e;simp only[push_cast,seval,reduceEqDiff,bne]
 all_goals (cases a:(k==2)<;>cases c:(k==5)<;>cases d:(k==6))
 all_goals ((try simp only[a,c,d,bq,if_true,if_false,Int.reduceBEq,reduceCtorEq] at hS);subst hS)
 all_goals (try simp only[push_cast,seval,reduceEqDiff,a,c,d,bne])
 all_goals (repeat' (first|((first|refine Ar (by omega) ?_);(try simp only[push_cast,seval,reduceEqDiff,a,c,d,bne]))|intro _))
 all_goals (first|(refine Af ?_;simp[get];done)|(refine Ad ?_;simp[push_cast,get];done)|skip)
def MR(L:BR)(k:Int)(st:Aa)(v:BC):Aa×Int:=
 if k<2||k>6 then([],1) else if !(Js v&&Q0 k v.type) then([],11)
 else if k==3 then DL L v.text st else if k==4 then Fe L st v.text else if k==5 then Ex L st v.date else if k==6 then Fb L st v.list
 else if !(v.type==3) then(v.text,0) else if Do v.date==[] then([],2) else(Do v.date,0)
structure WD (L:BR) (c:Nat):Prop where
 sym:K6 L
 uni:Xj L
 lst:AfO L
 dat:lC L c
 card:A7 L.card<=2^30
structure Ri (v:BC):Prop where
 text:v.text.length<=2^30
 len:v.list.length<=2^30
 list:∀s∈v.list,s.length<=2^20
set_option maxHeartbeats 4000000 in
theorem TS(z:Bi W0)(A:Bu W0)(L:BR)(c:Nat)(m:WD L c)(x:Aw)(v:BC)(o:Ri v)(K:x.style.length<=2^24):Al Tryz.prog W0 108 [L.enc,x.enc,v.enc] [] (.tup [.s (MR L x.kind x.style v).1,.i .i64 (MR L x.kind x.style v).2]) []:=by
 have p:=NE W0 v o.text;have q:=Ah6 W0 x.kind v;have r:=QB W0 L m.sym v.text x.style o.text;have t:=Y7 W0 z L m.sym m.uni x.style v.text o.text m.card;have u:=ZY W0 A L c m.dat x.style v.date K;have y:=YK W0 z L m.lst x.style v.list o.len o.list;have J:=(Lx W0 A v.date).1;generalize hS:MR L x.kind x.style v=S;unfold MR at hS;rw[BC.enc_eq] at p q⊢;rw[BR.enc_eq] at r t u y⊢;rw[Aw.enc_eq];generalize x.kind=k at *;generalize x.style=st at *;generalize Do v.date=B at *;generalize DL L v.text st=E at *;generalize Fe L st v.text=F at *;generalize Ex L st v.date=G at *;generalize Fb L st v.list=I at *;obtain⟨N,V⟩:=E;obtain⟨O,X⟩:=F;obtain⟨R,Y⟩:=G;obtain⟨U,Z⟩:=I;simp only at r t u y;generalize Js v=D at *;generalize M:Q0 k v.type=C at *;cases b:decide (k<2) with
 | true=>
  rw[b] at hS;simp only[Azi,if_true] at hS;subst hS;refine Ae (vs:=[.s [],.i .i64 1]) Me (by simp) (by simp) λn0 a=>?_;clear a;simp only[push_cast,seval,reduceEqDiff,b]
  repeat' (first|(((first|apply Ab|apply Ag|apply Ah)<;>intro _h)<;>simp only[push_cast,seval,reduceEqDiff,_h,b])|(refine Ar (by omega) ?_;simp only[push_cast,seval,reduceEqDiff,b])|intro _)
  refine Ad ?_;simp[push_cast,get]
 | false=>
  cases d:decide (k>6) with
  | true=>
   rw[b,d] at hS;simp only[AxX,if_true] at hS;subst hS;refine Ae (vs:=[.s [],.i .i64 1]) Me (by simp) (by simp) λn0 a=>?_;clear a;simp only[push_cast,seval,reduceEqDiff,b,d]
   repeat' (first|(((first|apply Ab|apply Ag|apply Ah)<;>intro _h)<;>simp only[push_cast,seval,reduceEqDiff,_h,b,d])|(refine Ar (by omega) ?_;simp only[push_cast,seval,reduceEqDiff,b,d])|intro _)
   refine Ad ?_;simp[push_cast,get]
  | false=>
   rw[b,d] at hS;simp only[AuF,AcT,if_false] at hS;cases D with
   | false=>
    simp only[AxA,AuR,if_true] at hS;subst hS;refine Ae (vs:=[.s [],.i .i64 11]) Me (by simp) (by simp) λn0 a=>?_;clear a;simp only[push_cast,seval,reduceEqDiff,b,d];have _h:=trivial;repeat' (first|(first|((first|apply Ab|apply Ag|apply Ah)<;>intro _h)|refine Ac p ?_|refine Ar (by omega) ?_)<;>simp only[push_cast,seval,reduceEqDiff,_h,b,d]|intro _)
    refine Ad ?_;simp[push_cast,get]
   | true=>
    cases C with
    | false=>
     simp only[AyS,AuR,if_true] at hS;subst hS;refine Ae (vs:=[.s [],.i .i64 11]) Me (by simp) (by simp) λn0 a=>?_;clear a;simp only[push_cast,seval,reduceEqDiff,b,d];have _h:=trivial;repeat' (first|(first|((first|apply Ab|apply Ag|apply Ah)<;>intro _h)|refine Ac p ?_|refine Ac q ?_|refine Ar (by omega) ?_)<;>simp only[push_cast,seval,reduceEqDiff,_h,b,d]|intro _)
     refine Ad ?_;simp[push_cast,get]
    | true=>
     simp only[Ax6,Au9,AcT,if_false] at hS;refine Ae (vs:=[.s S.1,.i .i64 S.2]) Me (by simp) (by simp) λn0 a=>?_;clear a;simp only[push_cast,seval,reduceEqDiff,b,d,bne]
     all_goals (cases e:(k==3)<;>cases f:(k==4)<;>cases g:(k==5)<;>cases h:(k==6)<;>cases j:(v.type==3)<;>cases l:(B==[]))
     all_goals ((try simp only[e,f,g,h,j,l,bq,if_true,if_false,Int.reduceBEq,reduceCtorEq] at hS);subst hS)
     all_goals (try simp only[push_cast,seval,reduceEqDiff,e,f,g,h,j,l,b,d,bne])
     all_goals (repeat' (first|((first|refine Ac (by exact p) ?_|refine Ac (by exact q) ?_|refine Ac (by exact r) ?_|refine Ac (by exact t) ?_|refine Ac (by exact u) ?_|refine Ac (by exact y) ?_|refine Ac (by exact J) ?_|refine Ar (by omega) ?_);(try simp only[push_cast,seval,reduceEqDiff,e,f,g,h,j,l,b,d,bne]))|intro _))
     all_goals (first|(refine Af ?_;simp[get];done)|(refine Ad ?_;simp[push_cast,get];done)|skip)
end Go.Ir

namespace Go.Ir
open Go.Proofs Go.RowKit
variable(W0:World)
def AbH{a:Type}(f:V->Option a):List V->Option (List a)
 | []=>some []
 | v::vs=>match f v with
  | some w=>match AbH f vs with
   | some b=>some (w::b)
   | none=>none
  | none=>none
theorem NL{d:Type}{f:V->Option d}:∀{l:List V} {a:List d},AbH f l=some a->l.length=a.length/\∀(k:Nat) (c:V) (e:d),l[k]?=some c->a[k]?=some e->f c=some e
 | [],a,h=>by cases h;grind
 | v::vs,a,h=>by
  rw[AbH] at h;split at h
  .rename_i w j;split at h
   .rename_i m b;cases h;obtain⟨g,i⟩:=NL b;grind
   .cases h
  .cases h
def Mf{a:Type}(f:V->Option a):V->Option (List a)
 | .sl es=>AbH f es
 | .nil=>some []
 | _=>none
def G4{a:Type}(f:V->Option a)(enc:a->V):Prop:=∀v x,f v=some x->Jw (λ_=>none) v (enc x)/\(cells (enc x)).length=(cells v).length/\v.ok=true/\(enc x).ok=true
theorem Eu{i:Type}{f:V->Option i}{enc:i->V}(g:G4 f enc):G4 (Mf f) λl=>.sl (l.map enc):=by
 intro v l h;cases v with
 | sl es=>
  obtain⟨m,e⟩:=NL (f:=f) h;refine⟨.sl _ _ (by simpa using m) (λk c j b a=>?_) (λk c j b a=>?_),rfl,rfl,rfl⟩
  .rw[Akg] at a;obtain⟨x,d,rfl⟩:=AeM.1 a;exact(g _ _ (e k c x b d)).1
  .rw[Akg] at a;obtain⟨x,d,rfl⟩:=AeM.1 a;exact(g _ _ (e k c x b d)).2
 | nil=>cases h;exact⟨.nil,rfl,rfl,rfl⟩
 | _=>cases h
def Cw:V->Option Aa
 | .s l=>some l
 | _=>none
theorem B3:G4 Cw V.s:=by intro v l h;cases v<;>cases h;exact⟨.refl _,rfl,rfl,rfl⟩
def Fu:V->Option Int
 | .i .i64 n=>some n
 | _=>none
theorem CY:G4 Fu (V.i .i64):=by
 intro v n h;unfold Fu at h;split at h
 .cases h;exact⟨.refl _,rfl,rfl,rfl⟩
 .cases h
def AjH(f:V->Option (List Aw)):V->Option DR
 | .agg [k,ps]=>match Cw k with
  | some k=>match f ps with
   | some ps=>some (k,ps)
   | none=>none
  | none=>none
 | _=>none
def tD:Nat->V->Option Aw
 | 0=>λ_=>none
 | n+1=>λv=>match v with
  | .agg [a,t,m,st,cs,ps]=>(Fu a).bind λa=>(Cw t).bind λt=>(Cw m).bind λm=>(Cw st).bind λst=>(Mf (AjH (Mf (tD n))) cs).bind λcs=>(Mf (tD n) ps).bind λps=>some ⟨a,t,m,st,cs,ps⟩
  | _=>none
theorem AaR{f:V->Option (List Aw)}(e:G4 f λl=>.sl (l.map Aw.enc)):G4 (AjH f) DR.enc:=by
 intro v c h;unfold AjH at h;split at h
 .rename_i k ps;split at h
  .rename_i q g;split at h
   .rename_i i a;cases h;have o:=B3 _ _ g;have p:=e _ _ a;rw[DR.enc_eq];refine⟨.agg _ _ rfl λj c m b d=>?_,rfl,rfl,rfl⟩
    match j with
    | 0=>grind
    | 1=>grind
    | j+2=>simp at b
   .cases h
  .cases h
 .cases h
theorem Xk:∀n,G4 (tD n) Aw.enc
 | 0=>λv x h=>by cases h
 | n+1=>by
  intro v p h;have a:=Eu (Xk n);have b:=Eu (AaR a);unfold tD at h;split at h
  .obtain⟨B,d,h⟩:=Aem.1 h;obtain⟨t,e,h⟩:=Aem.1 h;obtain⟨m,f,h⟩:=Aem.1 h;obtain⟨st,g,h⟩:=Aem.1 h;obtain⟨cs,i,h⟩:=Aem.1 h;obtain⟨ps,k,h⟩:=Aem.1 h;cases h;have r:=CY _ _ d;have s:=B3 _ _ e;have u:=B3 _ _ f;have y:=B3 _ _ g;have z:=b _ _ i;have A:=a _ _ k;rw[Aw.enc_eq];refine⟨.agg _ _ rfl λj c q l o=>?_,rfl,rfl,rfl⟩
   match j with
   | 0=>grind
   | 1=>grind
   | 2=>grind
   | 3=>grind
   | 4=>simp_all
   | 5=>simp_all
   | j+6=>simp at l
  .cases h
def O5:List V->Option V
 | [v]=>(Mf (tD 40) v).bind λps=>bif Nat.ble (Eo ps) 1000000 then some (.i .i64 (CH ps)) else none
 | _=>none
theorem sW:AX Tryz.prog W0 (onP 96 O5):=kN λargs v h=>by
 unfold O5 at h;split at h
 .rename_i x;obtain⟨ps,f,c⟩:=Aem.1 h;cases e:Nat.ble (Eo ps) 1000000 with
  | false=>rw[e] at c;cases c
  | true=>
   rw[e] at c;cases c;have i:=AxV e;refine⟨CX (dX W0 _ ps (AzS _) (by omega)) rfl λk a g d b=>?_,rfl⟩
   match k with
   | 0=>simp at d b;subst d b;exact(Eu (Xk 40) _ _ f).1
   | k+1=>simp at d
 .cases h
end Go.Ir

namespace Go.Ir
open Go.Proofs
variable(W0:World)
def H5(L:BR)(k:Int):List AF:=if k==7 then L.card else if k==8 then L.ord else[]
def Pd(L:BR)(k:Int):V:=if k==7 then .sl (L.card.map AF.enc) else if k==8 then .sl (L.ord.map AF.enc) else .nil
theorem VW(L:BR)(k:Int):Jw (λ_=>none) (Pd L k) (.sl ((H5 L k).map AF.enc)):=by
 unfold Pd H5;split
 .exact .refl _
 .split
  .exact .refl _
  .exact .nil
theorem NU(L:BR)(k:Int):Al Tryz.prog W0 153 [L.enc,.i .i64 k] [] (Pd L k) []:=by
 generalize hS:Pd L k=S;unfold Pd at hS;rw[BR.enc_eq];refine Ae (vs:=[S]) Amn (by simp) (by simp) λn0 a=>?_;clear a;simp only[push_cast,reduceEqDiff]
 repeat' (first|(((first|apply Ab|apply Ag|apply Ah)<;>intro _h)<;>(simp only[push_cast,reduceEqDiff];try (have _g:=_h;simp at _g)))|intro _)
 all_goals (simp only[*] at hS;subst hS;exact Af (by simp[get]))
def Ls(k:Int)(v:BC):Bool:=if k==9 then Js v&&v.type==1 else Js v&&v.type==2
theorem Akt(k:Int)(v:BC)(c:v.text.length<=2^30):Al Tryz.prog W0 154 [.i .i64 k,v.enc] [] (.b (Ls k v)) []:=by
 have hp:=NE W0 v c;generalize hS:Ls k v=S;unfold Ls at hS;generalize Js v=A at *;rw[BC.enc_eq] at hp⊢;refine Ae (vs:=[.b S]) Aht (by simp) (by simp) λn0 a=>?_;clear a;simp only[push_cast,reduceEqDiff];have _h:=trivial;repeat' (first|(first|((first|apply Ab|apply Ag|apply Ah)<;>intro _h)|refine Ac hp ?_)<;>simp only[push_cast,reduceEqDiff,_h]|intro _)
 all_goals (simp only[*] at hS;subst hS;exact Af (by simp[get]))
def Pg:Aa:=[111,116,104,101,114]
def F3(L:BR)(k:Int)(v:BC):List Aa:=if k==9 then[v.text,Pg] else[61::v.text,(C9 (H5 L k) v.text).1,Pg]
theorem kP(L:BR)(k:Int)(v:BC)(q:v.text.length<=2^29)(p:A7 L.card+A7 L.ord<=2^24):Al Tryz.prog W0 209 [L.enc,.i .i64 k,v.enc] [] (.sl ((F3 L k v).map V.s)) []:=by
 have f:=NU W0 L k;have h:A7 (H5 L k)<=2^30:=by
  unfold H5;split
  .omega
  .split
   .omega
   .simp[A7]
 have g:Al Tryz.prog W0 210 [Pd L k,.s v.text] [] (.tup [.s (C9 (H5 L k) v.text).1,.i .i64 (C9 (H5 L k) v.text).2]) []:=by
  refine CX (WR W0 (H5 L k) v.text (by omega) h) rfl λj a o c b=>?_
  match j with
  | 0=>simp at c b;subst c b;exact VW L k
  | 1=>simp at c b;subst c b;exact .refl _
  | j+2=>simp at c
 generalize hS:F3 L k v=S;unfold F3 at hS;generalize(C9 (H5 L k) v.text).1=l at *;generalize(C9 (H5 L k) v.text).2=m at *;generalize Pd L k=R at *;rw[BR.enc_eq] at f⊢;rw[BC.enc_eq];have e:1+v.text.length<=AJ:=by unfold AJ;omega
 refine Ae (vs:=[.sl (S.map V.s)]) Ain (by simp) (by simp) λn0 d=>?_;clear d;simp only[push_cast,reduceEqDiff];have _h:=trivial;repeat' (first|(first|((first|apply Ab|apply Ag|apply Ah)<;>intro _h)|refine Ac f ?_|refine Ac g ?_)<;>simp only[push_cast,reduceEqDiff,eq_true e]|intro _)
 all_goals (simp only[*] at hS;subst hS)
 .exact Af (by simp[get,Pg])
 .exact Af (by simp[get,Pg])
def DA(a:List Aa):List Aa->Int
 | []=>-1
 | w::b=>if B7 (λx=>w==x) a<0 then DA a b else B7 (λx=>w==x) a
theorem N8(a:List Aa)(b:List Aa):-1<=DA a b/\DA a b<a.length:=by
 induction b with
 | nil=>simp only[DA];omega
 | cons w b c=>
  rw[DA];split
  .exact c
  .have:=Xv (λx=>w==x) a;omega
theorem Zt(L:BR)(k:Int)(a:List Aa)(v:BC)(q:v.text.length<=2^29)(l:A7 L.card+A7 L.ord<=2^24)(r:a.length<=2^30) :
  Al Tryz.prog W0 155 [L.enc,.i .i64 k,.sl (a.map V.s),v.enc] [] (.i .i64 (DA a (F3 L k v))) []:=by
 have c:=kP W0 L k v q l;have d:=λw:Aa=>HV W0 t6 a w (by omega);generalize hS:DA a (F3 L k v)=S;have j:(F3 L k v).length<=3:=by unfold F3;split<;>simp
 generalize F3 L k v=W at *;rw[BR.enc_eq] at c⊢;rw[BC.enc_eq] at c⊢;refine Ae (vs:=[.i .i64 S]) AkF (by simp) (by simp) λn0 e=>?_;clear e;simp only[push_cast,reduceEqDiff];have _h:=trivial;repeat' (first|(first|((first|apply Ab|apply Ag|apply Ah)<;>intro _h)|refine Ac c ?_)<;>simp only[push_cast,reduceEqDiff]|intro _)
 obtain⟨τ,g⟩:∃τ:Aj,τ=[]:=⟨[],rfl⟩;refine Am W.length (Inv:=λm st=>∃dn rest n,W=dn++rest/\m=rest.length/\DA a rest=S/\st=⟨[(2,.sl (a.map V.s)),(15,.sl (W.map V.s)),(16,.i .i64 W.length),(17,.i .i64 dn.length)],τ,n⟩) ⟨_,by rw[g];exact Ak.drop (λ_ _ h=>by cases h) (AzR _),[],W,_,rfl,rfl,hS,rfl⟩ ?_;clear hS c;rintro m _ ⟨dn,rest,n,f,rfl,b,rfl⟩;cases rest with
 | nil=>rw[DA] at b;subst b;simp only[push_cast,reduceEqDiff,f];intros;exact Af (by simp[get])
 | cons w rest=>
  have o:=AM f;rw[DA] at b;have p:=d w;generalize B7 (λx=>w==x) a=I at *;simp only[push_cast,reduceEqDiff,f];have _h:=trivial;repeat' (first|(first|((first|apply Ab|apply Ag|apply Ah)<;>intro _h)|refine Ac p ?_)<;>simp only[push_cast,reduceEqDiff,Ai w (dn:=dn) (by omega)]|intro _)
  .have hI:I>=0:=of_decide_eq_true _h;rw[if_neg (by omega)] at b;subst b;exact Af (by simp[get])
  .have hI:¬I>=0:=of_decide_eq_false _h;rw[if_pos (by omega)] at b;exact⟨_,_,AzS _,Ak.refl,dn++[w],rest,_,by simp,rfl,b,rfl⟩
inductive Ev where
 | pc (s:Aa)
 | er (e:Int)
def Adw(iso:Bool)(r:Aa×Int):Ev:=if r.2==0 then .pc (if iso then NZ r.1 else r.1) else .er r.2
def Iv(st:Aa×Int):Ev->Aa×Int
 | .pc s=>(st.1++s,if((st.1++s).length:Int)>20000 then 6 else st.2)
 | .er e=>(st.1,e)
def aA(st:Aa×Int):Prop:=(st.2==0)=true->st.1.length<=20000
theorem aV{st:Aa×Int}(h:st.1.length<=20000)(ev:Ev):aA (Iv st ev):=by
 cases ev with
 | pc s=>intro a;unfold Iv at a⊢;grind
 | er e=>intro _;exact h
structure XOk (X:WX) (c:Nat):Prop where
 L:WD X.L c
 rules:A7 X.L.card+A7 X.L.ord<=2^24
 vals:∀v∈X.vs,Ri v/\v.text.length<=2^24
 n:X.vs.length<=2^40
 dlen:∀sk d,(Ex X.L sk d).1.length<=2^24
theorem RA(L:BR)(a:K6 L)(b:Xj L)(u n:Aa)(c:n.length<=2^30):(Fe L u n).1.length<=2^16+(2^23+2^19):=by
 have d:=If L a n [] c;unfold Fe;split
 .split
  .simp
  .rename_i p hp;have:=NS b hp;have:=Sh p [123,48,125] (DL L n []).1;grind
 .simp
theorem R0(L:BR)(st:Aa)(l:List Aa):(Fb L st l).1.length<=20000:=by unfold Fb;grind
theorem uM(b:Bu W0)(X:WX)(c:Nat)(a:XOk X c)(k:Int)(st:Aa)(v:BC)(d:v∈X.vs):(MR X.L k st v).1.length<=2^24:=by obtain⟨f,v2⟩:=a.vals v d;have e:=If X.L a.L.sym v.text st (by omega);have a2:=RA X.L a.L.sym a.L.uni st v.text (by omega);have a3:=a.dlen st v.date;have a4:=R0 X.L st v.list;have a5:=(Lx W0 b v.date).2;unfold MR;grind
theorem AaI{pre σ:Aj}(h:∀q∈pre,lk σ q.1=none):∀i e,lk σ i=some e->lk (pre++σ) i=some e:=by
 induction pre with
 | nil=>intro i e h;exact h
 | cons a pre g=>intro i e f;obtain⟨c,b⟩:=a;have d:=h (c,b) (by simp);show(if c=i then some b else lk (pre++σ) i)=some e;grind
end Go.Ir

namespace Go.Ir
end Go.Ir

namespace Go.Ir
open Go.Proofs
variable(W0:World)
theorem zF(c:UInt8):DF c=Bc.contains c:=by
 have h:∀n:_root_.Fin 256,DF (UInt8.ofNat n.val)=Bc.contains (UInt8.ofNat n.val):=by decide +kernel
 have:=h ⟨c.toNat,c.toNat_lt⟩;simpa using this
theorem Z8(p:Aa):Lib.trimLeftS p Bc=p.drop (p.takeWhile DF).length/\p.length-(Lib.trimLeftS p Bc).length=(p.takeWhile DF).length:=by
 have a:Lib.trimLeftS p Bc=p.dropWhile DF:=by unfold Lib.trimLeftS;congr 1;funext c;rw[zF]
 have b:p.takeWhile DF++p.dropWhile DF=p:=List.takeWhile_append_dropWhile;grind
theorem fO(o:Bu W0)(x:Ll)(c:Nat)(s:NO x c):∀(n:Nat) (p:Aa) (out g:List Aa),Co n p out=some g->out.length<=g.length/\∀(m:Nat) (a:Aa),(BS x m p a).1.length<=a.length+p.length+(g.length-out.length)*c:=by
 intro n
 induction n with
 | zero=>intro p out g h;simp[Co] at h
 | succ n j=>
  intro p out g h;rw[Co] at h;obtain⟨t,t2⟩:=Z8 p;rw[t2,t] at h;split at h
  .rename_i d;cases h;refine⟨AzR _,λm a=>?_⟩;cases m with
   | zero=>rw[BS];simp only;omega
   | succ m=>rw[BS,if_pos d];simp only;omega
  .rename_i d;have q:1<=p.length:=by grind
   have r:(p.takeWhile DF).length<=p.length:=(List.takeWhile_sublist _).length_le;generalize f:(p.takeWhile DF).length=k at *;split at h
   .rename_i l;have b:k=0:=by simp_all
    obtain⟨e,i2⟩:=j _ _ _ h;refine⟨e,λm a=>?_⟩;cases m with
    | zero=>rw[BS];simp only;omega
    | succ m=>rw[BS,if_neg d,f,if_pos (by simp[b])];grind
   .rename_i l;have b:1<=k:=by grind
    split at h
    .obtain⟨e,i2⟩:=j _ _ _ h;rw[AhT,List.length_singleton] at e i2;refine⟨by omega,λm a=>?_⟩;have i:(g.length-out.length)*c=(g.length-(out.length+1))*c+c:=by rw[show g.length-out.length=(g.length-(out.length+1))+1 by omega,Nat.succ_mul]
     cases m with
     | zero=>rw[BS];simp only;omega
     | succ m=>have u:=Mr W0 o x c s (p.take k);rw[BS,if_neg d,f,if_neg (by simp;omega)];grind
    .cases h
theorem Qf:∀(n:Nat) (p:Aa) (out g:List Aa),Co n p out=some g->(∀f∈out,Fz f=true)->∀f∈g,Fz f=true:=by
 intro n
 induction n with
 | zero=>intro p out g h;simp[Co] at h
 | succ n b=>intro p out g h a;rw[Co] at h;grind
theorem SS{f:Aa}(h:Fz f=true):f.take 1∈CC:=by unfold Fz EE at h;simp only[Az9,decide_eq_true_eq] at h;simp only[Am8,AxN,or_false] at h;rcases h with rfl|rfl|rfl|rfl|rfl|rfl|rfl<;>decide
theorem OM{Q:List Aa}(f:Q.Pairwise (λx y=>x<=y))(a:(Lib.compact Q).length=Q.length):Q.Nodup:=by
 unfold Lib.compact Lib.compactUpTo at a;rw[Abn] at a;have b:((List.range Q.length).filter (Lib.keeps Q.toArray)).length=(List.range Q.length).length:=by rw[a,List.length_range]
 rw[List.length_filter_eq_length_iff] at b;rw[List.pairwise_iff_getElem] at f;unfold List.Nodup;rw[List.pairwise_iff_getElem];intro i j h d c g;have e:=b j (by simpa using d);unfold Lib.keeps at e;grind
theorem oK{p:Aa}(h:ZM p=true):∃g,GU p=some g/\g.length<=4:=by
 have:∃l,Dz l p=true:=by unfold ZM at h;simp only[Ayj] at h;grind
 obtain⟨l,h⟩:=this;unfold Dz at h;split at h
 .rename_i w g s d;simp only[AzP] at h;refine⟨g,d,?_⟩;have e:=h.2.1;unfold Gh at e;simp only[beq_iff_eq] at e;have k:(Kx (g.map λf=>f.take 1)).length=g.length:=by unfold Kx;simp_all
  have o:=OM (Q:=Kx (g.map λf=>f.take 1)) (by unfold Kx;have:=List.pairwise_mergeSort (le:=fun(x y:Aa)=>decide (x<=y)) (λa b c q r=>by grind) (λa b=>by grind) (g.map λf=>f.take 1);simpa using this) (by rw[e,k]);have j:=ZU o (b:=CC) λx i=>by unfold Kx at i;rw[List.mem_mergeSort] at i;obtain⟨f,m,rfl⟩:=AmB.1 i;unfold GU at d;exact SS (Qf _ _ _ _ d (by simp) f m)
  rw[k] at j;exact j
 .cases h
theorem Sg(f:Bu W0)(L:BR)(c:Nat)(b:lC L c)(h:c<=2^20)(m:Aa)(d:Int):(Ex L m d).1.length<=2^24:=by
 unfold Ex;cases i:DD d with
 | false=>simp
 | true=>
  obtain⟨q1,q2,q3,l,s,t⟩:=Pv i;have a:NO (Kk L d) c:=by
   have q:(d+25567).tmod 7<7:=Int.tmod_lt_of_pos _ (by omega);refine⟨?_,q3,l,?_,?_,b.c24,b.ml,b.dl⟩
   .show(G8 d).1.toNat<_;omega
   .show((Fy d).2+1).toNat<_;omega
   .show((d+25567).tmod 7).toNat<_;omega
  simp only[if_true];split
  .simp
  .split
   .split
    .rename_i p hp;split
     .rename_i j;obtain⟨g,e,o⟩:=oK j;unfold GU at e;have k:=(b.pt p (AzT hp)).1;have:=(fO W0 f (Kk L d) c a _ _ _ _ e).2 (p.pat.length+1) [];unfold Ic;have r:(g.length-0)*c<=4*2^20:=AzK (by omega) h;grind
     .simp
    .simp
   .simp
theorem DM{a:Type}{f:a->Nat}:∀{l:List a} {x:a},x∈l->f x<=B5 f l
 | [],x,h=>by cases h
 | y::l,x,h=>by
  rw[B5];rcases Am8.1 h with rfl|h
  .omega
  .have:=DM (f:=f) h;omega
theorem Aat(a b:Nat)(h:a+b<=40026):a*b<=2^29:=by
 have key:∀a k:Nat,2*a+k<=40026->a*(a+k)<=2^29:=by intro a k h;have c:(2*a+k)*(2*a+k)<=40026*40026:=AzK h h;grind
 rcases Nat.le_total a b with c|c
 .obtain⟨k,rfl⟩:∃k,b=a+k:=⟨b-a,by omega⟩;exact key a k (by omega)
 .obtain⟨k,rfl⟩:∃k,a=b+k:=⟨a-b,by omega⟩;grind
theorem Ah9(L:BR)(h:Nb L<=40000)(hp:-9223372036854775808<=L.prim)(a:L.sec<9223372036854775808)(i:A7 L.card+A7 L.ord<=2^24):WD L (El L.months+El L.days+24)/\El L.months+El L.days+24<=2^20:=by
 have c:El [L.tag,L.parent,L.dir,L.dec,L.grp,L.minus,L.perc]=Hi L.tag+(Hi L.parent+(Hi L.dir+(Hi L.dec+(Hi L.grp+(Hi L.minus+(Hi L.perc+0)))))):=rfl;unfold Nb at h;rw[c] at h;unfold Hi at h;have l1:L.lists.length<=B5 CJ.sz L.lists:=ET (λx=>by unfold CJ.sz El;simp only[B5,Hi];omega) _;have j:L.units.length<=B5 D6.sz L.units:=ET (λx=>by unfold D6.sz El;simp only[B5,Hi];omega) _;have k:L.dates.length<=B5 CO.sz L.dates:=ET (λx=>by unfold CO.sz El;simp only[B5,Hi];omega) _;have g:∀s∈L.months,s.length<=El L.months:=λs a=>by have:=DM (f:=Hi) a;unfold El;unfold Hi at this⊢;omega
 have b:∀s∈L.days,s.length<=El L.days:=λs a=>by have:=DM (f:=Hi) a;unfold El;unfold Hi at this⊢;omega
 refine⟨⟨⟨?_,?_,?_,?_,hp,a⟩,⟨by omega,λu d=>?_⟩,⟨by omega,λp hp=>?_⟩,⟨by omega,λs a=>?_,λs a=>?_,by omega,λp hp=>?_,λp hp=>?_⟩,by omega⟩,by omega⟩
 .omega
 .omega
 .omega
 .omega
 .have:=DM (f:=D6.sz) d;unfold D6.sz El at this;simp only[B5,Hi] at this;unfold D6.sz El at h;simp only[B5,Hi] at h;omega
 .have:=DM (f:=CJ.sz) hp;have e:CJ.sz p=p.style.length+p.two.length+p.start.length+p.mid.length+p.fin.length+(CJ.sz p-(p.style.length+p.two.length+p.start.length+p.mid.length+p.fin.length)):=by unfold CJ.sz El;simp only[B5,Hi];omega
  omega
 .have:=g s a;omega
 .have:=b s a;omega
 .have:=DM (f:=CO.sz) hp;have e:p.skel.length+p.pat.length<=CO.sz p:=by unfold CO.sz El;simp only[B5,Hi];omega
  omega
 .have:=DM (f:=CO.sz) hp;have e:p.skel.length+p.pat.length<=CO.sz p:=by unfold CO.sz El;simp only[B5,Hi];omega
  refine⟨by omega,Aat _ _ (by omega)⟩
end Go.Ir

namespace Go.Ir
open Go.Proofs Go.RowKit
variable(W0:World)
def IZ(a:Type):V->Option (List a):=Mf λ_=>none
theorem Ea{a:Type}(enc:a->V):G4 (IZ a) λl=>.sl (l.map enc):=Eu λv x h=>by cases h
def cZ:V->Option BR
 | .agg [a,b,c,h,i,d,e,f,g,p,q,j,k,l,m,o]=>(Cw a).bind λa=>(Cw b).bind λb=>(Cw c).bind λc=>(IZ AF h).bind λh=>(IZ AF i).bind λi=>(Cw d).bind λd=>(Cw e).bind λe=>(Cw f).bind λf=>(Cw g).bind λg=>(Fu p).bind λp=>(Fu q).bind λq=>(IZ CJ j).bind λj=>(IZ D6 k).bind λk=>(IZ CO l).bind λl=>(IZ Aa m).bind λm=>(IZ Aa o).bind λo=>some ⟨a,b,c,h,i,d,e,f,g,p,q,j,k,l,m,o⟩
 | _=>none
theorem uZ:G4 cZ BR.enc:=by
 intro v l h;unfold cZ at h;split at h
 .obtain⟨a,x,h⟩:=Aem.1 h;obtain⟨b,y,h⟩:=Aem.1 h;obtain⟨c,z,h⟩:=Aem.1 h;obtain⟨J,A,h⟩:=Aem.1 h;obtain⟨K,B,h⟩:=Aem.1 h;obtain⟨d,C,h⟩:=Aem.1 h;obtain⟨e,D,h⟩:=Aem.1 h;obtain⟨f,E,h⟩:=Aem.1 h;obtain⟨g,F,h⟩:=Aem.1 h;obtain⟨p,G,h⟩:=Aem.1 h;obtain⟨q,m,h⟩:=Aem.1 h;obtain⟨L,o,h⟩:=Aem.1 h;obtain⟨M,r,h⟩:=Aem.1 h;obtain⟨N,s,h⟩:=Aem.1 h;obtain⟨O,t,h⟩:=Aem.1 h;obtain⟨R,u,h⟩:=Aem.1 h;cases h;rw[BR.enc_eq];refine⟨.agg _ _ rfl λj c I k i=>?_,rfl,rfl,rfl⟩
  match j with
  | 0=>simp at k i;subst k i;exact(B3 _ _ x).1
  | 1=>simp at k i;subst k i;exact(B3 _ _ y).1
  | 2=>simp at k i;subst k i;exact(B3 _ _ z).1
  | 3=>simp at k i;subst k i;exact(Ea _ _ _ A).1
  | 4=>simp at k i;subst k i;exact(Ea _ _ _ B).1
  | 5=>simp at k i;subst k i;exact(B3 _ _ C).1
  | 6=>simp at k i;subst k i;exact(B3 _ _ D).1
  | 7=>simp at k i;subst k i;exact(B3 _ _ E).1
  | 8=>simp at k i;subst k i;exact(B3 _ _ F).1
  | 9=>simp at k i;subst k i;exact(CY _ _ G).1
  | 10=>simp at k i;subst k i;exact(CY _ _ m).1
  | 11=>simp at k i;subst k i;exact(Ea _ _ _ o).1
  | 12=>simp at k i;subst k i;exact(Ea _ _ _ r).1
  | 13=>simp at k i;subst k i;exact(Ea _ _ _ s).1
  | 14=>simp at k i;subst k i;exact(Ea _ _ _ t).1
  | 15=>simp at k i;subst k i;exact(Ea _ _ _ u).1
  | j+16=>simp at k
 .cases h
def TG:V->Option BC
 | .agg [a,b,c,d,e]=>(Cw a).bind λa=>(Fu b).bind λb=>(Cw c).bind λc=>(Fu d).bind λd=>(IZ Aa e).bind λe=>some ⟨a,b,c,d,e⟩
 | _=>none
theorem aE:G4 TG BC.enc:=by
 intro v l h;unfold TG at h;split at h
 .obtain⟨a,i,h⟩:=Aem.1 h;obtain⟨b,k,h⟩:=Aem.1 h;obtain⟨c,m,h⟩:=Aem.1 h;obtain⟨d,o,h⟩:=Aem.1 h;obtain⟨e,p,h⟩:=Aem.1 h;cases h;rw[BC.enc_eq];refine⟨.agg _ _ rfl λj c q g f=>?_,rfl,rfl,rfl⟩
  match j with
  | 0=>simp at g f;subst g f;exact(B3 _ _ i).1
  | 1=>simp at g f;subst g f;exact(CY _ _ k).1
  | 2=>simp at g f;subst g f;exact(B3 _ _ m).1
  | 3=>simp at g f;subst g f;exact(CY _ _ o).1
  | 4=>simp at g f;subst g f;exact(Ea _ _ _ p).1
  | j+5=>simp at g
 .cases h
def As8(L:BR)(ps:List Aw)(vs:List BC):Bool:=
 Nat.ble (Nb L) 40000&&(Nat.ble (A7 L.card+A7 L.ord) 1000000&&(decide (-9223372036854775808<=L.prim)&&(decide (L.sec<9223372036854775808)&&(Nat.ble (Eo ps) 1000000&&(Nat.ble vs.length 1000&&vs.all λv=>Nat.ble v.text.length 1000000&&v.list.isEmpty)))))
theorem wS(e:Bu W0)(L:BR)(vs:List BC)(iso:Bool)(h:Nb L<=40000)(hp:-9223372036854775808<=L.prim)(g:L.sec<9223372036854775808)(b:A7 L.card+A7 L.ord<=2^24)(f:vs.length<=2^40)(i:∀v∈vs,Ri v/\v.text.length<=2^24):XOk ⟨L,vs,iso⟩ (El L.months+El L.days+24):=by obtain⟨a,c⟩:=Ah9 L h hp g b;exact⟨a,b,i,f,λj d=>Sg W0 e L _ a.dat c j d⟩
end Go.Ir
section
set_option maxRecDepth 100000
namespace Go.Ir
open Go.Proofs
end Go.Ir
end
section
set_option maxRecDepth 1000000
namespace Go.Ir
open Go.Proofs
end Go.Ir
end
namespace Go.Ir
open Go.Proofs
variable{P:Program}{W0:World}{nt n:Nat}{Q:Exit→St→Prop}{env:A9}{σ:Aj}
end Go.Ir

namespace Go.Ir
open Go.Proofs
variable(W0:World)
theorem XG:∀(l:List Aa) (n:Int),QX l n<=200->n<=200/\∀s∈l,s.length<=200
 | [],n,h=>⟨h,λs a=>by cases a⟩
 | x::r,n,h=>by
  rw[QX] at h;obtain⟨c,b⟩:=XG r _ h;refine⟨by omega,λs a=>?_⟩;rcases Am8.1 a with rfl|a
  .omega
  .exact b s a
theorem M4{e:Bool}:∀{vs:List BC},C6 e vs=true->e=true/\∀v∈vs,Ri v/\v.text.length<=2^24
 | [],h=>⟨h,λv i=>by cases i⟩
 | v::r,h=>by
  rw[C6,AzP,Ar9,Aya,Aya,decide_eq_false_iff_not,decide_eq_false_iff_not] at h;obtain⟨⟨⟨j,k⟩,_⟩,b⟩:=h;obtain⟨c,d⟩:=M4 b;obtain⟨l,f⟩:=XG v.list (v.text.length:Int) (by omega);refine⟨c,λx a=>?_⟩;rcases Am8.1 a with rfl|a
  .exact⟨⟨by omega,by omega,λs g=>by have:=f s g;omega⟩,by omega⟩
  .exact d x a
theorem zO(c:Bu W0)(L:BR)(vs:List BC)(iso:Bool)(hp:-9223372036854775808<=L.prim)(e:L.sec<9223372036854775808)(f:A7 L.card+A7 L.ord<=2^24)(d:vs.length<=2^40)(a:Ix L=true)(b:C6 (decide ((vs.length:Int)<=30)) vs=true):XOk ⟨L,vs,iso⟩ (El L.months+El L.days+24):=by unfold Ix at a;simp only[AzP,decide_eq_true_eq] at a;exact wS W0 c L vs iso (by omega) hp e f d (M4 b).2
end Go.Ir

namespace Go.Ir
open Go Go.Proofs Go.RowKit Go.Maps Go.Sort Go.Shelf Go.WideElems
variable(W0:World)
def Q7(m:Dt):DataW Unit:=.map ((m.map λe=>(Lit.string e.1,DataW.nil)).foldr DataW.insert [])
def H4(m:Dt):List Aa:=(strKeys (Q7 m)).mergeSort (λx y=>decide (x<=y))
theorem Wn(m:Dt):(H4 m).length=m.length:=by unfold H4 Q7 strKeys;rw[Azj,Abn,(Azu _).length_eq,Abn]
def O8:Nat:=84
theorem Aln(m:Dt)(mid:Id):Ez Tryz.prog W0 52 [.arr mid] [(mid,.map (Dl m))] (λn n' v σ'=>∃d:Id,n<=d.1/\d.1<n'/\v=.fn O8 [] [.ref d 0]/\σ'=[(d,.box (.arr mid)),(mid,.map (Dl m))]) where
 callable:=by kernel_rfl
 run:=by
  intro n w μ H vals hp b;obtain⟨x,rfl⟩:∃x,vals=[x]:=by
   match vals,b.len with
   | [x],_=>exact⟨x,rfl⟩
  have y:=b.at_ 0 _ _ rfl rfl;obtain⟨p,_⟩:=y.arr_inv;have u:lk [(mid,A5.map (Dl m))] mid=some (.map (Dl m)):=by simp[lk]
  obtain⟨r,z,j,o,B,C,D⟩:=hp.ents _ _ u;rw[p] at o;cases o;refine AwZ ((callsIn_wide (n:=5)).1 (AnyZ.keys_in Tryz.keysA Fence.wide 5 trivial rfl (some r) w)) ?_;rintro e w' ⟨rfl,rfl⟩;have a:μ (n,0)=none:=hp.bd _ (AzR _);have i:=Bm (v:=.pointer (some ⟨w.heap.size,0,none⟩)) a;have f:=(hp.more (Am9 n)).new_ (n':=n+1) (R:=λ_=>False) (AR.alloc w (.cells #[.map (some r)] (Tryz.keysA_ren.t 23))) (λ_ h=>h.elim) (σ1:=[(mid,.map (Dl m))]) (λid e h=>⟨h,λ_ _ h=>h⟩) (id:=(n,0)) (e:=.box (.arr mid)) (val:=.pointer (some ⟨w.heap.size,0,none⟩)) a (AzS _) (AzR _) (λA s=>by right;simp[BB] at s;omega)
   ⟨w.heap.size,#[.map (some r)],Tryz.keysA_ren.t 23,Ap _ _ _,hp.base.size,by simp[-World.alloc_eq,World.alloc],⟨⟨rfl,λk c v g b=>by
    cases k with
    | zero=>simp[cells] at g b;subst g b;exact .arr _ _ (i _ _ p) rfl
    | succ k=>simp[cells] at g⟩,λv b=>by simp at b;subst b;rfl⟩⟩
  refine⟨_,_,H,n+1,_,_,rfl,⟨(n,0),AzR _,AzS _,rfl,rfl⟩,?_,f.1,Am9 _,f.2,λid l q=>?_⟩
  .exact .fn _ [] [.ref (n,0) 0] [] [.pointer (some ⟨w.heap.size,0,none⟩)] rfl rfl (λk c v h=>by cases h) (λk c v g b=>by
    cases k with
    | zero=>simp at g b;subst g b;exact .ref _ _ _ (Ap _ _ _)
    | succ k=>simp at g)
  .rw[B0 _ _ (by rintro rfl;simp at l)];exact q
theorem AkP(m:Nat):AnyZ.SortsIn Tryz.prog Tryz.sortedA_ren Fence.wide m:=
 ⟨λBB off a e W d b c=>callsIn_wide.2 (AnyM.slices_Sort_string Tryz.sortA BB off a e W d b c),λp a W=>callsIn_wide.2 (AnyM.slices_Sort_string_none Tryz.sortA p a W)⟩
def AaE:Value->Option (DataW Unit×List MemPlace):=λ_=>some (.nil,[])
theorem VO{l:Aa}(b:l.length<=2^40):keyOf Tryz.prog 9 (.string ⟨l.toArray⟩)=some (.string l):=by
 have h:(Tryz.prog).underlying 9=some .string:=by kernel_rfl
 unfold keyOf;rw[h];simp only;unfold mapKey;rw[h];simp only;have a:l.length<=maxLen:=Am5 b (by decide);rw[if_pos (by simpa[ByteArray.size] using a)]
theorem uR{μ:Id->Option Value}{H:Addr->Option Value}{w:World}{m:Dt}{r g:Nat}{c:Array MapEntry}(A:(m.map Prod.fst).Nodup)(q:m.length<=2^30)(B:∀e∈m,e.1.length<=2^40)(D:w.heap[r]?=some (.map c g))(o:bD μ H (Dl m) c.toList g) :
  w.ownsMap Tryz.prog 9 AaE r m.length (Q7 m):=by
 have z:c.toList.length=m.length:=by rw[<-o.len];simp[Dl]
 have j:∀(k:Nat) (x:MapEntry),c.toList[k]?=some x->∃e,m[k]?=some e/\x.key=.string ⟨e.1.toArray⟩/\x.born=k:=by
  intro k x d;have p:k<m.length:=by rw[<-z];exact(Af8.1 d).1
  refine⟨m[k],Afb p,?_,o.born k x d⟩;have v:(Dl m)[k]?=some (.s (m[k]).1,.i .i64 (m[k]).2):=by simp[Dl,Afb p]
  exact(B6 (o.at_ k _ _ v d).1).1
 have t:c.toList.map (rg Tryz.prog 9 AaE)=m.map λe=>(Lit.string e.1,DataW.nil):=by
  apply AwD;intro k;rw[Akg,Akg];cases d:c.toList[k]? with
  | none=>
   have:m[k]?=none:=by rw[Azv] at d⊢;omega
   rw[this];rfl
  | some x=>obtain⟨e,l,f,_⟩:=j k x d;rw[l];simp only[AwW,Amy];refine rg_of ?_;unfold WideElems.rd AaE;rw[f,VO (B e (AzT l))];rfl
 refine⟨c,g,D,⟨?_,⟨?_,?_,?_⟩,?_⟩,?_,?_⟩
 .have:c.size=m.length:=by simpa using z
  rw[this];exact Am5 q (by decide)
 .intro x d;obtain⟨k,h⟩:=At5.1 d;have:=o.born k x h;have u:=(Af8.1 h).1;rw[o.now];omega
 .have:c.toList.map (·.born)=List.range c.toList.length:=by
   apply AwD;intro k;rw[Akg];cases d:c.toList[k]? with
   | none=>rw[Azv] at d;rw[Az4 (by simpa using d)];rfl
   | some x=>have u:=(Af8.1 d).1;rw[List.getElem?_range u];simp only[AwW,o.born k x d]
  rw[this];exact List.nodup_range
 .have:c.toList.map (·.key)=m.map λe=>Value.string ⟨e.1.toArray⟩:=by
   apply AwD;intro k;rw[Akg,Akg];cases d:c.toList[k]? with
   | none=>
    have:m[k]?=none:=by rw[Azv] at d⊢;omega
    rw[this];rfl
   | some x=>obtain⟨e,l,f,_⟩:=j k x d;rw[l];simp[f]
  rw[this,show(λe:Aa×Int=>Value.string ⟨e.1.toArray⟩)=(λs:Aa=>Value.string ⟨s.toArray⟩) ∘ Prod.fst from rfl,<-AyY];refine List.Pairwise.map _ (λa b y C=>y ?_) A;injection C with v;have u:=congrArg (λb:ByteArray=>b.data.toList) v;simpa using u
 .intro x d;obtain⟨k,h⟩:=At5.1 d;obtain⟨e,l,f,_⟩:=j k x h;refine⟨(Lit.string e.1,DataW.nil),?_⟩;unfold WideElems.rd AaE;rw[f,VO (B e (AzT l))];rfl
 .have:c.size=m.length:=by simpa using z
  omega
 .rw[t];rfl
theorem Ab4{m:Dt}{x:Aa}(h:x∈H4 m):∃e∈m,e.1=x:=by unfold H4 Q7 strKeys at h;rw[List.mem_mergeSort] at h;obtain⟨p,hp,rfl⟩:=AmB.1 h;obtain⟨e,a,rfl⟩:=AmB.1 (mem_sorted.1 hp);exact⟨e,a,rfl⟩
theorem AjL(l:List Aa):AC (l.map V.s)=l.map V.s:=by
 induction l with
 | nil=>rfl
 | cons x l a=>simpa[AC,cells] using a
theorem AbF{μ:Id->Option Value}{H:Addr->Option Value}{m:Dt}(g:∀e∈m,e.1.length<=2^40):AK μ H (AC ((H4 m).map V.s)) ((H4 m).map encStr):=by
 rw[AjL];refine⟨⟨by simp,λk c v b a=>?_⟩,λv a=>?_⟩
 .rw[Akg] at b a;obtain⟨x,d,rfl⟩:=AeM.1 b;rw[d] at a;cases a;obtain⟨e,f,rfl⟩:=Ab4 (AzT d);exact .s _ (by have:=g e f;simp only[AJ];omega)
 .obtain⟨x,_,rfl⟩:=AmB.1 a;rfl
theorem eN(m:Dt)(O:(m.map Prod.fst).Nodup)(l:m.length<=2^30)(D:∀e∈m,e.1.length<=2^40)(a mid:Id)(S:a≠mid) :
  Iu Tryz.prog W0 51 [.fn O8 [] [.ref a 0]] [(a,.box (.arr mid)),(mid,.map (Dl m))] (.arr 9 1 ((H4 m).map V.s)) [(a,.box (.arr mid)),(mid,.map (Dl m))] where
 callable:=by kernel_rfl
 dom:=λ_ h=>h
 run:=by
  intro n w μ H vals hp hv;obtain⟨x,rfl⟩:∃x,vals=[x]:=by
   match vals,hv.len with
   | [x],_=>exact⟨x,rfl⟩
  have hx:=hv.at_ 0 _ _ rfl rfl;have M:lk [(a,A5.box (.arr mid)),(mid,A5.map (Dl m))] a=some (.box (.arr mid)):=by simp[lk]
  have N:lk [(a,A5.box (.arr mid)),(mid,A5.map (Dl m))] mid=some (.map (Dl m)):=by simp[lk,S]
  obtain⟨t,F,ct,k1,k2,k3,k4⟩:=hp.ents _ _ M;obtain⟨r,an,E,C,Y,Z,I⟩:=hp.ents _ _ N;obtain⟨y,rfl,U⟩:∃y,x=.func (.func O8) #[] #[y]/\Ao μ H (.ref a 0) y:=by
   cases hx with
   | fn _ _ _ bs fs C Y Z I=>
    match bs,fs,C,Y with
    | [],[y],_,_=>exact⟨y,rfl,I 0 _ _ rfl rfl⟩
  obtain⟨ae,J,rfl⟩:=U.ref_inv;rw[J] at k1;cases k1;obtain⟨aa,f⟩:μ mid=some (.map (some r))/\True:=⟨C,trivial⟩;have p:w.cell? ⟨t,0,none⟩=some (.map (some r)):=by have G:=k4.get (k:=0) (c:=.arr mid) rfl;obtain⟨z,hz,X⟩:=G;have:=X.arr_inv.1;rw[C] at this;cases this;simp[World.cell?,k3];simpa using hz
  have K:t<w.heap.size:=(As4.1 k3).1;have u:=uR O l D Z I;have A:=AnyZ.keys_gives (ρ:=Tryz.keysA_ren) { Tryz.keysA with } Fence.wide 2 trivial rfl (by omega) t r m.length (Q7 m) w K p u;have hN:Maps.size (Q7 m)<=2^30:=by unfold Q7;rw[Maps.size_eq,(Azu _).length_eq,Abn];exact l
  have cS:=AnyZ.sorted_in Tryz.sortedA Fence.wide 5 trivial trivial trivial trivial rfl (by omega) (AkP _) (enters_of Tryz.func83 (by kernel_rfl) rfl) O8 #[.pointer (some ⟨t,0,none⟩)] trivial (enters_of Tryz.func84 (by kernel_rfl) rfl) _ _ (Am5 hN (by decide)) (by omega) _ A;refine AwZ ((callsIn_wide (n:=5)).1 cS) ?_;rintro e w' ⟨v,ss,rfl,hS,i,ab,j⟩;have b:μ (n,0)=none:=hp.bd _ (AzR _);have B:ss.mergeSort (λx y=>decide (x<=y))=H4 m:=mergeSort_of_perm hS;have q:ss.length=(H4 m).length:=by rw[<-B,Azj]
  rw[B,q] at i;have d:=i.2;have f:v.oneCell'=true:=by rcases d with⟨rfl,_⟩|⟨g,cap,cur,rfl,_⟩<;>rfl
  have o:=(hp.more (Am9 n)).new_ (n':=n+1) (R:=λ_=>False) (w':=w') ⟨j.os,j.tape,j.output,j.size,λk D _=>j.block k D⟩ (λ_ h=>h.elim) (σ1:=[(a,.box (.arr mid)),(mid,.map (Dl m))]) (λid e h=>⟨h,λ_ _ h=>h⟩) (id:=(n,0)) (e:=.arr 9 1 ((H4 m).map V.s)) (val:=v) b (AzS _) (AzR _) (λt j=>by
    right;rcases d with⟨rfl,_⟩|⟨g,cap,cur,rfl,hg,_⟩
    .simp[BB] at j
    .simp[BB] at j;omega)
   ⟨v,(H4 m).map encStr,Ap _ _ _,f,by rw[Abn];exact ownsRow_base_a i hp.base.size,by rw[Abn,Wn];unfold AI;omega,by intro y U;obtain⟨x,_,rfl⟩:=AmB.1 U;rfl,AbF D⟩
  refine⟨v,_,H,n+1,(n,0),rfl,Ap _ _ _,f,b,by cases hq:lk [(a,A5.box (V.arr mid)),(mid,A5.map (Dl m))] (n,0) with|none=>rfl|some e=>exact absurd (hp.ents _ _ hq).named (by rw[b];rintro⟨_,h⟩;cases h),o.1,Am9 _,o.2,λid L G=>?_⟩;rw[B0 _ _ (by rintro rfl;simp at L)];exact G
end Go.Ir

namespace Go.Ir
open Go.Proofs
variable(W0:World)
def J5(m:Dt):Dt:=(H4 m).map λn=>(n,(AU m n).getD 0)
theorem LV(m:Dt)(n:Aa)(k:Int):(Ep m n k).map Prod.fst=if n∈m.map Prod.fst then m.map Prod.fst else m.map Prod.fst++[n]:=by
 induction m with
 | nil=>rfl
 | cons e m d=>
  rw[Ep];by_cases h:e.1=n
  .have b:(e.1==n)=true:=by simpa using h
   rw[b,if_pos rfl,if_pos (by simp[h])];simp 
  .have b:(e.1==n)=false:=by simpa using h
   rw[b,if_neg (by simp),AlG,d,AlG];by_cases a:n∈m.map Prod.fst
   .rw[if_pos a,if_pos (AzQ _ a)]
   .rw[if_neg a,if_neg (by simp only[Am8,not_or];exact⟨λc=>h c.symm,a⟩)];rfl
theorem jZ(t:Dt×Bool)(u:Aa×Int):∃k,(DU t u).1=Ep t.1 u.1 k:=by
 unfold DU;split
 .exact⟨_,rfl⟩
 .exact⟨_,rfl⟩
theorem ZC(us:List (Aa×Int)):∀t:Dt×Bool,(t.1.map Prod.fst).Nodup->((us.foldl DU t).1.map Prod.fst).Nodup/\(us.foldl DU t).1.length<=t.1.length+us.length/\∀n∈(us.foldl DU t).1.map Prod.fst,n∈t.1.map Prod.fst\/∃u∈us,u.1=n:=by
 induction us with
 | nil=>intro t h;exact⟨h,AzR _,λn d=>.inl d⟩
 | cons u us p=>
  intro t h;obtain⟨k,m⟩:=jZ t u;have hp:=LV t.1 u.1 k;rw[<-m] at hp;have f:(DU t u).1.length<=t.1.length+1:=by
   have:=congrArg List.length hp;rw[Abn] at this;rw[this];split
   .simp
   .simp
  obtain⟨g,q,i⟩:=p (DU t u) (by
   rw[hp];split
   .exact h
   .rename_i d;rw[AzN];refine⟨h,by simp,λa j b e l=>d ?_⟩;simp only[Atd] at e;rw[<-e,<-l];exact j)
  refine⟨g,by rw[AiL];simp only[AvR];omega,λn d=>?_⟩;rcases i n d with c|⟨v,o,rfl⟩
  .rw[hp] at c;split at c
   .exact .inl c
   .rcases Am2.1 c with c|c
    .exact .inl c
    .simp only[Atd] at c;exact .inr ⟨u,by simp,c.symm⟩
  .exact .inr ⟨v,by simp[o],rfl⟩
theorem AaS{m:Dt}{n:Aa}{x:Int}(h:AU m n=some x):∃e∈m,e.1=n:=by
 induction m with
 | nil=>cases h
 | cons e m f=>
  rw[AU] at h;split at h
  .rename_i d;exact⟨e,by simp,by simpa using d⟩
  .obtain⟨a,b,c⟩:=f h;exact⟨a,by simp[b],c⟩
theorem Mi{W0:World}{nt n:Nat}{env:A9}{σ:Aj}{e:V}(b:get env 2=.nil)(c:get env 3=e):KC W0 nt [.t 2,.t 3] [.sl [],e] [] .ret ⟨env,σ,n⟩:=by
 refine⟨⟨[(2,.sl []),(3,e)],[],n⟩,Ak.weak (λ_=>none) (λ_ _ h=>by cases h) (λt=>?_) (λi d h=>by cases h) (AzR _),⟨by simp[Dp,get],by simp[Dp,get],trivial⟩,λ_ _ h=>by cases h⟩;by_cases h:2=t
 .subst h;rw[b];simp only[get];exact .nil
 .by_cases a:3=t
  .subst a;rw[c];simp only[get];simp;exact .refl _
  .simp only[get,if_neg h,if_neg a];exact .any _
end Go.Ir
section
namespace Go.Ir
open Go.RowKit Go.Proofs.YtalbicndcfmbnaaGreatDoor
def Nc(a:Bool)(c:List V):V:=if a then .agg c else c.headD .any
inductive Ew (P:Program):TypeId->List V->Prop where
 | bool (t:TypeId) (b:Bool) (h:P.underlying t=some .bool):Ew P t [.b b]
 | int (t:TypeId) (k:IntKind) (n:Int) (h:P.underlying t=some (.int k)) (hw:(Lit.int k n).wf=true):Ew P t [.i k n]
 | str (t:TypeId) (l:List UInt8) (h:P.underlying t=some .string):Ew P t [.s l]
 | sl (t e:TypeId) (es:List V) (h:P.underlying t=some (.slice e)) (he:∀el∈es,∃c,el=Nc ((CW P e).getD false) c/\cells el=c) (hc:∀el∈es,(cells el).length=P.cellsOf e) (hw:∀el∈es,Ew P e (cells el)):Ew P t [.sl es]
 | st (t:TypeId) (fs:Array Field) (vs:List V) (h:P.underlying t=some (.struct fs)) (hl:vs.length=P.cellsOf t) (hf:∀f∈fs.toList,Ew P f.type ((vs.drop f.offset).take (P.cellsOf f.type))):Ew P t vs
mutual
def BG:V->Nat
 | .s l=>l.length+1
 | .sl es=>A8 es+1
 | .agg cs=>A8 cs
 | _=>1
def A8:List V->Nat
 | []=>0
 | v::vs=>BG v+A8 vs
end
theorem Fx(a b:List V):A8 (a++b)=A8 a+A8 b:=by
 induction a with
 | nil=>simp[A8]
 | cons x a c=>simp[A8,c];omega
def tQ(P:Program):List Field->Nat->Option Nat
 | [],off=>some off
 | f::a,off=>if f.offset=off then tQ P a (off+P.cellsOf f.type) else none
def ApI(P:Program)(T:List TypeId):Bool:=T.all λt=>match P.underlying t with
 | some .bool|some (.int _)|some .string=>P.cellsOf t==1
 | some (.slice e)=>P.cellsOf t==1&&T.contains e&&decide (0<P.cellsOf e)
 | some (.struct a)=>a.toList.all (λf=>T.contains f.type)&&tQ P a.toList 0==some (P.cellsOf t)
 | _=>false
section
variable{H:Type}{enc:TypeId×Value→H}{P:Program}{w:World}{base:Nat}{spare:Nat→Bool}{held:Bool}{T:List TypeId}
theorem Kp{d:DataW H}{a:List (DataW H)}(h:d∈a):Rows.uptoBulk d<=Rows.uptoBulkAll a:=by
 induction a with
 | nil=>cases h
 | cons x a b=>simp only[Rows.uptoBulkAll];grind
theorem Km{μ:Id->Option Value}{Hc:Addr->Option Value}{cs:List Value} :
  ∀(g:List Field) (off b:Nat) (c:List (DataW H)),tQ P g off=some b->cs.length=b->c.length=g.length->
   (∀(i:Nat) (f:Field) (d:DataW H),g[i]?=some f->c[i]?=some d->∃vs,AK μ Hc vs ((cs.drop f.offset).take (P.cellsOf f.type))/\Ew P f.type vs/\A8 vs<=Rows.uptoBulk d)->
   off<=b/\∃vs,AK μ Hc vs (cs.drop off)/\(∀pre:List V,pre.length=off->∀f∈g,Ew P f.type (((pre++vs).drop f.offset).take (P.cellsOf f.type)))/\A8 vs<=Rows.uptoBulkAll c
 | [],off,b,c,a,j,e,h=>by simp only[tQ,Amy] at a;subst a;refine⟨AzR _,[],?_,λ_ _ f m=>(by cases m),by simp[A8]⟩;rw[List.drop_of_length_le (by omega)];exact AK.nil_
 | f::g,off,b,c,a,j,e,h=>by
  simp only[tQ] at a;split at a
  .rename_i u;cases c with
   | nil=>simp at e
   | cons d c=>
    obtain⟨t,vs,r,z,A⟩:=Km g _ b c a j (by simpa using e) (λi o q m s=>h (i+1) o q (by simpa using m) (by simpa using s));obtain⟨us,l,x,y⟩:=h 0 f d rfl rfl;rw[u] at l;have v:us.length=P.cellsOf f.type:=by have:=l.len;grind
    refine⟨by omega,us++vs,?_,?_,?_⟩
    .have:=l.append r;rw[<-Az0,Ayp] at this;exact this
    .intro pre p o k;rcases Am8.1 k with rfl|k
     .grind
     grind
    .rw[Fx];simp only[Rows.uptoBulkAll];omega
  .cases a
theorem Ta{t:TypeId}{vs:List V}{a:Bool}(b:CW P t=some a)(h:Ew P t vs):cells (Nc a vs)=vs:=by
 cases a with
 | true=>rfl
 | false=>
  cases h with
  | st t c vs h e d=>simp[CW,h,kW] at b
  | _=>rfl
theorem Yy{t:TypeId}{vs:List V}{a:Bool}(b:CW P t=some a)(h:Ew P t vs):BG (Nc a vs)=A8 vs:=by
 cases a with
 | true=>simp[Nc,BG]
 | false=>
  cases h with
  | st t c vs h e d=>simp[CW,h,kW] at b
  | _=>simp[Nc,A8]
theorem L7{μ:Id->Option Value}(hT:ApI P T=true):∀(n:Nat) (t:TypeId) (cs:List Value) (x:DataW H×List MemPlace),t∈T->DataW.trod enc P w base spare held n t cs=some x->Rows.uptoBulk x.1<=1048576->
  ∃vs,AK μ (λo=>w.cell? o) vs cs/\Ew P t vs/\A8 vs<=Rows.uptoBulk x.1:=by
 intro n
 induction n with
 | zero=>intro t cs x _ h;simp[DataW.trod] at h
 | succ n Z=>
  intro t cs x ht h hb;have p:=Am3.1 hT t ht;have one:∀{c:V} {v:Value},Ao μ (λo=>w.cell? o) c v->v.oneCell'=true->AK μ (λo=>w.cell? o) [c] [v]:=λhv D=>
   ⟨VRels.cons hv VRels.nil_,λv' aL=>by grind⟩
  cases u:P.underlying t with
  | none=>simp[u] at p
  | some d=>
   cases d<;>simp only[u] at p<;>(try (cases p;done))
   case bool=>
    unfold DataW.trod at h;rw[u] at h
    match cs,h with
    | [.bool b],h=>cases h;exact⟨[.b b],one (.b b) rfl,.bool t b u,by simp[A8,BG,Rows.uptoBulk]⟩
   case int k=>
    unfold DataW.trod at h;rw[u] at h
    match cs,h with
    | [.int k' m],h=>
     simp only at h;split at h
     .rename_i G;obtain⟨rfl,hw⟩:=G;cases h;exact⟨[.i k' m],one (.i k' m) rfl,.int t k' m u hw,by simp[A8,BG,Rows.uptoBulk]⟩
     .cases h
   case string=>
    unfold DataW.trod at h;rw[u] at h
    match cs,h with
    | [.string s],h=>
     simp only at h;split at h
     .rename_i hs;cases h;simp only[Rows.uptoBulk] at hb;refine⟨[.s s.data.toList],one ?_ rfl,.str t _ u,by simp[A8,BG,Rows.uptoBulk]⟩;have:=Ao.s (μ:=μ) (H:=λo=>w.cell? o) s.data.toList (by unfold AJ;omega);simpa using this
     .cases h
   case slice e=>
    simp only[AzP,beq_iff_eq,Az9,decide_eq_true_eq] at p;obtain⟨⟨aE,O⟩,az⟩:=p;rcases DataW.trod_slice u h with⟨rfl,rfl⟩|⟨a,len,cap,elems,rest,m,hm,rfl,rfl,hbase,hlc,hcm,hel,helem,_,_⟩
    .exact⟨[.sl []],one (.slE none 0) rfl,.sl t e [] u (λ_ h=>by cases h) (λ_ h=>by cases h) (λ_ h=>by cases h),by simp[A8,BG,Rows.uptoBulk]⟩
    .cases hm;simp only[Rows.uptoBulk] at hb;have R:=Am3.1 hT e O;obtain⟨I,E⟩:∃I,CW P e=some I:=by
      unfold CW;cases ak:P.underlying e with
      | none=>simp[ak] at R
      | some d=>exact⟨_,rfl⟩
     have L:∀i,i<len->∃(vs:List V) (g:List Value) (y:DataW H×List MemPlace),elems[i]?=some y/\g.length=P.cellsOf e/\(∀k,k<P.cellsOf e->w.cell? (a.add (i*P.cellsOf e+k))=g[k]?)/\AK μ (λo=>w.cell? o) vs g/\Ew P e vs/\A8 vs<=Rows.uptoBulk y.1:=by
      intro i hi;have D:=helem i hi;have C:i<elems.length:=by omega
      rw[Afb C] at D;cases r:w.cells? base (a.add (i*P.cellsOf e)) (P.cellsOf e) with
      | none=>rw[r] at D;cases D
      | some g=>
       rw[r] at D;obtain⟨_,hl,F⟩:=World.cells?_some r;have B:elems[i].1∈elems.map (·.1):=AmB.2 ⟨_,Azm C,rfl⟩;have:=Kp B;obtain⟨vs,Y,r2,r3⟩:=Z e g elems[i] O D (by omega);refine⟨vs,g,elems[i],Afb C,hl,λk G=>?_,Y,r2,r3⟩;have:=F k G
       rwa [show(a.add (i*P.cellsOf e)).add k=a.add (i*P.cellsOf e+k) from by unfold Addr.add;by_cases hi:i*P.cellsOf e=0<;>by_cases hj:k=0<;>simp[hi,Ay6]] at this
     have all:∀j,j<=len->∃(es:List V) (vals:List Value),es.length=j/\vals.length=j*P.cellsOf e/\(∀q∈es,(∃c,q=Nc I c/\cells q=c)/\(cells q).length=P.cellsOf e/\Ew P e (cells q))/\AK μ (λo=>w.cell? o) (AC es) vals/\
       (∀(k:Nat) (v:Value),vals[k]?=some v->w.cell? (a.add k)=some v)/\A8 es<=Rows.uptoBulkAll ((elems.map (·.1)).take j):=by
      intro j
      induction j with
      | zero=>intro _;exact⟨[],[],rfl,by simp,λ_ h=>(by cases h),AK.nil_,λk v h=>(by simp at h),by simp[A8]⟩
      | succ j an=>
       intro hj;obtain⟨es,vals,g1,g2,J,M,g5,g6⟩:=an (by omega);obtain⟨vs,g,y,e1,e2,e3,e4,e5,e6⟩:=L j (by omega);have N:cells (Nc I vs)=vs:=Ta E e5;refine⟨es++[Nc I vs],vals++g,by simp[g1],by grind,?_,?_,?_,?_⟩
       .intro q A;rcases Am2.1 A with h'|h'
        .exact J q h'
        .rw[Atd.1 h',N];exact⟨⟨vs,rfl,rfl⟩,by rw[e4.len,e2],e5⟩
       .rw[Fn];refine M.append ?_;have:AC [Nc I vs]=vs:=by simp[AC,N]
        rw[this];exact e4
       .intro k v G;rcases Awy k vals.length with C|af
        .grind
        .rw[AsT af] at G;have ay:k-vals.length<g.length:=(Af8.1 G).1;have:=e3 (k-vals.length) (by omega);rw[G,g2,show j*P.cellsOf e+(k-j*P.cellsOf e)=k by omega] at this;exact this
       .rw[Fx];have ht:(elems.map (·.1)).take (j+1)=(elems.map (·.1)).take j++[y.1]:=by rw[List.take_add_one,Akg,e1];rfl
        have ad:∀(a b:List (DataW H)),Rows.uptoBulkAll (a++b)=Rows.uptoBulkAll a+Rows.uptoBulkAll b:=by
         intro a b
         induction a with
         | nil=>simp[Rows.uptoBulkAll]
         | cons x a Z=>simp[Rows.uptoBulkAll,Z];omega
        rw[ht,ad];have:=Yy E e5;simp only[A8,Rows.uptoBulkAll];omega
     obtain⟨es,vals,g1,g2,J,M,g5,g6⟩:=all len (AzR _);have X:∀(K:List (DataW H)),K.length<=Rows.uptoBulkAll K:=by
      intro K
      induction K with
      | nil=>simp 
      | cons d K Z=>
       have:1<=Rows.uptoBulk d:=by
        cases d<;>(try simp only[Rows.uptoBulk])<;>(try omega)
        rename_i l;cases l<;>simp[Rows.uptoBulk]
       simp only[Rows.uptoBulkAll,AiL];omega
     have ah:=X (elems.map (·.1));rw[Abn,hel] at ah;refine⟨[.sl es],one ?_ rfl,.sl t e es u (by rw[E];exact λq h=>(J q h).1) (λq h=>(J q h).2.1) (λq h=>(J q h).2.2),?_⟩
     .have:=Ao.slC (μ:=μ) (H:=λo=>w.cell? o) es a cap (P.cellsOf e) vals (by omega) (by unfold AI;omega) (λq A=>(J q A).2.1) M.len M.one g5 M.at_;grind
     .rw[Azf (by simp;omega)] at g6;simp only[A8,BG,Rows.uptoBulk];omega
   case struct fs=>
    simp only[AzP,beq_iff_eq] at p;obtain⟨aG,U⟩:=p;obtain⟨xs,m,hm,rfl,r,am,hf⟩:=DataW.trod_struct u h;cases hm;simp only[Rows.uptoBulk] at hb;obtain⟨_,vs,Y,r2,r3⟩:=Km (P:=P) (μ:=μ) (Hc:=λo=>w.cell? o) (cs:=cs) fs.toList 0 (P.cellsOf t) (xs.map (·.1)) U r (by simp[am]) (λi f d aH z=>by
     have S:fs[i]?=some f:=by grind
     have D:=hf i f S;rw[Akg] at z;cases hx:xs[i]? with
     | none=>rw[hx] at z;cases z
     | some y=>rw[hx] at z D;cases z;have B:y.1∈xs.map (·.1):=AmB.2 ⟨y,AzT hx,rfl⟩;have:=Kp B;grind
)
    rw[Awv] at Y;refine⟨vs,Y,.st t fs vs u (by rw[Y.len,r]) (λf ae=>by simpa using r2 [] rfl f ae),?_⟩;simp only[Rows.uptoBulk];omega
end
end Go.Ir
end
section
namespace Go.Ir
open Go.RowKit Go.ChangeShapes Go.WideShapes
variable[F2]
section
variable{H:Type}{enc:TypeId×Value→H}{P:Program}{W W':World}
theorem HF(o:laidOutB P=true)(m:Below W.heap.size W W'){r:Nat->Bool}:∀(g:List TypeId) (vs:List Value) (i:List (DataW H)) (ps:List MemPlace),(∀t∈g,P.readableRec t=true/\t<P.types.size)->
  DataW.TrodAll enc P W 0 (λ_=>true) true g vs i ps->(∀x∈ps,x.block<W.heap.size)->(∀x∈ps,r x.block=true)->DataW.TrodAll enc P W' 0 r true g vs i ps
 | [],vs,i,ps,_,h,_,_=>by obtain⟨rfl,rfl,rfl⟩:=trodAll_nil h;exact trodAll_mk0
 | t::g,vs,i,ps,f,h,b,e=>by obtain⟨v,l,d,j,p,q,rfl,rfl,rfl,s,u⟩:=trodAll_cons h;obtain⟨y,c⟩:=f t (by simp);refine trodAll_cons_mk (WideElems.Trod_stays o y c s (λx a=>m.same (b x (by simp[a]))) (λx a=>e x (by simp[a]))) (HF o m g l j q (λz k=>f z (by simp[k])) u (λx a=>b x (by simp[a])) (λx a=>e x (by simp[a])))
theorem YH{f:Func}{s:ChangeSpec}{c g d e:Bool}{args:Array Value}{l D:List (DataW H)}{a:List MemPlace}{tb:TypeId}
  (L:laidOutB P=true)(B:∀t∈f.params.toList,P.readableRec t=true/\t<P.types.size)(j:f.resultTypes=#[tb])(k:P.underlying tb=some .bool)(C:s.vars=[])
  (y:s.fn H (l++D)={ results:=[.lit (.bool true)],args:=l })
  (r:DataW.Whole enc P f.params.toList s.vars c W args.toList l D a)(v:Below W.heap.size W W'):s.post enc P f c g d e W args (.bool true) W':=by
 have i:∀p∈a,p.block<W.heap.size:=λp hp=>r.lt p hp;have u:=r;obtain⟨p,q,J,E,rfl,N,M⟩:=r;rw[C] at E;obtain⟨rfl,rfl⟩:=trodVars_none E;simp only[Arm] at *;have G:∀x∈p,(λb=>decide (b<W.heap.size)) x.block=true:=λx m=>by simpa using i x m
 have h:∀o:Nat->Bool,(∀x∈p,o x.block=true)->DataW.TrodAll enc P W' 0 o true f.params.toList args.toList l p:=λo A=>HF L v _ _ _ _ B J i A;have I:∀(b:Nat) (o:Nat->Bool) (F:Bool),DataW.TrodAll enc P W' b o F f.resultTypes.toList ((Value.bool true).resultList f.resultTypes.size) [.lit (.bool true)] []:=by intro b o F;rw[j];exact trodAll_cons_mk (p:=[]) (p':=[]) (shut_bool k _) trodAll_mk0
 refine⟨l,[],p,[],p,[],u,?_,?_,?_,World.keptBut_mono (λx m=>⟨m,.inr (.inl m)⟩) (v.frame _),λ_=>?_⟩
 .grind
 .grind
 .rw[C,Arm,y];rfl
 .refine⟨ok_one j rfl (okWide_bool_mk k _),.lit (.bool true)::l,[],p,⟨p,[],?_,by rw[C];rfl,by simp,?_,?_⟩,λx m _=>m⟩
  .rw[j];exact trodAll_cons_mk (p:=[]) (shut_bool k _) (h _ (λ_ _=>rfl))
  .intro b off hp;have:=i _ hp;have z:=v.frozen (p:=⟨b,off,none⟩) this;rw[z];exact N b off (by simpa using hp)
  .intro K;exact M K
theorem Hp.start(W:World)(n:Nat):Hp W [] n (λ_=>none) (λa=>W.cell? a) W where
 base:=Awt _ _
 pins _ _ h:=h
 ents _ _ h:=by simp[lk] at h
 unp bk ho:=by obtain⟨id,e,h,_⟩:=ho;simp[lk] at h
 sep _ _ _ _ _ h:=by simp[lk] at h
 bd _ _:=rfl
theorem Ss{f:FuncId}{args:List V}{vals:List Value}(h:Al P W f args [] (.b true) [])(g:VRels (λ_=>none) (λa=>W.cell? a) args vals) :
  Calls P f vals.toArray W λe W'=>e=.returned (.bool true)/\Below W.heap.size W W':=
 (h.run 0 W _ _ vals (Hp.start W 0) g).mono λe W' ⟨val,i,j,n',c,d,hp,_⟩=>⟨by rw[c,d.b_inv],hp.base⟩
end
end Go.Ir
end
section
namespace Go.Ir
open Go.Proofs
section
variable{P:Program}
theorem Ew.int_inv{t:TypeId}{k:IntKind}{v:V}(h:Ew P t [v])(a:P.underlying t=some (.int k)):∃n,v=.i k n/\(Lit.int k n).wf=true:=by
 cases h with
 | int _ f n h d=>grind
 | bool _ b h=>rw[a] at h;cases h
 | str _ l h=>rw[a] at h;cases h
 | sl _ e es h _ _ _=>rw[a] at h;cases h
 | st _ c vs h _ _=>rw[a] at h;cases h
theorem Ew.str_inv{t:TypeId}{v:V}(h:Ew P t [v])(a:P.underlying t=some .string):∃l,v=.s l:=by
 cases h with
 | int _ f n h d=>rw[a] at h;cases h
 | bool _ b h=>rw[a] at h;cases h
 | str _ l h=>exact⟨l,rfl⟩
 | sl _ e es h _ _ _=>rw[a] at h;cases h
 | st _ c vs h _ _=>rw[a] at h;cases h
theorem Ew.sl_inv{t e:TypeId}{v:V}(h:Ew P t [v])(d:P.underlying t=some (.slice e)):∃es,v=.sl es/\(∀a∈es,∃c,a=Nc ((CW P e).getD false) c/\cells a=c)/\(∀a∈es,(cells a).length=P.cellsOf e)/\(∀a∈es,Ew P e (cells a)):=by
 cases h with
 | int _ o n h m=>rw[d] at h;cases h
 | bool _ b h=>rw[d] at h;cases h
 | str _ l h=>rw[d] at h;cases h
 | sl _ f es h i j k=>grind
 | st _ g vs h _ _=>rw[d] at h;cases h
theorem Ew.st_inv{t:TypeId}{c:Array Field}{vs:List V}(h:Ew P t vs)(a:P.underlying t=some (.struct c)):vs.length=P.cellsOf t/\∀f∈c.toList,Ew P f.type ((vs.drop f.offset).take (P.cellsOf f.type)):=by
 cases h with
 | int _ m n h k=>rw[a] at h;cases h
 | bool _ b h=>rw[a] at h;cases h
 | str _ l h=>rw[a] at h;cases h
 | sl _ i es h e g j=>rw[a] at h;cases h
 | st _ d vs h e g=>grind
end
theorem xC{l:List V}(h:l.length=2):∃a b,l=[a,b]:=by
 match l,h with
 | [a,b],_=>exact⟨a,b,rfl⟩
theorem c9:Tryz.prog.cellsOf 9=1:=by kernel_rfl
theorem c3:Tryz.prog.cellsOf 3=1:=by kernel_rfl
end Go.Ir
end
section
namespace Go.Ir
open Go.Proofs
def Dk{a:Type}(w:a->Nat):List a->Nat
 | []=>0
 | x::xs=>w x+Dk w xs
theorem Pw{c:Type}{G:V->Prop}(enc:c->V)(w:c->Nat)(b:∀a,G a->∃x,a=enc x/\w x<=BG a):∀es,(∀a∈es,G a)->∃xs,es=xs.map enc/\Dk w xs<=A8 es:=by
 intro es
 induction es with
 | nil=>intro _;exact⟨[],rfl,by simp[Dk]⟩
 | cons e es i=>intro h;obtain⟨xs,d,j⟩:=i λx g=>h x (by simp[g]);obtain⟨x,f,k⟩:=b e (h e (by simp));exact⟨x::xs,by rw[d,f];rfl,by simp only[Dk,A8];omega⟩
section
variable{P:Program}
theorem Dn{k:Type}{t e:TypeId}{v:V}(h:Ew P t [v])(q:P.underlying t=some (.slice e))(p:CW P e=some true)(enc:k->V)(w:k->Nat)(f:∀c,Ew P e c->∃x,V.agg c=enc x/\w x<=A8 c) :
  ∃xs:List k,v=.sl (xs.map enc)/\Dk w xs+1<=BG v:=by
 obtain⟨es,rfl,l,r,o⟩:=h.sl_inv q;rw[p] at l;obtain⟨xs,j,s⟩:=Pw (G:=λa=>∃c,a=V.agg c/\Ew P e c) enc w (λa ⟨c,b,g⟩=>by
  subst b;obtain⟨x,j,i⟩:=f c g;exact⟨x,j,by simpa[BG] using i⟩) es λa m=>by
  obtain⟨c,b,d⟩:=l a m;have:=o a m;rw[d] at this;exact⟨c,b,this⟩
 exact⟨xs,by rw[j],by simp only[BG];omega⟩
theorem bB{j:Type}{t e m:TypeId}{v:V}(h:Ew P t [v])(s:P.underlying t=some (.slice e))(y:P.underlying e=some (.slice m))(q:CW P e=some false)(d:P.cellsOf e=1)(enc:j->V)(w:j->Nat)(g:∀v,Ew P e [v]->∃x,v=enc x/\w x<=BG v) :
  ∃xs:List j,v=.sl (xs.map enc)/\Dk w xs+1<=BG v:=by
 obtain⟨es,rfl,k,o,p⟩:=h.sl_inv s;rw[q] at k;obtain⟨xs,u,z⟩:=Pw (G:=λa=>Ew P e [a]) enc w g es λa i=>by
  obtain⟨c,r,f⟩:=k a i;have l:=p a i;have b:=o a i;rw[f] at l b;rw[d] at b
  match c,b with
  | [x],_=>have:a=x:=r;rw[this];exact l
 exact⟨xs,by rw[u],by simp only[BG];omega⟩
theorem Ew.bool_inv{t:TypeId}{v:V}(h:Ew P t [v])(a:P.underlying t=some .bool):∃b,v=.b b:=by
 cases h with
 | int _ f n h d=>rw[a] at h;cases h
 | bool _ b h=>exact⟨b,rfl⟩
 | str _ l h=>rw[a] at h;cases h
 | sl _ e es h _ _ _=>rw[a] at h;cases h
 | st _ c vs h _ _=>rw[a] at h;cases h
end
theorem Anh{l:List V}(h:l.length=4):∃a b c d,l=[a,b,c,d]:=by
 match l,h with
 | [a,b,c,d],_=>exact⟨a,b,c,d,rfl⟩
theorem Au0{b:Type}(xs:List b):Dk (λ_=>1) xs=xs.length:=by
 induction xs with
 | nil=>rfl
 | cons x xs a=>simp only[Dk,a,AiL];omega
theorem Aou:Tryz.prog.cellsOf 337=2:=by kernel_rfl
theorem At7:Tryz.prog.cellsOf 175=4:=by kernel_rfl
theorem AsG:Tryz.prog.cellsOf 139=2:=by kernel_rfl
theorem ArE:Tryz.prog.cellsOf 172=1:=by kernel_rfl
theorem Ahf:Tryz.prog.cellsOf 173=1:=by kernel_rfl
theorem AoT:Tryz.prog.cellsOf 137=1:=by kernel_rfl
theorem AlR:Tryz.prog.cellsOf 22=1:=by kernel_rfl
theorem AfU:Tryz.prog.cellsOf 4=1:=by kernel_rfl
theorem AmN:Tryz.prog.cellsOf 30=16:=by kernel_rfl
theorem ApW:CW Tryz.prog 337=some true:=by kernel_rfl
theorem AtP:CW Tryz.prog 175=some true:=by kernel_rfl
theorem AmO:CW Tryz.prog 172=some false:=by kernel_rfl
theorem AdM:CW Tryz.prog 139=some true:=by kernel_rfl
theorem zP(c:List V)(h:Ew Tryz.prog 337 c):∃x:FR,V.agg c=x.enc/\1<=A8 c:=by obtain⟨g,f⟩:=h.st_inv Tryz.underlying337;rw[Aou] at g;obtain⟨i,j,rfl⟩:=xC g;have d:=f _ (by exact Age);have e:=f _ (by exact AzQ _ Age);simp only[c3,Awv,AuI,AtZ,AvS] at d e;obtain⟨a,rfl,_⟩:=d.int_inv Tryz.underlying3;obtain⟨b,rfl,_⟩:=e.int_inv Tryz.underlying3;exact⟨⟨a,b⟩,rfl,by simp[A8,BG]⟩
theorem Akq(c:List V)(h:Ew Tryz.prog 175 c):∃x:CF,V.agg c=x.enc/\x.wt<=A8 c:=by obtain⟨j,d⟩:=h.st_inv Tryz.underlying175;rw[At7] at j;obtain⟨l,m,o,p,rfl⟩:=Anh j;have e:=d _ (by exact Age);have f:=d _ (by exact AzQ _ Age);have g:=d _ (by exact AzQ _ (AzQ _ Age));have i:=d _ (by exact AzQ _ (AzQ _ (AzQ _ Age)));simp only[c3,AfU,Ahf,Awv,AuI,AtZ,AvS] at e f g i;obtain⟨a,rfl,_⟩:=e.int_inv Tryz.underlying3;obtain⟨b,rfl,_⟩:=f.int_inv Tryz.underlying3;obtain⟨n,rfl⟩:=g.bool_inv Tryz.underlying4;obtain⟨xs,rfl,k⟩:=Dn i Tryz.underlying173 ApW FR.enc (λ_=>1) zP;rw[Au0] at k;refine⟨⟨a,b,n,xs⟩,rfl,?_⟩;simp only[A8,BG] at k⊢;unfold CF.wt;simp only;omega
theorem u9(xs:List CF):Cx xs=Dk CF.wt xs+1:=by
 induction xs with
 | nil=>rfl
 | cons x xs a=>simp only[Dk,Cx,a];omega
theorem fC(xs:List (List CF)):Dh xs=Dk Cx xs:=by
 induction xs with
 | nil=>rfl
 | cons x xs a=>simp only[Dk,Dh,a]
theorem Zb(xs:List AF):A7 xs=Dk AF.wt xs:=by
 induction xs with
 | nil=>rfl
 | cons x xs a=>simp only[Dk,A7,a]
theorem AaF(v:V)(h:Ew Tryz.prog 172 [v]):∃x:List CF,v=EQ x/\Cx x<=BG v:=by obtain⟨xs,rfl,a⟩:=Dn h Tryz.underlying172 AtP CF.enc CF.wt Akq;exact⟨xs,rfl,by rw[u9];exact a⟩
theorem VM(c:List V)(h:Ew Tryz.prog 139 c):∃x:AF,V.agg c=x.enc/\x.wt<=A8 c:=by obtain⟨f,e⟩:=h.st_inv Tryz.underlying139;rw[AsG] at f;obtain⟨i,j,rfl⟩:=xC f;have b:=e _ (by exact Age);have d:=e _ (by exact AzQ _ Age);simp only[c9,AoT,Awv,AuI,AtZ,AvS] at b d;obtain⟨a,rfl⟩:=b.str_inv Tryz.underlying9;obtain⟨xs,rfl,g⟩:=bB d Tryz.underlying137 Tryz.underlying172 AmO ArE EQ Cx AaF;refine⟨⟨a,xs⟩,rfl,?_⟩;unfold AF.wt;rw[fC];simp only[A8,BG] at g⊢;omega
end Go.Ir
end
namespace Go.Ir
open Go.Proofs
def bw(s:Aa):Nat:=s.length+1
theorem Au1:CW Tryz.prog 9=some false:=by kernel_rfl
theorem La(v:V)(h:Ew Tryz.prog 28 [v]):∃l:List Aa,v=.sl (l.map V.s)/\Dk bw l+1<=BG v:=by
 obtain⟨es,rfl,f,i,j⟩:=h.sl_inv Tryz.underlying28;rw[Au1] at f;obtain⟨xs,m,o⟩:=Pw (G:=λa=>Ew Tryz.prog 9 [a]) V.s bw (λa h=>by
  obtain⟨s,rfl⟩:=h.str_inv Tryz.underlying9;exact⟨s,rfl,by unfold bw;simp[BG]⟩) es λa e=>by
  obtain⟨c,k,d⟩:=f a e;have g:=j a e;have b:=i a e;rw[d] at g b;rw[c9] at b
  match c,b with
  | [x],_=>have:a=x:=k;rw[this];exact g
 exact⟨xs,by rw[m],by simp only[BG];omega⟩
theorem LQ{a:Type}{w:a->Nat}{l:List a}{x:a}(h:x∈l):w x<=Dk w l:=by
 induction l with
 | nil=>cases h
 | cons y l b=>
  simp only[Dk];rcases Am8.1 h with rfl|h
  .omega
  .have:=b h;omega
theorem FJ{a:Type}{w:a->Nat}{l:List a}(h:∀x,1<=w x):l.length<=Dk w l:=by
 induction l with
 | nil=>simp 
 | cons y l b=>simp only[Dk,AiL];have:=h y;omega
theorem AtD{l:List V}(h:l.length=3):∃a b c,l=[a,b,c]:=by
 match l,h with
 | [a,b,c],_=>exact⟨a,b,c,rfl⟩
theorem Aov{l:List V}(h:l.length=5):∃a b c d e,l=[a,b,c,d,e]:=by
 match l,h with
 | [a,b,c,d,e],_=>exact⟨a,b,c,d,e,rfl⟩
theorem lU:Tryz.prog.cellsOf 28=1:=by kernel_rfl
theorem At6:Tryz.prog.cellsOf 62=5:=by kernel_rfl
theorem Aun:CW Tryz.prog 62=some true:=by kernel_rfl
theorem AiO(c:List V)(h:Ew Tryz.prog 62 c):∃x:BC,V.agg c=x.enc/\x.wt<=A8 c:=by obtain⟨j,a⟩:=h.st_inv Tryz.underlying62;rw[At6] at j;obtain⟨o,p,q,r,m,rfl⟩:=Aov j;have b:=a _ (by exact Age);have e:=a _ (by exact AzQ _ Age);have f:=a _ (by exact AzQ _ (AzQ _ Age));have g:=a _ (by exact AzQ _ (AzQ _ (AzQ _ Age)));have i:=a _ (by exact AzQ _ (AzQ _ (AzQ _ (AzQ _ Age))));simp only[c9,c3,lU,Awv,AuI,AtZ,AvS] at b e f g i;obtain⟨n,rfl⟩:=b.str_inv Tryz.underlying9;obtain⟨t,rfl,_⟩:=e.int_inv Tryz.underlying3;obtain⟨x,rfl⟩:=f.str_inv Tryz.underlying9;obtain⟨d,rfl,_⟩:=g.int_inv Tryz.underlying3;obtain⟨xs,rfl,k⟩:=La m i;refine⟨⟨n,t,x,d,xs⟩,rfl,?_⟩;have:=FJ (w:=bw) (l:=xs) (λ_=>by unfold bw;omega);simp only[A8,BG] at k⊢;unfold BC.wt;simp only;omega
theorem z7(v:V)(h:Ew Tryz.prog 32 [v]):∃l:List BC,v=.sl (l.map BC.enc)/\Dk BC.wt l<=BG v:=by obtain⟨xs,rfl,a⟩:=Dn h Tryz.underlying32 Aun BC.enc BC.wt AiO;exact⟨xs,rfl,by omega⟩
theorem Aba{l:List BC}{n:Nat}(h:Dk BC.wt l<=n):l.length<=n/\∀v∈l,v.text.length<=n/\v.list.length<=n:=by have:=FJ (w:=BC.wt) (l:=l) (λx=>by unfold BC.wt;omega);refine⟨by omega,λv a=>?_⟩;have b:=LQ (w:=BC.wt) a;have c:v.wt=1+v.name.length+v.text.length+v.list.length:=rfl;exact⟨by omega,by omega⟩
theorem Avh:Tryz.prog.cellsOf 178=5:=by kernel_rfl
theorem AuN:Tryz.prog.cellsOf 180=3:=by kernel_rfl
theorem AtE:Tryz.prog.cellsOf 182=2:=by kernel_rfl
theorem AuX:Tryz.prog.cellsOf 24=6:=by kernel_rfl
theorem Ap3:Tryz.prog.cellsOf 25=1:=by kernel_rfl
theorem AmH:Tryz.prog.cellsOf 26=1:=by kernel_rfl
theorem An7:Tryz.prog.cellsOf 27=1:=by kernel_rfl
theorem Asm:Tryz.prog.cellsOf 32=1:=by kernel_rfl
theorem Aux:CW Tryz.prog 178=some true:=by kernel_rfl
theorem Au2:CW Tryz.prog 180=some true:=by kernel_rfl
theorem AvG:CW Tryz.prog 182=some true:=by kernel_rfl
def xG(x:CJ):Nat:=bw x.style+bw x.two+bw x.start+bw x.mid+bw x.fin
def fF(x:D6):Nat:=bw x.unit+bw x.cls+bw x.pat
def qR(x:CO):Nat:=bw x.skel+bw x.pat
theorem AgF(c:List V)(h:Ew Tryz.prog 178 c):∃x:CJ,V.agg c=x.enc/\xG x<=A8 c:=by obtain⟨i,a⟩:=h.st_inv Tryz.underlying178;rw[Avh] at i;obtain⟨p,q,r,s,t,rfl⟩:=Aov i;have b:=a _ (by exact Age);have d:=a _ (by exact AzQ _ Age);have e:=a _ (by exact AzQ _ (AzQ _ Age));have f:=a _ (by exact AzQ _ (AzQ _ (AzQ _ Age)));have g:=a _ (by exact AzQ _ (AzQ _ (AzQ _ (AzQ _ Age))));simp only[c9,Awv,AuI,AtZ,AvS] at b d e f g;obtain⟨j,rfl⟩:=b.str_inv Tryz.underlying9;obtain⟨k,rfl⟩:=d.str_inv Tryz.underlying9;obtain⟨l,rfl⟩:=e.str_inv Tryz.underlying9;obtain⟨m,rfl⟩:=f.str_inv Tryz.underlying9;obtain⟨o,rfl⟩:=g.str_inv Tryz.underlying9;exact⟨⟨j,k,l,m,o⟩,rfl,by simp only[xG,bw,A8,BG];omega⟩
theorem Amr(c:List V)(h:Ew Tryz.prog 180 c):∃x:D6,V.agg c=x.enc/\fF x<=A8 c:=by obtain⟨f,a⟩:=h.st_inv Tryz.underlying180;rw[AuN] at f;obtain⟨k,l,m,rfl⟩:=AtD f;have b:=a _ (by exact Age);have d:=a _ (by exact AzQ _ Age);have e:=a _ (by exact AzQ _ (AzQ _ Age));simp only[c9,Awv,AuI,AtZ,AvS] at b d e;obtain⟨g,rfl⟩:=b.str_inv Tryz.underlying9;obtain⟨i,rfl⟩:=d.str_inv Tryz.underlying9;obtain⟨j,rfl⟩:=e.str_inv Tryz.underlying9;exact⟨⟨g,i,j⟩,rfl,by simp only[fF,bw,A8,BG];omega⟩
theorem AgB(c:List V)(h:Ew Tryz.prog 182 c):∃x:CO,V.agg c=x.enc/\qR x<=A8 c:=by obtain⟨e,d⟩:=h.st_inv Tryz.underlying182;rw[AtE] at e;obtain⟨i,j,rfl⟩:=xC e;have a:=d _ (by exact Age);have b:=d _ (by exact AzQ _ Age);simp only[c9,Awv,AuI,AtZ,AvS] at a b;obtain⟨f,rfl⟩:=a.str_inv Tryz.underlying9;obtain⟨g,rfl⟩:=b.str_inv Tryz.underlying9;exact⟨⟨f,g⟩,rfl,by simp only[qR,bw,A8,BG];omega⟩
theorem Al6{l:List V}(h:l.length=16):∃a b c d e m o p q r s f g i j k,l=[a,b,c,d,e,m,o,p,q,r,s,f,g,i,j,k]:=by
 match l,h with
 | [a,b,c,d,e,m,o,p,q,r,s,f,g,i,j,k],_=>grind
theorem Apc{n:Int}(h:(Lit.int .i64 n).wf=true):-9223372036854775808<=n/\n<9223372036854775808:=by
 simp only[Lit.wf,AzP,decide_eq_true_eq] at h;have a:IntKind.i64.min=-9223372036854775808:=by decide
 have b:IntKind.i64.max=9223372036854775807:=by decide
 omega
theorem Ui(l:List Aa):El l<=30*Dk bw l:=by
 induction l with
 | nil=>simp[El,B5]
 | cons x l a=>unfold El at *;simp only[B5,Dk,Hi,bw] at *;omega
theorem Pr{a:Type}{f g:a->Nat}(h:∀x,f x<=30*g x)(l:List a):B5 f l<=30*Dk g l:=by
 induction l with
 | nil=>simp[B5]
 | cons x l b=>simp only[B5,Dk];have:=h x;omega
set_option maxHeartbeats 2000000 in
theorem Aj5(c:List V)(h:Ew Tryz.prog 30 c):∃l:BR,V.agg c=l.enc/\Nb l<=200*A8 c/\A7 l.card+A7 l.ord<=A8 c/\-9223372036854775808<=l.prim/\l.sec<9223372036854775808:=by
 obtain⟨J,a⟩:=h.st_inv Tryz.underlying30;rw[AmN] at J;obtain⟨x0,x1,x2,x3,x4,y0,y1,y2,y3,y4,y5,x6,x7,x8,x9,s,rfl⟩:=Al6 J;have v:=a _ (by exact Age);have y:=a _ (by exact AzQ _ Age);have z:=a _ (by exact AzQ _ (AzQ _ Age));have A:=a _ (by exact AzQ _ (AzQ _ (AzQ _ Age)));have B:=a _ (by exact AzQ _ (AzQ _ (AzQ _ (AzQ _ Age))));have m:=a _ (by exact AzQ _ (AzQ _ (AzQ _ (AzQ _ (AzQ _ Age)))));have f6:=a _ (by exact AzQ _ (AzQ _ (AzQ _ (AzQ _ (AzQ _ (AzQ _ Age))))));have f7:=a _ (by exact AzQ _ (AzQ _ (AzQ _ (AzQ _ (AzQ _ (AzQ _ (AzQ _ Age)))))));have f8:=a _ (by exact AzQ _ (AzQ _ (AzQ _ (AzQ _ (AzQ _ (AzQ _ (AzQ _ (AzQ _ Age))))))));have f9:=a _ (by exact AzQ _ (AzQ _ (AzQ _ (AzQ _ (AzQ _ (AzQ _ (AzQ _ (AzQ _ (AzQ _ Age)))))))));have f10:=a _ (by exact AzQ _ (AzQ _ (AzQ _ (AzQ _ (AzQ _ (AzQ _ (AzQ _ (AzQ _ (AzQ _ (AzQ _ Age))))))))));clear a;simp only[c9,AlR,AuX,Ap3,AmH,An7,lU,Awv,AuI,AtZ,AvS] at v y z A B m f6 f7 f8 f9 f10;obtain⟨k,rfl⟩:=v.str_inv Tryz.underlying9;obtain⟨j,rfl⟩:=y.str_inv Tryz.underlying9;obtain⟨d,rfl⟩:=z.str_inv Tryz.underlying9;obtain⟨xs,rfl,K⟩:=Dn A Tryz.underlying22 AdM AF.enc AF.wt VM;obtain⟨ys,rfl,i⟩:=Dn B Tryz.underlying22 AdM AF.enc AF.wt VM;obtain⟨_,b⟩:=m.st_inv Tryz.underlying24;have C:=b _ (by exact Age);have D:=b _ (by exact AzQ _ Age);have E:=b _ (by exact AzQ _ (AzQ _ Age));have F:=b _ (by exact AzQ _ (AzQ _ (AzQ _ Age)));have G:=b _ (by exact AzQ _ (AzQ _ (AzQ _ (AzQ _ Age))));have I:=b _ (by exact AzQ _ (AzQ _ (AzQ _ (AzQ _ (AzQ _ Age)))));clear b m;simp only[c9,c3,Awv,AuI,AtZ,AvS] at C D E F G I;obtain⟨M,rfl⟩:=C.str_inv Tryz.underlying9;obtain⟨N,rfl⟩:=D.str_inv Tryz.underlying9;obtain⟨O,rfl⟩:=E.str_inv Tryz.underlying9;obtain⟨R,rfl⟩:=F.str_inv Tryz.underlying9;obtain⟨U,rfl,Y⟩:=G.int_inv Tryz.underlying3;obtain⟨X,rfl,Z⟩:=I.int_inv Tryz.underlying3;obtain⟨L,rfl,o⟩:=Dn f6 Tryz.underlying25 Aux CJ.enc xG AgF;obtain⟨us,rfl,p⟩:=Dn f7 Tryz.underlying26 Au2 D6.enc fF Amr;obtain⟨t,rfl,q⟩:=Dn f8 Tryz.underlying27 AvG CO.enc qR AgB;obtain⟨ms,rfl,r⟩:=La x9 f9;obtain⟨u,rfl,e⟩:=La s f10;refine⟨⟨k,j,d,xs,ys,M,N,O,R,U,X,L,us,t,ms,u⟩,rfl,?_,?_,(Apc Y).1,(Apc Z).2⟩
 .have S:=Ui [k,j,d,M,N,O,R];have h2:=Ui u;have h3:=Ui ms;have h4:=Pr (f:=CJ.sz) (g:=xG) (λx=>by simp only[CJ.sz,El,B5,Hi,xG,bw];omega) L;have h5:=Pr (f:=D6.sz) (g:=fF) (λx=>by simp only[D6.sz,El,B5,Hi,fF,bw];omega) us;have h6:=Pr (f:=CO.sz) (g:=qR) (λx=>by simp only[CO.sz,El,B5,Hi,qR,bw];omega) t;have h7:=FJ (w:=AF.wt) (l:=xs) (λ_=>by unfold AF.wt;omega);have h8:=FJ (w:=AF.wt) (l:=ys) (λ_=>by unfold AF.wt;omega);simp only[Dk,bw] at S;unfold Nb;simp only[A8,BG] at K i o p q r e⊢;omega
 .simp only[Zb];simp only[A8,BG] at K i⊢;omega
end Go.Ir

namespace Go.Ir
open Go.Proofs
variable{P:Program}{W0:World}{nt n:Nat}{Q:Exit→St→Prop}{env:A9}{σ:Aj}
def nV:IC:=sQ (.block 1 (oS [fA 12 1 0,l1 13 12,m1 14 3,iA 15 13 14 9 1,l1 16 15,nS 17 16,bZ 18 .gtr 17 100] [1,3,18] (cD 18 (oR [mC 2 (.b false)] [2]) .skip))) (oP [m1 10 3,bZ 11 .add 10 1,m1 3 11] [1,3])
def dR:IC:=sQ (.block 3 (oS [fA 26 1 1,l1 27 26,m1 28 4,iA 29 27 28 57 4,fA 30 29 3,l1 31 30,nS 32 31,bZ 33 .gtr 32 300] [1,4,33] (cD 33 (oR [mC 2 (.b false)] [2]) .skip))) (oP [m1 24 4,bZ 25 .add 24 1,m1 4 25] [1,4])
def nU:IC:=oR [fA 34 1 0,l1 35 34,nL 36 35,bZ 37 .leq 36 30,m1 38 37,Dv 39 38 1 1,Db 40 38 39,gT 41 38 (.lenL (.t 40)),C8 42 38 .leq 41 400,pA 43 38 42,m1 2 43] [2]
def AfJ:IC:=sQ (oS [mZ 3 0] [1,3] (.block 0 (.loop (sQ (oS [m1 5 3,fA 6 1 0,l1 7 6,nL 8 7,bT 9 .lss 5 8] [1,3,9] (cD 9 .skip (.exit 0))) nV)))) (sQ (oS [mZ 4 0] [1,4] (.block 2 (.loop (sQ (oS [m1 19 4,fA 20 1 1,l1 21 20,nL 22 21,bT 23 .lss 19 22] [1,4,23] (cD 23 .skip (.exit 2))) dR)))) nU)
def Adn:IC:=oS [bX 1 0,mC 2 (.b false)] [1] AfJ
@[push_cast]def AtA:List R:=[.t 2]
@[push_cast]def Ayv:=Aq nV.eq_1<|Aq dR.eq_1<|Aq nU.eq_1<|Aq AfJ.eq_1<|AL Adn.eq_1
theorem AqR:Av Tryz.prog 12 44 Adn AtA=true:=by kernel_rfl
def tS:IC:=sQ (.block 1 (.ops [fA 15 3 1,l1 16 15,fA 17 1 1,l1 18 17,m1 19 4,iA 20 18 19 57 4,lA 21 20 4,o1 22 (.msl false 54 4 [.t 21]),o1 23 (.app (.t 16) (.t 22) 54 4),fA 24 3 1,sT 24 23 1] [1,2,3,4] [[0,1],[2,3],[3,5],[4,5],[5,6],[6,7],[1,8],[3,5,6,7,8],[5,6,7,8],[6,7,8],[7,8],[1,10],[3,10],[5,10],[6,10],[8,10],[9,10]])) (oP [m1 13 4,bZ 14 .add 13 1,m1 4 14] [1,2,3,4])
def Afj:IC:=sQ (oS [mZ 4 0] [1,2,3,4] (.block 0 (.loop (sQ (oS [m1 8 4,fA 9 1 1,l1 10 9,nL 11 10,bT 12 .lss 8 11] [1,2,3,4,12] (cD 12 .skip (.exit 0))) tS)))) (oR [lA 25 3 2,sT 2 25 2] [2])
def Ad1:IC:=oS [bX 1 0,o1 2 (.alloc (.agg [.nil,.nil]))] [1,2] (oS [fA 5 1 0,l1 6 5,o1 7 (.build [.nil,.nil] [(0,1,.t 6)]),o1 3 (.alloc (.agg [.nil,.nil])),sT 3 7 2] [1,2,3] Afj)
@[push_cast]def Avu:List R:=[.c 2 2 true]
@[push_cast]def AyG:=Aq tS.eq_1<|Aq Afj.eq_1<|AL Ad1.eq_1
theorem AqF:Av Tryz.prog 14 26 Ad1 Avu=true:=by kernel_rfl
def tR:IC:=sQ (oS [m1 13 5,q1 14 62 13,nT 15 14,m1 16 15,Br 17 16 3,Br 18 16 5,gF 19 16 (.rdm (.mget .str (.b false) false) (.t 17) [.t 18]),pO 20 16 19] [0,3,5,7,8,9,20] (cD 20 (oR [mC 2 (.b false)] [2]) .skip)) (oP [m1 21 3,m1 22 5,o0 (.wrm (.mput .str) (.t 21) [.t 22,.c (.b true)])] [0,3,7,8,9])
def AdJ:IC:=oS [bT 10 .lss 9 8] [0,3,7,8,9,10] (sQ (cD 10 .skip (.exit 0)) (sQ (.block 1 (oS [iA 11 7 9 9 1,l1 12 11,m1 5 12] [0,3,5,7,8,9] tR)) (oP [bZ 23 .add 9 1,m1 9 23] [0,3,7,8,9])))
def AfP:IC:=oS [mC 2 (.b false)] [0] (oS [o1 6 (.mkm .mkmap []),m1 3 6] [0,3] (sQ (oS [m1 7 0,nL 8 7,mZ 9 0] [0,3,7,8,9] (.block 0 (.loop AdJ))) (oR [m1 24 0,nL 25 24,bZ 26 .leq 25 20,m1 2 26] [2])))
@[push_cast]def AuY:List R:=[.t 2]
@[push_cast]def Aye:=Aq tR.eq_1<|Aq AdJ.eq_1<|AL AfP.eq_1
theorem AsD:Av Tryz.prog 56 27 AfP AuY=true:=by kernel_rfl
def uD:IC:=oR [o1 3 (.msl false 9 1 [.c (.s [122,101,114,111]),.c (.s [111,110,101]),.c (.s [116,119,111]),.c (.s [102,101,119]),.c (.s [109,97,110,121]),.c (.s [111,116,104,101,114])]),m1 4 0,q2 5 241 3 4,m1 2 5] [2]
def qN:IC:=oS [mC 2 (.b false)] [0] uD
@[push_cast]def Asa:List R:=[.t 2]
@[push_cast]def Axi:=Aq uD.eq_1<|AL qN.eq_1
theorem Ahh:Av Tryz.prog 183 6 qN Asa=true:=by kernel_rfl
def Vu:IC:=oR [m1 16 1,q1 17 183 16,m1 18 17,Br 19 18 6,Br 20 18 19,By 21 20 5,gT 22 20 (.call 67 [.t 21]),gF 23 18 (.pick (.t 20) (.t 22) (.c (.b false))),pO 24 18 23,m1 4 24] [4]
def xF:IC:=sQ (oS [m1 7 0,bZ 8 .eql 7 9] [1,8] (cD 8 (oR [m1 9 1,q1 10 62 9,m1 4 10] [4]) .skip)) (oS [m1 12 1,o1 13 (.call 135 [.t 12,.c (.s [61])]),m1 11 13,xT 14 11 0,xT 15 11 1,m1 5 14,m1 6 15] [1,5,6] Vu)
def wO:IC:=oS [mC 4 (.b false)] [0,1] xF
@[push_cast]def Aqm:List R:=[.t 4]
@[push_cast]def Awn:=Aq Vu.eq_1<|Aq xF.eq_1<|AL wO.eq_1
theorem TC:Av Tryz.prog 129 25 wO Aqm=true:=by kernel_rfl
def m5:IC:=oS [m1 14 4,bC 15 .lss 14 (.i .u8 97),m1 16 15,Br 17 16 4,gF 18 16 (.bin .gtr (.t 17) (.c (.i .u8 122))),pO 19 16 18] [0,6,7,19] (cD 19 (oR [mC 2 (.b false)] [2]) .skip)
def mN:IC:=sQ (.block 1 (oS [m1 9 7,m1 3 9] [0,3,6,7] (oS [m1 10 0,m1 11 3,o1 12 (.idx (.t 10) (.t 11)),o1 13 (.pu (.bit .or) [.t 12,.c (.i .u8 32)]),m1 4 13] [0,4,6,7] m5))) (oP [bZ 20 .add 7 1,m1 7 20] [0,6,7])
def Ady:IC:=sQ (oS [m1 5 0,nS 6 5,mZ 7 0] [0,6,7] (.block 0 (.loop (oS [bT 8 .lss 7 6] [0,6,7,8] (sQ (cD 8 .skip (.exit 0)) mN))))) (oR [m1 21 0,bC 22 .neq 21 (.s []),m1 23 22,By 24 23 0,gT 25 23 (.lenS (.t 24)),C8 26 23 .leq 25 40,pA 27 23 26,m1 2 27] [2])
def Aey:IC:=oS [mC 2 (.b false)] [0] Ady
@[push_cast]def AuP:List R:=[.t 2]
@[push_cast]def Ayr:=Aq m5.eq_1<|Aq mN.eq_1<|Aq Ady.eq_1<|AL Aey.eq_1
theorem ApL:Av Tryz.prog 90 28 Aey AuP=true:=by kernel_rfl
def AfL:IC:=sQ (oS [m1 8 5,fA 9 2 1,l1 10 9,nL 11 10,bT 12 .lss 8 11,m1 13 12,Dv 14 13 2 1,Db 15 13 14,By 16 13 5,gT 17 13 (.iaddr (.t 15) (.t 16) 54 4),Dv 18 13 17 0,Db 19 13 18,C8 20 13 .eql 19 11,pA 21 13 20] [1,2,5,21] (cD 21 .skip (.exit 0))) (.block 1 (oP [m1 22 5,bZ 23 .add 22 1,m1 5 23] [1,2,5]))
def AeY:IC:=oS [m1 6 1,bZ 7 .add 6 1,m1 5 7] [1,2,5] (sQ (.block 0 (.loop AfL)) (oR [fA 24 2 1,l1 25 24,m1 26 1,bZ 27 .add 26 1,m1 28 5,o1 29 (.slL (.t 25) (some (.t 27)) (some (.t 28)) 4),m1 4 29] [4]))
def AdX:IC:=oS [bX 2 0,mC 4 .nil] [1,2] AeY
@[push_cast]def Avf:List R:=[.t 4]
@[push_cast]def Ayu:=Aq AfL.eq_1<|Aq AeY.eq_1<|AL AdX.eq_1
theorem ApU:Av Tryz.prog 94 30 AdX Avf=true:=by kernel_rfl
def xV:IC:=sQ (sQ (.ops [fA 19 2 1,l1 20 19,m1 21 1,iA 22 20 21 54 4,fA 23 22 2,l1 24 23,fA 25 8 3,l1 26 25,q2 27 129 24 26,nT 28 27,m1 29 28,Br 30 29 6,Du 31 29 8 3,CM 32 29 31,gF 33 29 (.rdm (.mget .str (.b false) false) (.t 30) [.t 32]),pO 34 29 33] [1,2,5,6,8,13,14,15,34] [[0,1],[1,3],[2,3],[3,4],[4,5],[6,7],[5,8],[7,8],[8,9],[9,10],[10,11],[10,12],[10,13],[12,13],[10,14],[11,14],[13,14],[10,15],[14,15]]) (cD 34 (oR [mC 4 (.b false)] [4]) .skip)) (oP [m1 35 6,fA 36 8 3,l1 37 36,o0 (.wrm (.mput .str) (.t 35) [.t 37,.c (.b true)])] [1,2,5,6,13,14,15])
def yC:IC:=sQ (.block 1 (oS [iA 17 13 15 54 4,lA 18 17 4,o1 8 (.alloc (.agg [.i .i64 0,.i .i64 0,.i .i64 0,.s []])),sT 8 18 4] [1,2,5,6,8,13,14,15] xV)) (oP [bZ 38 .add 15 1,m1 15 38] [1,2,5,6,13,14,15])
def nJ:IC:=oR [fA 39 2 1,l1 40 39,m1 41 1,iA 42 40 41 54 4,fA 43 42 2,l1 44 43,q1 45 79 44,m1 46 45,By 47 46 5,gT 48 46 (.lenL (.t 47)),C8 49 46 .geq 48 1,pA 50 46 49,m1 51 50,By 52 51 5,gT 53 51 (.lenL (.t 52)),C8 54 51 .leq 53 20,pA 55 51 54,m1 56 55,By 57 56 6,gT 58 56 (.rdm (.mget .str (.b false) false) (.t 57) [.c (.s [111,116,104,101,114])]),pA 59 56 58,m1 4 59] [4]
def AfR:IC:=sQ (oS [m1 13 5,nL 14 13,mZ 15 0] [1,2,5,6,13,14,15] (.block 0 (.loop (oS [bT 16 .lss 15 14] [1,2,5,6,13,14,15,16] (sQ (cD 16 .skip (.exit 0)) yC))))) nJ
def AfF:IC:=oS [bX 2 0,mC 4 (.b false)] [1,2] (oS [lA 9 2 2,m1 10 1,q2 11 94 9 10,m1 5 11] [1,2,5] (oS [o1 12 (.mkm .mkmap []),m1 6 12] [1,2,5,6] AfR))
@[push_cast]def Aud:List R:=[.t 4]
@[push_cast]def Ayy:=Aq xV.eq_1<|Aq yC.eq_1<|Aq nJ.eq_1<|Aq AfR.eq_1<|AL AfF.eq_1
theorem Art:Av Tryz.prog 91 60 AfF Aud=true:=by kernel_rfl
def Ae2:IC:=oR [m1 7 2,m1 8 1,bT 9 .gtr 7 8,m1 10 9,By 11 10 2,Dv 12 10 3 1,Db 13 10 12,gT 14 10 (.lenL (.t 13)),gT 15 10 (.bin .lss (.t 11) (.t 14)),pA 16 10 15,m1 17 16,Dv 18 17 3 1,Db 19 17 18,By 20 17 2,gT 21 17 (.iaddr (.t 19) (.t 20) 54 4),Dv 22 17 21 0,Db 23 17 22,C8 24 17 .neq 23 11,pA 25 17 24,m1 6 25] [6]
def Afi:IC:=oS [bX 3 0,mC 6 (.b false)] [1,2,3] Ae2
@[push_cast]def AtM:List R:=[.t 6]
@[push_cast]def AyW:=Aq Ae2.eq_1<|AL Afi.eq_1
theorem qH:Av Tryz.prog 92 26 Afi AtM=true:=by kernel_rfl
def AeB:IC:=sQ (oS [m1 19 0,bZ 20 .lss 19 1,m1 21 20,Br 22 21 0,Dg 23 21 .gtr 22 13,pO 24 21 23] [0,2,4,24] (cD 24 (oR [o1 25 (.build [.b false,.b false,.b false] []),sT 2 25 3,mC 3 (.b false)] [2,3]) .skip)) (oR [m1 26 0,o1 27 (.pu (.aidx 14 3) [.t 4,.t 26]),lA 28 27 3,sT 2 28 3,mC 3 (.b true)] [2,3])
def Aee:IC:=oS [o1 5 (.build [.b false,.b false,.b false] [(2,1,.c (.b true))]),o1 6 (.build [.b false,.b false,.b false] [(2,1,.c (.b true))]),o1 7 (.build [.b false,.b false,.b false] [(2,1,.c (.b true))]),o1 8 (.build [.b false,.b false,.b false] [(2,1,.c (.b true))]),o1 9 (.build [.b false,.b false,.b false] [(0,1,.c (.b true))]),o1 10 (.build [.b false,.b false,.b false] [(0,1,.c (.b true)),(2,1,.c (.b true))]),o1 11 (.build [.b false,.b false,.b false] [(0,1,.c (.b true)),(2,1,.c (.b true))]),o1 12 (.build [.b false,.b false,.b false] [(0,1,.c (.b true)),(2,1,.c (.b true))]),o1 13 (.build [.b false,.b false,.b false] [(0,1,.c (.b true)),(2,1,.c (.b true))]),o1 14 (.build [.b false,.b false,.b false] [(0,1,.c (.b true)),(1,1,.c (.b true))]),o1 15 (.build [.b false,.b false,.b false] [(0,1,.c (.b true)),(2,1,.c (.b true))]),o1 16 (.build [.b false,.b false,.b false] [(0,1,.c (.b true))]),o1 17 (.build [.b false,.b false,.b false] []),o1 18 (.build [.b false,.b false,.b false,.b false,.b false,.b false,.b false,.b false,.b false,.b false,.b false,.b false,.b false,.b false,.b false,.b false,.b false,.b false,.b false,.b false,.b false,.b false,.b false,.b false,.b false,.b false,.b false,.b false,.b false,.b false,.b false,.b false,.b false,.b false,.b false,.b false,.b false,.b false,.b false,.b false,.b false,.b false] [(3,3,.t 5),(6,3,.t 6),(9,3,.t 7),(12,3,.t 8),(15,3,.t 9),(18,3,.t 10),(21,3,.t 11),(24,3,.t 12),(27,3,.t 13),(30,3,.t 14),(33,3,.t 15),(36,3,.t 16),(39,3,.t 17)]),o1 4 (.alloc (.agg [.b false,.b false,.b false,.b false,.b false,.b false,.b false,.b false,.b false,.b false,.b false,.b false,.b false,.b false,.b false,.b false,.b false,.b false,.b false,.b false,.b false,.b false,.b false,.b false,.b false,.b false,.b false,.b false,.b false,.b false,.b false,.b false,.b false,.b false,.b false,.b false,.b false,.b false,.b false,.b false,.b false,.b false])),sT 4 18 42] [0,2,4] AeB
def AeR:IC:=oS [o1 2 (.alloc (.agg [.b false,.b false,.b false])),mC 3 (.b false)] [0,2] Aee
@[push_cast]def Avz:List R:=[.c 2 3 true,.t 3]
@[push_cast]def Ayx:=Aq AeB.eq_1<|Aq Aee.eq_1<|AL AeR.eq_1
theorem E8:Av Tryz.prog 89 29 AeR Avz=true:=by kernel_rfl
def gG:IC:=oS [bZ 91 .eql 82 4,m1 88 91] [1,2,5,82,88] (cD 88 .skip (oS [bZ 92 .eql 82 7,m1 88 92] [1,2,5,82,88] (cD 88 .skip (oP [bZ 93 .eql 82 9,m1 88 93] [1,2,5,82,88]))))
def iS:IC:=oR [fA 99 5 3,l1 100 99,bC 101 .eql 100 (.s []),m1 102 101,Du 103 102 5 3,CM 104 102 103,gF 105 102 (.bin .eql (.t 104) (.c (.s [105,110,116,101,103,101,114]))),pO 106 102 105,m1 107 106,Du 108 107 5 3,CM 109 107 108,gF 110 107 (.bin .eql (.t 109) (.c (.s [112,101,114,99,101,110,116]))),pO 111 107 110,m1 4 111] [4]
def e7:IC:=oR [m1 124 1,bZ 125 .gtr 124 0,m1 126 125,Dv 127 126 2 1,Db 128 126 127,By 129 126 1,C8 130 126 .sub 129 1,gT 131 126 (.iaddr (.t 128) (.t 130) 54 4),Dv 132 126 131 0,Db 133 126 132,C8 134 126 .eql 133 10,By 135 126 134,Du 136 135 2 1,CM 137 135 136,Br 138 135 1,Dg 139 135 .sub 138 1,gF 140 135 (.iaddr (.t 137) (.t 139) 54 4),Du 141 135 140 0,CM 142 135 141,Dg 143 135 .eql 142 11,gT 144 126 (.pick (.t 135) (.c (.b true)) (.t 143)),pA 145 126 144,m1 146 145,gT 147 146 (.load (.t 2) 2 true),By 148 146 1,Dv 149 146 5 1,Db 150 146 149,gT 151 146 (.call 92 [.t 147,.t 148,.t 150]),pA 152 146 151,m1 4 152] [4]
def m4:IC:=oS [bZ 161 .eql 82 13,m1 160 161] [1,2,160] (cD 160 (oR [m1 162 1,fA 163 2 1,l1 164 163,nL 165 164,bZ 166 .sub 165 1,bT 167 .eql 162 166,m1 4 167] [4]) .skip)
def wT:IC:=oS [bZ 154 .eql 82 12,m1 153 154] [1,2,5,82,153] (cD 153 (oR [lA 155 2 2,m1 156 1,fA 157 5 1,l1 158 157,q3 159 92 155 156 158,m1 4 159] [4]) m4)
def r7:IC:=oS [bZ 118 .eql 82 10,m1 117 118] [1,2,5,82,117] (cD 117 (oR [lA 119 2 2,m1 120 1,q2 121 91 119 120,m1 4 121] [4]) (oS [bZ 123 .eql 82 11,m1 122 123] [1,2,5,82,122] (cD 122 e7 wT)))
def eI:IC:=oS [bZ 98 .eql 82 6,m1 97 98] [1,2,5,82,97] (cD 97 iS (oS [bZ 113 .eql 82 8,m1 112 113] [1,2,5,82,112] (cD 112 (oR [fA 114 5 3,l1 115 114,q1 116 90 115,m1 4 116] [4]) r7)))
def pT:IC:=sQ (oS [bZ 89 .eql 82 2,m1 88 89] [1,2,5,82,88] (cD 88 .skip (oS [bZ 90 .eql 82 3,m1 88 90] [1,2,5,82,88] (cD 88 .skip gG)))) (cD 88 (oR [fA 94 5 3,l1 95 94,q1 96 62 95,m1 4 96] [4]) eI)
def uH:IC:=sQ (oS [fA 81 5 0,l1 82 81] [1,2,5,82] (.block 0 (oS [bZ 84 .eql 82 1,m1 83 84] [1,2,5,82,83] (cD 83 (oR [fA 85 5 3,l1 86 85,bC 87 .neq 86 (.s []),m1 4 87] [4]) pT)))) (oR [mC 4 (.b true)] [4])
def s8:IC:=sQ (oS [fA 60 5 0,l1 61 60,bZ 62 .geq 61 5,m1 63 62,Dv 64 63 5 0,Db 65 63 64,C8 66 63 .leq 65 10,pA 67 63 66,m1 68 67,Dv 69 68 5 1,Db 70 68 69,C8 71 68 .lss 70 0,By 72 68 71,Du 73 72 5 1,CM 74 72 73,Du 75 72 2 0,CM 76 72 75,gF 77 72 (.lenL (.t 76)),gF 78 72 (.bin .geq (.t 74) (.t 77)),gT 79 68 (.pick (.t 72) (.c (.b true)) (.t 78)),pA 80 68 79] [1,2,5,80] (cD 80 (oR [mC 4 (.b false)] [4]) .skip)) uH
def xB:IC:=sQ (oS [m1 28 7,nT 29 28,m1 30 29,Du 31 30 6 0,CM 32 30 31,gF 33 30 (.not (.t 32)),Br 34 30 33,Dv 35 34 5 1,Db 36 34 35,C8 37 34 .neq 36 0,gF 38 30 (.pick (.t 34) (.t 37) (.c (.b false))),pO 39 30 38,m1 40 39,Du 41 40 6 1,CM 42 40 41,gF 43 40 (.not (.t 42)),Br 44 40 43,Dv 45 44 5 2,Db 46 44 45,C8 47 44 .neq 46 0,gF 48 40 (.pick (.t 44) (.t 47) (.c (.b false))),pO 49 40 48,m1 50 49,Du 51 50 6 2,CM 52 50 51,gF 53 50 (.not (.t 52)),Br 54 50 53,Dv 55 54 5 3,Db 56 54 55,gT 57 54 (.bin .neq (.t 56) (.c (.s []))),gF 58 50 (.pick (.t 54) (.t 57) (.c (.b false))),pO 59 50 58] [1,2,5,59] (cD 59 (oR [mC 4 (.b false)] [4]) .skip)) s8
def cF:IC:=oS [fA 23 5 0,l1 24 23,q1 25 89 24,m1 22 25,xT 26 22 0,xT 27 22 1,o1 6 (.alloc (.agg [.b false,.b false,.b false])),sT 6 26 3,m1 7 27] [1,2,5,6,7] xB
def Aeb:IC:=oS [fA 17 2 1,l1 18 17,m1 19 1,iA 20 18 19 54 4,lA 21 20 4,o1 5 (.alloc (.agg [.i .i64 0,.i .i64 0,.i .i64 0,.s []])),sT 5 21 4] [1,2,5] cF
def Ads:IC:=sQ (oS [m1 8 1,bZ 9 .lss 8 0,m1 10 9,Br 11 10 1,Du 12 10 2 1,CM 13 10 12,gF 14 10 (.lenL (.t 13)),gF 15 10 (.bin .geq (.t 11) (.t 14)),pO 16 10 15] [1,2,16] (cD 16 (oR [mC 4 (.b false)] [4]) .skip)) Aeb
def Ae8:IC:=oS [bX 2 0,mC 4 (.b false)] [1,2] Ads
@[push_cast]def Auy:List R:=[.t 4]
@[push_cast]def Ayh:=Aq gG.eq_1<|Aq iS.eq_1<|Aq e7.eq_1<|Aq m4.eq_1<|Aq wT.eq_1<|Aq r7.eq_1<|Aq eI.eq_1<|Aq pT.eq_1<|Aq uH.eq_1<|Aq s8.eq_1<|Aq xB.eq_1<|Aq cF.eq_1<|Aq Aeb.eq_1<|Aq Ads.eq_1<|AL Ae8.eq_1
theorem EH:Av Tryz.prog 57 168 Ae8 Auy=true:=by kernel_rfl
def Ye:IC:=.ops [m1 25 0,nC 26 25,fA 27 26 1,l1 28 27,m1 29 1,nC 30 29,fA 31 30 1,l1 32 31,m1 0 28,m1 1 32] [0,1] [[0,1],[1,2],[2,3],[4,5],[5,6],[6,7],[0,8],[3,8],[4,9],[7,9]]
def yB:IC:=.block 1 (sQ (sQ (.ops [m1 16 0,nC 17 16,fA 18 17 0,l1 19 18,m1 20 1,nC 21 20,fA 22 21 0,l1 23 22,bT 24 .neq 19 23] [0,1,24] [[0,1],[1,2],[2,3],[4,5],[5,6],[6,7],[3,8],[7,8]]) (cD 24 (oR [mC 4 (.b false)] [4]) .skip)) Ye)
def eY:IC:=sQ (oS [m1 5 0,o1 6 (.pu (.nilq .p true) [.t 5]),m1 7 6,By 8 7 1,gT 9 7 (.pu (.nilq .p true) [.t 8]),pA 10 7 9,m1 11 10,By 12 11 0,By 13 11 1,gT 14 11 (.eqr true (.t 12) (.t 13)),pA 15 11 14] [0,1,15] (cD 15 .skip (.exit 0))) yB
def fN:IC:=oS [mC 4 (.b false)] [0,1] (sQ (.block 0 (.loop eY)) (oR [m1 33 0,m1 34 1,o1 35 (.eqr false (.t 33) (.t 34)),m1 4 35] [4]))
@[push_cast]def ArL:List R:=[.t 4]
@[push_cast]def Axu:=Aq Ye.eq_1<|Aq yB.eq_1<|Aq eY.eq_1<|AL fN.eq_1
theorem Aj0:Av Tryz.prog 130 36 fN ArL=true:=by kernel_rfl
def AdT:IC:=sQ (.ops [m1 13 0,nC 14 13,fA 15 14 4,l1 16 15,m1 17 1,m1 18 0,nC 19 18,fA 20 19 4,l1 21 20,m1 22 1,iA 23 21 22 4 1,l1 24 23,m1 25 24,Br 26 25 0,gF 27 25 (.nilck (.t 26)),Du 28 25 27 2,CM 29 25 28,Br 30 25 1,gF 31 25 (.iaddr (.t 29) (.t 30) 195 1),CM 32 25 31,Br 33 25 2,gF 34 25 (.callr 130 [.t 32,.t 33]),gF 35 25 (.not (.t 34)),pO 36 25 35,iA 37 16 17 4 1,sT 37 36 1] [] [[0,1],[1,2],[2,3],[5,6],[6,7],[7,8],[8,10],[9,10],[10,11],[11,12],[12,13],[12,14],[13,14],[12,15],[14,15],[12,16],[15,16],[12,17],[12,18],[16,18],[17,18],[12,19],[18,19],[12,20],[12,21],[19,21],[20,21],[12,22],[21,22],[12,23],[22,23],[3,24],[4,24],[3,25],[8,25],[10,25],[11,25],[16,25],[18,25],[19,25],[21,25],[23,25],[24,25]]) .ret
def AeT:IC:=.ops [m1 38 0,nC 39 38,fA 40 39 3,l1 41 40,m1 42 1,m1 43 0,nC 44 43,fA 45 44 2,l1 46 45,m1 47 1,m1 48 2,iA 49 41 42 4 1,o0 (.store (.t 49) (.c (.b true)) 1),iA 50 46 47 195 1,sT 50 48 1] [] [[0,1],[1,2],[2,3],[5,6],[6,7],[7,8],[3,11],[4,11],[3,12],[8,12],[11,12],[8,13],[9,13],[12,13],[3,14],[8,14],[10,14],[11,14],[12,14],[13,14]]
def AfS:IC:=sQ (oS [m1 6 0,nC 7 6,fA 8 7 3,l1 9 8,m1 10 1,iA 11 9 10 4 1,l1 12 11] [0,1,2,12] (cD 12 AdT .skip)) AeT
@[push_cast]def Auq:List R:=[]
@[push_cast]def AxH:=Aq AdT.eq_1<|Aq AeT.eq_1<|AL AfS.eq_1
theorem Asf:Av Tryz.prog 93 51 AfS Auq=true:=by kernel_rfl
def iJ:IC:=sQ (.block 2 (oS [iA 60 56 58 54 4,lA 61 60 4,o1 8 (.alloc (.agg [.i .i64 0,.i .i64 0,.i .i64 0,.s []])),sT 8 61 4] [0,5,8,56,57,58] (oP [m1 62 0,fA 63 8 1,l1 64 63,m1 65 5,o1 66 (.calls 93 [.t 62,.t 64,.t 65])] [0,5,56,57,58]))) (oP [bZ 67 .add 58 1,m1 58 67] [0,5,56,57,58])
def l7:IC:=oS [m1 51 0,nC 52 51,fA 53 52 0,lA 54 53 2,m1 55 1,q2 56 94 54 55,nL 57 56,mZ 58 0] [0,5,56,57,58] (.block 1 (.loop (oS [bT 59 .lss 58 57] [0,5,56,57,58,59] (sQ (cD 59 .skip (.exit 1)) iJ))))
def jC:IC:=oP [m1 70 0,m1 71 1,bZ 72 .add 71 1,fA 73 6 3,l1 74 73,m1 75 5,o1 76 (.build [.s [],.np] [(0,1,.t 74),(1,1,.t 75)]),bX 77 76,o1 78 (.calls 93 [.t 70,.t 72,.t 77])] []
def fJ:IC:=sQ (sQ (.ops [m1 81 5,o1 82 (.pu (.nilq .p false) [.t 81]),m1 83 82,Br 84 83 5,gF 85 83 (.nilck (.t 84)),Du 86 83 85 0,CM 87 83 86,Du 88 83 6 3,CM 89 83 88,gF 90 83 (.bin .neq (.t 87) (.t 89)),pO 91 83 90] [0,1,5,91] [[0,1],[1,2],[2,3],[2,4],[3,4],[2,5],[4,5],[2,6],[5,6],[2,7],[2,8],[7,8],[2,9],[6,9],[8,9],[2,10],[9,10]]) (cD 91 (oR [mC 4 (.b false)] [4]) .skip)) (oP [m1 92 0,m1 93 1,bZ 94 .add 93 1,m1 95 5,nC 96 95,fA 97 96 1,l1 98 97,o1 99 (.calls 93 [.t 92,.t 94,.t 98])] [])
def rR:IC:=oS [bZ 80 .eql 32 3,m1 79 80] [0,1,5,6,79] (cD 79 fJ (oP [m1 33 0,m1 34 1,bZ 35 .add 34 1,m1 36 5,o1 37 (.calls 93 [.t 33,.t 35,.t 36])] []))
def gO:IC:=oS [bZ 43 .eql 32 12,m1 42 43] [0,1,5,6,32,42] (cD 42 (oP [m1 44 0,fA 45 6 1,l1 46 45,m1 47 5,o1 48 (.calls 93 [.t 44,.t 46,.t 47])] []) (oS [bZ 50 .eql 32 10,m1 49 50] [0,1,5,6,32,49] (cD 49 l7 (oS [bZ 69 .eql 32 2,m1 68 69] [0,1,5,6,32,68] (cD 68 jC rR)))))
def oF:IC:=sQ (oS [m1 23 0,nC 24 23,fA 25 24 0,fA 26 25 1,l1 27 26,m1 28 1,iA 29 27 28 54 4,lA 30 29 4,o1 6 (.alloc (.agg [.i .i64 0,.i .i64 0,.i .i64 0,.s []])),sT 6 30 4] [0,1,5,6] (oS [fA 31 6 0,l1 32 31] [0,1,5,6,32] (.block 0 (oS [bZ 39 .eql 32 13,m1 38 39] [0,1,5,6,32,38] (cD 38 (oR [m1 40 5,o1 41 (.pu (.nilq .p false) [.t 40]),m1 4 41] [4]) gO))))) (oR [mC 4 (.b true)] [4])
def AfD:IC:=sQ (oS [m1 9 0,nC 10 9,fA 11 10 4,l1 12 11,m1 13 1,iA 14 12 13 4 1,l1 15 14] [0,1,15] (cD 15 (oR [mC 4 (.b false)] [4]) .skip)) (oS [m1 16 0,nC 17 16,fA 18 17 2,l1 19 18,m1 20 1,iA 21 19 20 195 1,l1 22 21,m1 5 22] [0,1,5] oF)
def AfK:IC:=oS [mC 4 (.b false)] [0,1] AfD
@[push_cast]def AuB:List R:=[.t 4]
@[push_cast]def AyV:=Aq iJ.eq_1<|Aq l7.eq_1<|Aq jC.eq_1<|Aq fJ.eq_1<|Aq rR.eq_1<|Aq gO.eq_1<|Aq oF.eq_1<|Aq AfD.eq_1<|AL AfK.eq_1
theorem ArX:Av Tryz.prog 58 100 AfK AuB=true:=by kernel_rfl
def oB:IC:=sQ (.block 1 (oS [m1 23 21,m1 6 23] [1,5,6,20,21] (oS [lA 24 1 2,m1 25 6,q2 26 57 24 25,nT 27 26] [1,5,6,20,21,27] (cD 27 (oR [m1 28 6,mC 2 .np,m1 3 28,mZ 4 4] [2,3,4]) .skip)))) (oP [bZ 29 .add 21 1,m1 21 29] [1,5,20,21])
def wF:IC:=sQ (.opxq [m1 61 7,nC 62 61,fA 63 62 3,l1 64 63,m1 65 8,iA 66 64 65 4 1,l1 67 66,m1 68 67,By 69 68 7,By 70 68 8] [7,8,57,58,68,69,70] 71 68 true 58 [.t 69,.t 70] [gT 72 68 (.not (.t 71)),pA 73 68 72] [7,8,57,58,73]) (cD 73 (oR [m1 74 8,mC 2 .np,m1 3 74,mZ 4 7] [2,3,4]) .skip)
def sY:IC:=oS [bT 59 .lss 58 57] [7,57,58,59] (sQ (cD 59 .skip (.exit 2)) (sQ (.block 3 (oS [m1 60 58,m1 8 60] [7,8,57,58] wF)) (oP [bZ 75 .add 58 1,m1 58 75] [7,57,58])))
def wV:IC:=oS [m1 52 7,nC 53 52,fA 54 53 3,l1 55 54,o1 56 (.iaddr (.t 55) (ci 0) 4 1),o0 (.store (.t 56) (.c (.b true)) 1)] [5,7] (sQ (oS [m1 57 5,mZ 58 0] [7,57,58] (.block 2 (.loop sY))) (oR [m1 76 7,m1 2 76,mZ 3 0,mZ 4 0] [2,3,4]))
def kB:IC:=sQ (.ops [lA 43 1 2,m1 44 5,o1 45 (.mksl (.t 44) (.t 44) .np 195 1),m1 46 5,o1 47 (.mksl (.t 46) (.t 46) (.b false) 4 1),m1 48 5,o1 49 (.mksl (.t 48) (.t 48) (.b false) 4 1),o1 50 (.build [.nil,.nil,.nil,.nil,.nil] [(0,2,.t 43),(2,1,.t 45),(3,1,.t 47),(4,1,.t 49)]),bX 51 50,m1 7 51] [5,7] [[1,2],[3,4],[5,6],[0,7],[2,7],[4,7],[6,7],[7,8],[8,9]]) wV
def rP:IC:=sQ (oS [m1 30 5,bZ 31 .eql 30 0,m1 32 31,Du 33 32 1 1,CM 34 32 33,Br 35 32 5,Dg 36 32 .sub 35 1,gF 37 32 (.iaddr (.t 34) (.t 36) 54 4),Du 38 32 37 0,CM 39 32 38,Dg 40 32 .neq 39 13,pO 41 32 40] [1,5,41] (cD 41 (oR [m1 42 5,mC 2 .np,m1 3 42,mZ 4 4] [2,3,4]) .skip)) kB
def cQ:IC:=sQ (oS [fA 18 1 1,l1 19 18,nL 20 19,mZ 21 0] [1,5,20,21] (.block 0 (.loop (oS [bT 22 .lss 21 20] [1,5,20,21,22] (sQ (cD 22 .skip (.exit 0)) oB))))) rP
def Aer:IC:=oS [fA 13 1 1,l1 14 13,nL 15 14,m1 5 15] [1,5] (sQ (oS [m1 16 5,bZ 17 .gtr 16 10000] [1,5,17] (cD 17 (oR [mC 2 .np,mZ 3 0,mZ 4 6] [2,3,4]) .skip)) cQ)
def Ad9:IC:=oS [bX 1 0,mC 2 .np,mZ 3 0,mZ 4 0] [1] (sQ (oS [fA 9 1 0,l1 10 9,q1 11 56 10,nT 12 11] [1,12] (cD 12 (oR [mC 2 .np,mZ 3 0,mZ 4 1] [2,3,4]) .skip)) Aer)
@[push_cast]def AuJ:List R:=[.t 2,.t 3,.t 4]
@[push_cast]def AxF:=Aq oB.eq_1<|Aq wF.eq_1<|Aq sY.eq_1<|Aq wV.eq_1<|Aq kB.eq_1<|Aq rP.eq_1<|Aq cQ.eq_1<|Aq Aer.eq_1<|AL Ad9.eq_1
theorem Ang:Av Tryz.prog 34 77 Ad9 AuJ=true:=by kernel_rfl
def Adr:IC:=oS [bX 1 0,mZ 2 0,mZ 3 0] [1] (oS [lA 5 1 2,q1 6 34 5,m1 4 6,xT 7 4 0,xT 8 4 1,xT 9 4 2,m1 2 8,m1 3 9] [2,3] (oR [m1 10 2,m1 11 3,m1 2 10,m1 3 11] [2,3]))
@[push_cast]def Avj:List R:=[.t 2,.t 3]
@[push_cast]def Ayt:=AL Adr.eq_1
theorem ArI:Av Tryz.prog 17 12 Adr Avj=true:=by kernel_rfl
def uJ:IC:=oS [bZ 16 .eql 5 10,m1 15 16] [1,15] (cD 15 (sQ (oS [fA 17 1 2,l1 18 17,bZ 19 .eql 18 9] [19] (cD 19 (oR [mZ 2 1,mC 3 (.b true)] [2,3]) .skip)) (oR [mZ 2 2,mC 3 (.b true)] [2,3])) .skip)
def gB:IC:=cD 8 (oR [mZ 2 2,mC 3 (.b true)] [2,3]) (oS [bZ 12 .eql 5 8,m1 11 12] [1,5,11] (cD 11 (oR [mZ 2 3,mC 3 (.b true)] [2,3]) (oS [bZ 14 .eql 5 9,m1 13 14] [1,5,13] (cD 13 (oR [mZ 2 4,mC 3 (.b true)] [2,3]) uJ))))
def Adj:IC:=sQ (oS [fA 4 1 0,l1 5 4] [1,5] (.block 0 (oS [bZ 7 .eql 5 5,m1 6 7] [1,5,6] (cD 6 (oR [mZ 2 0,mC 3 (.b true)] [2,3]) (sQ (oS [bZ 9 .eql 5 6,m1 8 9] [1,5,8] (cD 8 .skip (oP [bZ 10 .eql 5 7,m1 8 10] [1,5,8]))) gB))))) (oR [mZ 2 0,mC 3 (.b false)] [2,3])
def AfB:IC:=oS [bX 1 0,mZ 2 0,mC 3 (.b false)] [1] Adj
@[push_cast]def AvF:List R:=[.t 2,.t 3]
@[push_cast]def Ax9:=Aq uJ.eq_1<|Aq gB.eq_1<|Aq Adj.eq_1<|AL AfB.eq_1
theorem AeC:Av Tryz.prog 49 20 AfB AvF=true:=by kernel_rfl
def fI:IC:=oS [m1 56 13,m1 57 10,q2 58 50 56 57,m1 55 58,xT 59 55 0,xT 60 55 1,m1 15 59,m1 16 60] [1,6,7,12,15,16,29,30,31] (oP [m1 61 15,m1 62 7,m1 63 62,Br 64 63 16,gF 65 63 (.not (.t 64)),pO 66 63 65,m1 10 61,m1 7 66] [1,6,7,10,12,29,30,31])
def nA:IC:=sQ (oS [m1 49 6,m1 50 12,o1 51 (.rdm (.mget .str (.i .i64 0) true) (.t 49) [.t 50]),m1 48 51,xT 52 48 0,xT 53 48 1,m1 13 52,m1 14 53] [1,6,7,10,12,13,14,29,30,31] (oS [m1 54 14] [1,6,7,10,12,13,29,30,31,54] (cD 54 fI .skip))) (oP [m1 67 6,m1 68 12,m1 69 10,o0 (.wrm (.mput .str) (.t 67) [.t 68,.t 69])] [1,6,7,29,30,31])
def wK:IC:=sQ (oS [m1 40 11,nT 41 40] [1,6,7,9,10,29,30,31,41] (cD 41 (.exit 1) .skip)) (oS [fA 42 1 0,l1 43 42,fA 44 9 1,l1 45 44,iA 46 43 45 9 1,l1 47 46,m1 12 47] [1,6,7,10,12,29,30,31] nA)
def cY:IC:=sQ (.block 1 (oS [iA 33 29 31 54 4,lA 34 33 4,o1 9 (.alloc (.agg [.i .i64 0,.i .i64 0,.i .i64 0,.s []])),sT 9 34 4] [1,6,7,9,29,30,31] (oS [lA 36 9 4,q1 37 49 36,m1 35 37,xT 38 35 0,xT 39 35 1,m1 10 38,m1 11 39] [1,6,7,9,10,11,29,30,31] wK))) (oP [bZ 70 .add 31 1,m1 31 70] [1,6,7,29,30,31])
def pU:IC:=oP [m1 80 17,m1 81 19,m1 82 6,m1 83 19,o1 84 (.rdm (.mget .str (.i .i64 0) false) (.t 82) [.t 83]),o1 85 (.build [.s [],.i .i64 0] [(0,1,.t 81),(1,1,.t 84)]),o1 86 (.msl false 86 2 [.t 85]),o1 87 (.app (.t 80) (.t 86) 86 2),m1 17 87] [6,17,74,75,76]
def rN:IC:=oS [bT 77 .lss 76 75] [6,17,74,75,76,77] (sQ (cD 77 .skip (.exit 2)) (sQ (.block 3 (oS [iA 78 74 76 9 1,l1 79 78,m1 19 79] [6,17,19,74,75,76] pU)) (oP [bZ 88 .add 76 1,m1 76 88] [6,17,74,75,76])))
def dK:IC:=sQ (sQ (.opx [m1 72 6] [6,17,72] 73 52 [.t 72] [o1 74 (.calln 51 [.t 73]),nL 75 74,mZ 76 0] [6,17,74,75,76]) (.block 2 (.loop rN))) (oR [m1 89 17,m1 2 89,mZ 3 0] [2,3])
def mU:IC:=sQ (oS [fA 28 1 1,l1 29 28,nL 30 29,mZ 31 0] [1,6,7,29,30,31] (.block 0 (.loop (oS [bT 32 .lss 31 30] [1,6,7,29,30,31,32] (sQ (cD 32 .skip (.exit 0)) cY))))) (sQ (oS [m1 71 7] [6,71] (cD 71 (oR [mC 2 .nil,mZ 3 11] [2,3]) .skip)) (oS [mC 17 .nil] [6,17] dK))
def Adm:IC:=sQ (oS [lA 21 1 2,q1 22 17 21,m1 20 22,xT 23 20 0,xT 24 20 1,m1 4 23,m1 5 24] [1,5] (oS [m1 25 5,bZ 26 .neq 25 0] [1,26] (cD 26 (oR [mC 2 .nil,mZ 3 1] [2,3]) .skip))) (oS [o1 27 (.mkm .mkmap []),m1 6 27] [1,6] (oS [mC 7 (.b false)] [1,6,7] mU))
def AeA:IC:=oS [bX 1 0,mC 2 .nil,mZ 3 0] [1] Adm
@[push_cast]def Aum:List R:=[.t 2,.t 3]
@[push_cast]def AxM:=Aq fI.eq_1<|Aq nA.eq_1<|Aq wK.eq_1<|Aq cY.eq_1<|Aq pU.eq_1<|Aq rN.eq_1<|Aq dK.eq_1<|Aq mU.eq_1<|Aq Adm.eq_1<|AL AeA.eq_1
theorem Afm:Av Tryz.prog 30 90 AeA Aum=true:=by kernel_rfl
end Go.Ir

namespace Go.Ir
structure Az where
 op:Int
 a:Int
 b:Int
 s:Aa
def Az.enc(x:Az):V:=.agg [.i .i64 x.op,.i .i64 x.a,.i .i64 x.b,.s x.s]
theorem Az.enc_eq(x:Az):x.enc=.agg [.i .i64 x.op,.i .i64 x.a,.i .i64 x.b,.s x.s]:=rfl
def AH(names:List Aa)(ins:List Az):V:=.agg [.sl (names.map V.s),.sl (ins.map Az.enc)]
def Iz(seen:List Aa):List Aa->Bool
 | []=>true
 | x::r=>if !De x||seen.contains x then false else Iz (seen++[x]) r
def HX(l:List Aa):Bool:=Iz [] l&&decide ((l.length:Int)<=20)
def BF:List Az->List Az
 | []=>[]
 | x::r=>if x.op==11 then x::BF r else[]
def Mp(a:Int)(seen:List Aa):List Az->Bool
 | []=>true
 | x::r=>if !Qy a x.s||seen.contains x.s then false else Mp a (seen++[x.s]) r
def jO(a:Int)(l:List Az):Bool:=Mp a [] l&&(decide ((l.length:Int)<=20)&&(l.map (·.s)).contains CN)
def CV(ins:List Az)(k:Nat):Int:=match ins[k]? with
 | some x=>x.op
 | none=>0
def Lk(ins:List Az)(i:Nat)(a:Int):Bool:=!decide (a<=(i:Int))&&(!decide (a>=(ins.length:Int))&&!(CV ins a.toNat==11))
def I8(nn:Nat)(a:Int):Bool:=!decide (a<0)&&!decide (a>=(nn:Int))
def AG(nn:Nat)(ins:List Az)(i:Nat)(x:Az):Bool:=
 if x.op==1 then !(x.a !=0)&&(!(x.b !=0)&&!(x.s==[]))
 else if x.op==2||(x.op==3||x.op==4) then !(x.a !=0)&&(!(x.b !=0)&&De x.s)
 else if x.op==5 then I8 nn x.a&&(!(x.b !=0)&&x.s==[])
 else if x.op==6 then I8 nn x.a&&(!(x.b !=0)&&(x.s==[]||(x.s==[105,110,116,101,103,101,114]||x.s==[112,101,114,99,101,110,116])))
 else if x.op==7||x.op==9 then I8 nn x.a&&(!(x.b !=0)&&De x.s)
 else if x.op==8 then I8 nn x.a&&(!(x.b !=0)&&E6 x.s)
 else if x.op==10 then I8 nn x.a&&(x.s==[]&&(Dc x.b&&jO x.b (BF (ins.drop (i+1)))))
 else if x.op==11 then Lk ins i x.a&&(!(x.b !=0)&&(decide ((i:Int)>0)&&(CV ins (i-1)==10||CV ins (i-1)==11)))
 else if x.op==12 then Lk ins i x.a&&(!(x.b !=0)&&x.s==[])
 else if x.op==13 then !(x.a !=0)&&(!(x.b !=0)&&(x.s==[]&&(i:Int)==(ins.length:Int)-1))
 else false
def Ce(nn:Nat)(ins:List Az):Nat->List Az->Int
 | _,[]=>-1
 | i,x::r=>if AG nn ins i x then Ce nn ins (i+1) r else i
abbrev Rf:=List (Bool×List Aa)×List Bool
def UW(st:Rf)(o:List Aa)(j:Int):Rf:=
 (st.1.set j.toNat (true,o),st.2.set j.toNat (st.2.getD j.toNat false||((st.1.getD j.toNat (false,[])).1&&!((st.1.getD j.toNat (false,[])).2==o))))
def EG(ins:List Az)(i:Nat)(x:Az):List Int:=
 if x.op==10 then(BF (ins.drop (i+1))).map (·.a) else if x.op==12 then[x.a] else if x.op==13 then[] else[(i:Int)+1]
def nY(x:Az)(o:List Aa):Option (List Aa):=
 if x.op==2 then some (o++[x.s])
 else if x.op==3 then(if o.isEmpty then none else if o.getLastD []==x.s then some o.dropLast else none)
 else if x.op==13 then(if o.isEmpty then some o else none)
 else some o
def Nn(ins:List Az):Nat->List Az->Rf->Int
 | _,[],_=>-1
 | i,x::r,st=>if(st.1.getD i (false,[])).1 then(if st.2.getD i false then i else match nY x (st.1.getD i (false,[])).2 with
  | none=>i
  | some o=>Nn ins (i+1) r ((EG ins i x).foldl (λst j=>UW st o j) st)) else Nn ins (i+1) r st
structure DY where
 op:List (List Aa)
 re:List Bool
 cl:List Bool
def HD(st:DY)(o:List Aa)(j:Int):DY:=
 if st.re.getD j.toNat false then{ st with cl:=st.cl.set j.toNat (st.cl.getD j.toNat false||!(st.op.getD j.toNat []==o)) }
 else{ st with re:=st.re.set j.toNat true,op:=st.op.set j.toNat o }
def D0(x:Az)(o:List Aa):Option (List Aa):=
 if x.op==2 then some (x.s::o)
 else if x.op==3 then(match o with
  | []=>none
  | t::r=>if t==x.s then some r else none)
 else if x.op==13 then(if o.isEmpty then some o else none)
 else some o
def Qs(ins:List Az)(i:Nat)(x:Az)(st:DY):Option DY:=
 if st.cl.getD i false then none else match D0 x (st.op.getD i []) with
  | none=>none
  | some o=>some ((EG ins i x).foldl (λst j=>HD st o j) st)
def Gt(ins:List Az):Nat->List Az->DY->Int
 | _,[],_=>-1
 | i,x::r,st=>if st.re.getD i false then(match Qs ins i x st with
  | none=>i
  | some a=>Gt ins (i+1) r a) else Gt ins (i+1) r st
structure Y1 (n:Nat) (s:Rf) (p:DY):Prop where
 l1:s.1.length=n
 l2:s.2.length=n
 l3:p.op.length=n
 l4:p.re.length=n
 l5:p.cl.length=n
 re:∀j,j<n->(s.1.getD j (false,[])).1=p.re.getD j false
 cl:∀j,j<n->s.2.getD j false=p.cl.getD j false
 op:∀j,j<n->p.re.getD j false=true->p.cl.getD j false=false->(s.1.getD j (false,[])).2=(p.op.getD j []).reverse
theorem BT{b:Type}(l:List b)(i j:Nat)(x d:b)(h:i<l.length):(l.set i x).getD j d=if i=j then x else l.getD j d:=by
 rw[AtX,List.getElem?_set,AtX];by_cases a:i=j
 .subst a;rw[if_pos rfl,if_pos h,if_pos rfl];rfl
 .rw[if_neg a,if_neg a]
theorem Aa1(a b:List Aa):(a.reverse==b.reverse)=(a==b):=by rw[Ats];simp
theorem YN{n:Nat}{s:Rf}{p:DY}(h:Y1 n s p)(o:List Aa)(j:Int)(f:j.toNat<n):Y1 n (UW s o.reverse j) (HD p o j):=by
 obtain⟨l1,t,u,v,x,m,cl,op⟩:=h;generalize y:j.toNat=k at f;have g:=m k f;have q:=cl k f;have r:=op k f;unfold UW HD;rw[y];cases e:p.re.getD k false with
 | true=>
  rw[e] at g r;rw[if_pos rfl];refine⟨by simp[l1],by simp[t],u,v,by simp[x],λi b=>?_,λi b=>?_,λi b d c=>?_⟩
  .simp only;rw[BT _ _ _ _ _ (by omega)];by_cases a:k=i
   .subst a;rw[if_pos rfl];exact e.symm
   .rw[if_neg a];exact m i b
  .simp only;rw[BT _ _ _ _ _ (by omega),BT _ _ _ _ _ (by omega)];by_cases a:k=i
   .subst a;rw[if_pos rfl,if_pos rfl,q,g];cases l:p.cl.getD k false with
    | true=>rfl
    | false=>rw[r rfl l,Aa1];rfl
   .rw[if_neg a,if_neg a];exact cl i b
  .simp only at d c⊢;rw[BT _ _ _ _ _ (by omega)] at c⊢;by_cases a:k=i
   .subst a;rw[if_pos rfl] at c⊢;simp only[Aya,AzM,beq_iff_eq] at c;rw[c.2]
   .rw[if_neg a] at c⊢;exact op i b d c
 | false=>
  rw[e] at g;rw[if_neg (by simp)];refine⟨by simp[l1],by simp[t],by simp[u],by simp[v],x,λi b=>?_,λi b=>?_,λi b d c=>?_⟩
  .simp only;rw[BT _ _ _ _ _ (by omega),BT _ _ _ _ _ (by omega)];by_cases a:k=i
   .subst a;rw[if_pos rfl,if_pos rfl]
   .rw[if_neg a,if_neg a];exact m i b
  .simp only;rw[BT _ _ _ _ _ (by omega)];by_cases a:k=i
   .subst a;rw[if_pos rfl,g,q];simp
   .rw[if_neg a];exact cl i b
  .simp only at d c⊢;rw[BT _ _ _ _ _ (by omega)] at d⊢;rw[BT _ _ _ _ _ (by omega)];by_cases a:k=i
   .subst a;rw[if_pos rfl,if_pos rfl]
   .rw[if_neg a] at d⊢;rw[if_neg a];exact op i b d c
theorem Us{n:Nat}(o:List Aa):∀(a:List Int) (s:Rf) (p:DY),Y1 n s p->(∀j∈a,j.toNat<n)->Y1 n (a.foldl (λst j=>UW st o.reverse j) s) (a.foldl (λst j=>HD st o j) p):=by
 intro a
 induction a with
 | nil=>intro s p h _;exact h
 | cons j a d=>intro s p h b;exact d _ _ (YN h o j (b j (by simp))) λk c=>b k (by simp[c])
theorem ZQ(x:Az)(o:List Aa):nY x o.reverse=(D0 x o).map List.reverse:=by
 unfold nY D0;by_cases b:(x.op==2)=true
 .rw[if_pos b,if_pos b];simp
 .rw[if_neg b,if_neg b];by_cases c:(x.op==3)=true
  .rw[if_pos c,if_pos c];cases o with
   | nil=>rfl
   | cons t r=>
    have d:(t::r).reverse.isEmpty=false:=by cases h:(t::r).reverse.isEmpty with
     | false=>rfl
     | true=>simp at h
    have e:(t::r).reverse.getLastD []=t:=by simp 
    have f:(t::r).reverse.dropLast=r.reverse:=by simp
    rw[d,e,f];simp only[AcT];cases(t==x.s)<;>rfl
  .rw[if_neg c,if_neg c];by_cases a:(x.op==13)=true
   .rw[if_pos a,if_pos a];cases o with
    | nil=>rfl
    | cons t r=>
     have d:(t::r).reverse.isEmpty=false:=by cases h:(t::r).reverse.isEmpty with
      | false=>rfl
      | true=>simp at h
     rw[d];rfl
   .rw[if_neg a,if_neg a];rfl
def VP(ins:List Az):Prop:=∀i x,ins[i]?=some x->∀j∈EG ins i x,j.toNat<ins.length
theorem Yq(ins:List Az)(j:VP ins):∀(r:List Az) (i:Nat) (s:Rf) (p:DY),ins.drop i=r->Y1 ins.length s p->Nn ins i r s=Gt ins i r p:=by
 intro r
 induction r with
 | nil=>intro i s p _ _;rfl
 | cons x r g=>
  intro i s p e h;have f:ins[i]?=some x:=by have:=congrArg (λl=>l[0]?) e;simpa using this
  have c:i<ins.length:=(Af8.1 f).1;have a:ins.drop (i+1)=r:=by have:=congrArg List.tail e;simpa using this
  rw[Nn,Gt,h.re i c];cases d:p.re.getD i false with
  | false=>simp only[AcT];exact g _ _ _ a h
  | true=>
   simp only ;unfold Qs;rw[h.cl i c];cases b:p.cl.getD i false with
   | true=>simp
   | false=>
    simp only[AcT];rw[h.op i c d b,ZQ];cases D0 x (p.op.getD i []) with
    | none=>rfl
    | some o=>exact g _ _ _ a (Us o _ s p h (j i x f))
def Kn(n:Nat):Rf:=((List.replicate n (false,[])).set 0 (true,[]),List.replicate n false)
def Cc(n:Nat):DY:=⟨List.replicate n [],(List.replicate n false).set 0 true,List.replicate n false⟩
theorem Z0(n:Nat)(c:0<n):Y1 n (Kn n) (Cc n):=by
 have b:∀{d:Type} (j:Nat) (x:d),j<n->(List.replicate n x).getD j x=x:=λj x h=>by rw[AtX,Aza,if_pos h];rfl
 refine⟨by simp[Kn],by simp[Kn],by simp[Cc],by simp[Cc],by simp[Cc],λj a=>?_,λj a=>?_,λj a e f=>?_⟩
 .simp only[Kn,Cc];rw[BT _ _ _ _ _ (by simpa using c),BT _ _ _ _ _ (by simpa using c)];by_cases h:0=j
  .rw[if_pos h,if_pos h]
  .rw[if_neg h,if_neg h,b _ _ a,b _ _ a]
 .simp only[Kn,Cc]
 .simp only[Kn,Cc];rw[BT _ _ _ _ _ (by simpa using c),b _ _ a];by_cases h:0=j
  .rw[if_pos h,b _ _ a];rfl
  .rw[if_neg h,b _ _ a];rfl
def Cv(names:List Aa)(ins:List Az):Int×Int:=
 if !HX names then(0,1)
 else if decide ((ins.length:Int)>10000) then(0,6)
 else if Ce names.length ins 0 ins>=0 then(Ce names.length ins 0 ins,4)
 else if ins.isEmpty||!(CV ins (ins.length-1)==13) then(ins.length,4)
 else if Gt ins 0 ins (Cc ins.length)>=0 then(Gt ins 0 ins (Cc ins.length),7)
 else(0,0)
theorem KN(nn:Nat)(ins:List Az):∀(r:List Az) (i:Nat),¬Ce nn ins i r>=0->∀k x,r[k]?=some x->AG nn ins (i+k) x=true:=by
 intro r
 induction r with
 | nil=>intro i _ k x h;simp at h
 | cons y r b=>
  intro i h k x a;rw[Ce] at h;cases hp:AG nn ins i y with
  | false=>rw[hp] at h;simp at h
  | true=>
   rw[hp,if_pos rfl] at h;cases k with
   | zero=>simp at a;subst a;exact hp
   | succ k=>have:=b (i+1) h k x (by simpa using a);rwa [Ay6,Nat.add_comm 1 k] at this
theorem Ot{l:List Az}:∀{y:Az},y∈BF l->∃k,k<(BF l).length/\l[k]?=some y/\y.op=11:=by
 induction l with
 | nil=>intro y h;cases h
 | cons x r e=>
  intro y h;rw[BF] at h⊢;split at h
  .rename_i a;rw[if_pos a];rcases Am8.1 h with rfl|h
   .exact⟨0,by simp,by simp,by simpa using a⟩
   .obtain⟨k,b,c,d⟩:=e h;exact⟨k+1,by simpa using b,by simpa using c,d⟩
  .cases h
theorem J2{ins:List Az}{i:Nat}{a:Int}(h:Lk ins i a=true):(i:Int)<a/\a<(ins.length:Int):=by unfold Lk at h;simp only[AzP,Ar9,decide_eq_false_iff_not] at h;exact⟨by omega,by omega⟩
theorem nG(nn:Nat)(ins:List Az)(hp:¬Ce nn ins 0 ins>=0)(h:CV ins (ins.length-1)=13):VP ins:=by
 intro i x f j c;have o:i<ins.length:=(Af8.1 f).1;have a:=KN nn ins ins 0 hp i x f;rw[Aw5] at a;unfold EG at c;split at c
 .obtain⟨y,m,rfl⟩:=AmB.1 c;obtain⟨k,_,g,l⟩:=Ot m;rw[AxB] at g;have b:=KN nn ins ins 0 hp _ y g;rw[Aw5] at b;unfold AG at b;rw[l] at b;simp  at b;have:=J2 b.1;omega
 .split at c
  .rename_i d;simp only[Atd] at c;subst c;unfold AG at a;rw[show x.op=12 by simpa using d] at a;simp  at a;have:=J2 a.1;omega
  .split at c
   .cases c
   .rename_i e;simp only[Atd] at c;subst c;have:i≠ins.length-1:=by rintro rfl;rw[CV,f] at h;exact e (by simpa using h)
    omega
def Tn(names:List Aa)(ins:List Az):Int×Int:=
 if !HX names then(0,1)
 else if decide ((ins.length:Int)>10000) then(0,6)
 else if Ce names.length ins 0 ins>=0 then(Ce names.length ins 0 ins,4)
 else if ins.isEmpty||!(CV ins (ins.length-1)==13) then(ins.length,4)
 else if Nn ins 0 ins (Kn ins.length)>=0 then(Nn ins 0 ins (Kn ins.length),7)
 else(0,0)
theorem SY(names:List Aa)(ins:List Az):Tn names ins=Cv names ins:=by
 unfold Tn Cv;split
 .rfl
 .split
  .rfl
  .split
   .rfl
   .rename_i hp;split
    .rfl
    .rename_i a;simp only[AxU,not_or,Ar9,Bool.not_eq_false,beq_iff_eq] at a;have b:CV ins (ins.length-1)=13:=by simpa using a.2
     have c:0<ins.length:=by
      cases ins with
      | nil=>simp at a
      | cons y r=>simp
     rw[Yq ins (nG _ ins hp b) ins 0 _ _ rfl (Z0 _ c)]
end Go.Ir

namespace Go.Ir
open Go Go.Proofs Go.Maps Go.Sort Go.Shelf Go.WideElems
def EY(x:Az):Int:=if x.op==6||x.op==7 then 2 else if x.op==8 then 3 else if x.op==9 then 4 else if x.op==10 then(if x.b==9 then 1 else 2) else 0
def J6(x:Az):Bool:=decide (x.op>=5)&&decide (x.op<=10)
def Cy(names:List Aa)(k:Int):Aa:=names.getD k.toNat []
def Er(names:List Aa):List Az->List (Aa×Int)
 | []=>[]
 | x::r=>if J6 x then(Cy names x.a,EY x)::Er names r else Er names r
def SA(names:List Aa)(ins:List Az):Dt×Bool:=(Er names ins).foldl DU ([],false)
def Lv(names:List Aa)(ins:List Az):Dt×Int:=
 if !((Cv names ins).2==0) then([],1) else if(SA names ins).2 then([],11) else(J5 (SA names ins).1,0)
def HK:Dt->Aa×Int->Dt×Bool
 | [],x=>([x],true)
 | e::l,x=>if e.1==x.1 then((e.1,(GO e.2 x.2).1)::l,(GO e.2 x.2).2) else if !(Op.bytesLess e.1 x.1||e.1==x.1) then(x::e::l,true) else(e::(HK l x).1,(HK l x).2)
def QY:Dt->List (Aa×Int)->Option Dt
 | l,[]=>some l
 | l,u::us=>if(HK l u).2 then QY (HK l u).1 us else none
def OO(names:List Aa)(ins:List Az):Dt×Int:=
 if !((Tn names ins).2==0) then([],1) else match QY [] (Er names ins) with
  | none=>([],11)
  | some l=>(l,0)
theorem IV{m:Dt}{n:Aa}:AU m n=none↔n∉m.map Prod.fst:=by
 induction m with
 | nil=>simp[AU]
 | cons e m a=>
  rw[AU,AlG,Am8,not_or];by_cases h:e.1=n
  .rw[if_pos (by simpa using h)];simp[h]
  .rw[if_neg (by simpa using h),a];simp[AfT h]
theorem eX{m:Dt}(b:(m.map Prod.fst).Nodup){e:Aa×Int}(h:e∈m):AU m e.1=some e.2:=by
 induction m with
 | nil=>cases h
 | cons a m d=>
  rw[AlG,Avo] at b;rw[AU];rcases Am8.1 h with rfl|h
  .simp
  .rw[if_neg (by simp only[beq_iff_eq];rintro c;exact b.1 (c ▸ AmB.2 ⟨e,h,rfl⟩))];exact d b.2 h
abbrev XY(l:Dt):Prop:=l.Pairwise λa b=>a.1<b.1
theorem Zg{l:Dt}(h:XY l):(l.map Prod.fst).Nodup:=by rw[List.Nodup,AzO];exact h.imp fun{a b} hab he=>by rw[he] at hab;exact List.lt_irrefl _ hab
theorem Aag(x:Aa×Int):∀l:Dt,XY l->AU l x.1=none->
  (HK l x).2=true/\XY (HK l x).1/\((HK l x).1.map Prod.fst).Perm (x.1::l.map Prod.fst)/\∀n,AU (HK l x).1 n=if n=x.1 then some x.2 else AU l n:=by
 intro l
 induction l with
 | nil=>intro _ _;exact⟨rfl,by simp[HK],.refl _,λn=>by
  simp only[HK,AU,beq_iff_eq];by_cases h:x.1=n
  .rw[if_pos h,if_pos h.symm]
  .rw[if_neg h,if_neg (AfT h)]⟩
 | cons e l r=>
  intro i g;rw[XY,Axs] at i;rw[IV,AlG,Am8,not_or] at g;have m:(e.1==x.1)=false:=by simpa using AfT g.1
  obtain⟨q,i2,i3,i4⟩:=r i.2 (IV.2 g.2);rw[HK,m];simp only[AcT,if_false,AuF,bytesLess_eq];by_cases a:e.1<x.1
  .simp only[a,decide_true,Au9,AcT,if_false];refine⟨q,?_,?_,λn=>?_⟩
   .rw[XY,Axs];refine⟨λb d=>?_,i2⟩;have j:b.1∈x.1::l.map Prod.fst:=i3.mem_iff.1 (AmB.2 ⟨b,d,rfl⟩);rcases Am8.1 j with h|h
    .rw[h];exact a
    .obtain⟨c,o,k⟩:=AmB.1 h;rw[<-k];exact i.1 c o
   .rw[AlG,AlG];exact(i3.cons _).trans (.swap _ _ _)
   .simp only[AU,i4,beq_iff_eq];by_cases h:e.1=n
    .rw[if_pos h,if_pos h,if_neg (by rintro rfl;exact g.1 h.symm)]
    .rw[if_neg h,if_neg h]
  .simp only[a,decide_false,AuR,if_true];have f:x.1<e.1:=Classical.byContradiction λp=>g.1 (List.le_antisymm (List.not_lt.1 a) (List.not_lt.1 p));refine⟨trivial,?_,.refl _,λn=>?_⟩
   .rw[XY,Axs,Axs];refine⟨λb d=>?_,i⟩;rcases Am8.1 d with rfl|d
    .exact f
    .exact List.lt_trans f (i.1 b d)
   .simp only[AU,beq_iff_eq];by_cases h:x.1=n
    .rw[if_pos h,if_pos h.symm]
    .rw[if_neg h,if_neg (AfT h)]
theorem Aby(x:Aa×Int)(d:Int):∀l:Dt,XY l->AU l x.1=some d->
  (HK l x).2=(GO d x.2).2/\(HK l x).1.map Prod.fst=l.map Prod.fst/\∀n,AU (HK l x).1 n=if n=x.1 then some (GO d x.2).1 else AU l n:=by
 intro l
 induction l with
 | nil=>intro _ h;cases h
 | cons e l p=>
  intro k c;rw[XY,Axs] at k;rw[AU] at c;rw[HK];by_cases h:e.1=x.1
  .have i:(e.1==x.1)=true:=by simpa using h
   rw[i] at c⊢;simp only[if_true] at c⊢;cases c;refine⟨rfl,rfl,λn=>?_⟩;simp only[AU,beq_iff_eq];by_cases b:e.1=n
   .rw[if_pos b,if_pos (b.symm.trans h)]
   .rw[if_neg b,if_neg (λf=>b (h.trans f.symm)),if_neg b]
  .have i:(e.1==x.1)=false:=by simpa using h
   rw[i] at c⊢;simp only[AcT,if_false,AuF,bytesLess_eq] at c⊢;obtain⟨o,i2,i3⟩:=p k.2 c;have j:e.1<x.1:=by obtain⟨a,m,g⟩:=AaS c;rw[<-g];exact k.1 a m
   simp only[j,decide_true,Au9,AcT,if_false];refine⟨o,by rw[AlG,i2,AlG],λn=>?_⟩;simp only[AU,i3,beq_iff_eq];by_cases b:e.1=n
   .rw[if_pos b,if_pos b,if_neg (λf=>h (b.trans f))]
   .rw[if_neg b,if_neg b]
theorem vM{l m:Dt}(h:l.map Prod.fst=m.map Prod.fst)(c:XY l):XY m:=by
 rw[XY,<-AzO (f:=Prod.fst) (R:=λa b:Aa=>a<b)] at c⊢
 rwa [<-h]
theorem YU:∀(us:List (Aa×Int)) (l m:Dt),XY l->(l.map Prod.fst).Perm (m.map Prod.fst)->(∀n,AU l n=AU m n)->
  (match QY l us with
  | none=>(us.foldl DU (m,false)).2=true
  | some j=>(us.foldl DU (m,false)).2=false/\XY j/\(j.map Prod.fst).Perm ((us.foldl DU (m,false)).1.map Prod.fst)/\∀n,AU j n=AU (us.foldl DU (m,false)).1 n):=by
 intro us
 induction us with
 | nil=>intro l m d f e;exact⟨rfl,d,f,e⟩
 | cons u us p=>
  intro l m d f e;rw[QY,AvR];have c:=e u.1;cases b:AU l u.1 with
  | none=>
   obtain⟨k,g,o,r⟩:=Aag u l d b;rw[b] at c;have i:DU (m,false) u=(Ep m u.1 u.2,false):=by unfold DU;simp only[<-c]
   rw[k,if_pos rfl,i];refine p _ _ g ?_ λn=>by rw[r,RX,e]
   rw[LV,if_neg (IV.1 c.symm)];exact o.trans ((f.cons _).trans (List.perm_append_singleton _ _).symm)
  | some a=>
   obtain⟨k,g,o⟩:=Aby u a l d b;rw[b] at c;have i:DU (m,false) u=(Ep m u.1 (GO a u.2).1,!(GO a u.2).2):=by unfold DU;simp only[<-c,AxP]
   rw[k,i];cases s:(GO a u.2).2 with
   | false=>
    simp only[AcT,AuR];cases q:(us.foldl DU (Ep m u.1 (GO a u.2).1,true)).2 with
    | true=>rfl
    | false=>exact absurd (TK us _ q) (by simp)
   | true=>
    simp only[Au9];refine p _ _ (vM g.symm d) ?_ λn=>by rw[o,RX,e]
    rw[g,LV,if_pos]
    .exact f
    .have:u.1∉m.map Prod.fst->False:=λh=>by rw[IV.2 h] at c;cases c
     exact Classical.not_not.1 this
theorem Aak{l m:Dt}(d:XY l)(hp:(l.map Prod.fst).Perm (m.map Prod.fst))(h:∀n,AU l n=AU m n):J5 m=l:=by
 have c:H4 m=l.map Prod.fst:=by
  have f:H4 m=(l.map Prod.fst).mergeSort (λx y=>decide (x<=y)):=by
   unfold H4 Q7 strKeys;refine mergeSort_of_perm (List.Perm.trans ?_ hp.symm);have:=(Azu (m.map λe=>(Lit.string e.1,(DataW.nil:DataW Unit)))).map (λe:Lit×DataW Unit=>strOf e.1);have g:(m.map λe=>(Lit.string e.1,(DataW.nil:DataW Unit))).map (λe:Lit×DataW Unit=>strOf e.1)=m.map Prod.fst:=by rw[AyY];rfl
   rw[g] at this;exact this
  rw[f];refine List.mergeSort_of_pairwise ?_;rw[AzO];exact d.imp fun{a b} hab=>by simpa using List.le_of_lt hab
 unfold J5;rw[c,AyY]
 conv=>rhs;rw[<-List.map_id l]
 refine Axz λe i=>?_;have:=eX (Zg d) i;simp only[Function.comp,id];rw[<-h,this];rfl
theorem SN(names:List Aa)(ins:List Az):OO names ins=Lv names ins:=by
 unfold OO Lv;rw[SY];split
 .rfl
 .have h:=YU (Er names ins) [] [] (by simp) (.refl _) (λ_=>rfl);unfold SA;cases hp:QY [] (Er names ins) with
  | none=>rw[hp] at h;simp only at h;rw[h];rfl
  | some l=>rw[hp] at h;simp only at h;rw[h.1];simp only[AcT,if_false];rw[Aak h.2.1 h.2.2.1 h.2.2.2]
end Go.Ir

namespace Go.Ir
open Go.Proofs
variable(W0:World)
def Q2:List Aa->Bool
 | []=>true
 | x::r=>if decide ((x.length:Int)>100) then false else Q2 r
def NN:List Az->Bool
 | []=>true
 | x::r=>if decide ((x.s.length:Int)>300) then false else NN r
def XE(names:List Aa)(ins:List Az):Bool:=Q2 names&&(NN ins&&(decide ((names.length:Int)<=30)&&decide ((ins.length:Int)<=400)))
theorem Su{x:Az}{dn rest L:List Az}(h:L=dn++x::rest):(L.map Az.enc)[dn.length]?=some (.agg [.i .i64 x.op,.i .i64 x.a,.i .i64 x.b,.s x.s]):=by rw[h];simp[Az.enc]
theorem gH{x:Aa}{dn rest L:List Aa}(h:L=dn++x::rest):(L.map V.s)[dn.length]?=some (.s x):=by rw[h];simp
theorem GB{a:Type}{x:a}{dn rest L:List a}(h:L=dn++x::rest):decide ((dn.length:Int)<(L.length:Int))=true:=by rw[h];simp;omega
theorem AgW(names:List Aa)(ins:List Az)(p:names.length<=2^40)(q:ins.length<=2^40):Al Tryz.prog W0 12 [AH names ins] [] (.b (XE names ins)) []:=by
 generalize hS:XE names ins=S;unfold XE at hS;unfold AH;refine Ae (vs:=[.b S]) AqR (by simp) (by simp) λn0 o=>?_;clear o;simp only[push_cast,seval,reduceEqDiff];intros;rename_i k1;refine Am names.length (Inv:=λm st=>∃dn rest n b,names=dn++rest/\m=rest.length/\(Q2 rest&&(NN ins&&(decide ((names.length:Int)<=30)&&decide ((ins.length:Int)<=400))))=S/\st=⟨[(1,.ref b 0),(3,.i .i64 dn.length)],[(b,.box (.agg [.sl (names.map V.s),.sl (ins.map Az.enc)]))],n⟩) ⟨_,Ak.refl,[],names,_,_,rfl,rfl,hS,rfl⟩ ?_;clear hS;rintro m _ ⟨dn,rest,n,b,e,rfl,a,rfl⟩;cases rest with
 | cons x rest=>
  have l:=AM e;have d:=gH e;have h:=GB e;have j:dn.length<names.length:=by omega
  have k:=Ai x (dn:=dn) (by omega);rw[Q2] at a;simp only[push_cast,seval,reduceEqDiff,d,h,j,k];cases g:decide ((x.length:Int)>100) with
  | true=>rw[g] at a;simp only[bq,if_true,if_false,Int.reduceBEq,reduceCtorEq] at a;subst a;simp only[push_cast,seval,reduceEqDiff,d,h,j,k,g];intros;exact Af (by simp[get])
  | false=>rw[g] at a;simp only[bq,if_true,if_false,Int.reduceBEq,reduceCtorEq] at a;simp only[push_cast,seval,reduceEqDiff,d,h,j,k,g];intros;exact⟨_,_,AzS _,Ak.refl,dn++[x],rest,_,_,by rw[e];simp,rfl,a,rfl⟩
 | nil=>
  rw[Q2,Au4] at a;have d:decide ((dn.length:Int)<(names.length:Int))=false:=by rw[e];simp
  simp only[push_cast,seval,reduceEqDiff,d];intros;refine Am ins.length (Inv:=λm st=>∃f c n',ins=f++c/\m=c.length/\(NN c&&(decide ((names.length:Int)<=30)&&decide ((ins.length:Int)<=400)))=S/\st=⟨[(1,.ref b 0),(4,.i .i64 f.length)],[(b,.box (.agg [.sl (names.map V.s),.sl (ins.map Az.enc)]))],n'⟩) ⟨_,Ak.refl,[],ins,_,rfl,rfl,a,rfl⟩ ?_;clear a e d;rintro m _ ⟨dn,rest,n,e,rfl,a,rfl⟩;cases rest with
  | cons x rest=>
   have l:=AM e;have d:=Su e;have h:=GB e;have j:dn.length<ins.length:=by omega
   have k:=Ai x (dn:=dn) (by omega);rw[NN] at a;simp only[push_cast,seval,reduceEqDiff,d,h,j,k];cases g:decide ((x.s.length:Int)>300) with
   | true=>rw[g] at a;simp only[bq,if_true,if_false,Int.reduceBEq,reduceCtorEq] at a;subst a;simp only[push_cast,seval,reduceEqDiff,d,h,j,k,g];intros;exact Af (by simp[get])
   | false=>rw[g] at a;simp only[bq,if_true,if_false,Int.reduceBEq,reduceCtorEq] at a;simp only[push_cast,seval,reduceEqDiff,d,h,j,k,g];intros;exact⟨_,_,AzS _,Ak.refl,dn++[x],rest,_,by rw[e];simp,rfl,a,rfl⟩
  | nil=>
   rw[NN,Au4] at a;have d:decide ((dn.length:Int)<(ins.length:Int))=false:=by rw[e];simp
   simp only[push_cast,seval,reduceEqDiff,d]
   repeat' (first|(((first|apply Ab|apply Ag|apply Ah)<;>intro _h)<;>simp only[push_cast,seval,reduceEqDiff,_h])|intro _)
   all_goals (subst a;refine Af ?_;simp[get, *];done)
theorem Ak.ownBoxM{W0:World}{nt n:Nat}{env:A9}{τ:Aj}{b:Id}{A B:List V}(e sz k:Nat):Ak W0 nt ⟨env,(b,.box (.agg (A++.nil::B)))::τ,n⟩ ⟨env,((n,k),.arr e sz [])::(b,.box (.agg (A++.arr (n,k)::B)))::τ,n+1⟩:=by
 intro Z a w z;obtain⟨μ,H,J,hp,S,u,o,C⟩:=z;have d:μ (n,k)=none:=hp.bd _ (AzR _);have l:=Bm (v:=.slice none 0 0) d;have D:lk ((b,A5.box (.agg (A++.nil::B)))::τ) b=some (.box (.agg (A++.nil::B))):=by simp[lk]
 have s:((n,k):Id)≠b:=by rintro rfl;obtain⟨_,I⟩:=(hp.ents _ _ D).named;rw[d] at I;cases I
 have f:=(hp.more (Am9 n)).new_ (n':=n+1) (w':=w) (R:=λ_=>False) ⟨rfl,rfl,rfl,AzR _,λ_ _ _=>rfl⟩ (λ_ h=>h.elim) (σ1:=(b,.box (.agg (A++.nil::B)))::τ) (λid e h=>⟨h,λ_ _ h=>h⟩) (id:=(n,k)) (e:=.arr e sz []) (val:=.slice none 0 0) d (AzS _) (AzR _) (λF O=>by simp[BB] at O)
  ⟨.slice none 0 0,[],Ap _ _ _,rfl,Azg w _ e sz,Aqn _,(λx X=>by cases X),AK.nil_⟩
 have r:lk (((n,k),A5.arr e sz [])::(b,.box (.agg (A++.nil::B)))::τ) b=some (.box (.agg (A++.nil::B))):=by simp[lk,s]
 have g:=f.1.set_ r (w':=w) (e:=.box (.agg (A++.arr (n,k)::B))) ⟨rfl,rfl,rfl,AzR _,λ_ _ _=>rfl⟩ (by
  obtain⟨F,vals,t,L,M,N,m⟩:=f.1.ents _ _ r;refine⟨F,vals,t,L,M,N,⟨⟨by have:=m.len;simpa[cells] using this,λj c v i E=>?_⟩,m.one⟩⟩;simp only[cells] at i;by_cases G:j<A.length
  .rw[Ava G] at i;exact m.at_ j c v (by simp only[cells];rw[Ava G];exact i) E
  .rw[AsT (by omega)] at i;cases y:j-A.length with
   | zero=>rw[y] at i;simp only[Ayf,Amy] at i;subst i;have:=m.at_ j .nil v (by simp only[cells];rw[AsT (by omega),y];rfl) E;rw[this.nil_inv];exact .arr _ _ (Ap _ _ _) rfl
   | succ q=>rw[y] at i;simp only[AxG] at i;exact m.at_ j c v (by simp only[cells];rw[AsT (by omega),y];exact i) E)
 have U:upd (((n,k),A5.arr e sz [])::(b,.box (.agg (A++.nil::B)))::τ) b (.box (.agg (A++.arr (n,k)::B)))=((n,k),.arr e sz [])::(b,.box (.agg (A++.arr (n,k)::B)))::τ:=by simp[upd,s]
 rw[U] at g;refine⟨_,H,⟨J.size,λY=>(J.at_ Y).mono l (λ_ _ h=>h)⟩,g.1,S.trans (f.2.trans g.2),λid p K=>?_,Am5 o (Am9 _),C⟩;simp only at o;rw[B0 _ _ (by rintro rfl;simp at p;omega)];exact u id p K
theorem Ace{W0:World}{nt n s k:Nat}{j:Bool}{env:A9}{σ:Aj}{id:Id}{u v:V}(m:get env s=.ref id 0)(r:lk σ id=some (.box u))(φ:Id->Option (List V))(g:∀i es,φ i=some es->(∃e sz,lk σ i=some (.arr e sz es))/\i≠id)
  (x:Jw φ u v)(o:(cells v).length=(cells u).length)(p:u.ok=true)(f:v.ok=true)(q:sub v 0 k j=some v):KC W0 nt [.c s k j] [v] [] .ret ⟨env,σ,n⟩:=by
 refine⟨⟨[(s,.ref id 0)],[(id,.box v)],n⟩,Ak.weak φ (λi es h=>?_) (λt=>?_) (λi y h=>?_) (AzR _),⟨⟨id,0,v,by simp[get],by simp[lk],q⟩,trivial⟩,λ_ _ h=>by cases h⟩
 .obtain⟨a,b⟩:=g i es h;exact⟨a,by simp only[lk];rw[if_neg (λd=>b d.symm)]⟩
 .by_cases l:s=t
  .subst l;rw[m];simp only[get];exact .refl _
  .simp only[get,if_neg l];exact .any _
 .simp only[lk] at h;split at h
  .rename_i d;subst d;cases h;exact⟨_,r,.box _ _ x o p f⟩
  .cases h
theorem fV(names:List Aa)(es:List V)(id:Id)(φ:Id->Option (List V))(h:φ id=some es)(d:∀y∈es,y.ok=true):Jw φ (.agg [.sl (names.map V.s),.arr id]) (.agg [.sl (names.map V.s),.sl es]):=by
 refine .agg _ _ rfl λk c e a b=>?_
 match k with
 | 0=>simp at a b;subst a b;exact .refl _
 | 1=>
  simp at a b;subst a b;refine .arr id _ _ h rfl (λk c e a b=>?_) (λk c e a b=>?_)
  .rw[a] at b;cases b;exact .refl _
  .rw[a] at b;cases b;have:=d c (AzT a);exact⟨rfl,this,this⟩
 | k+2=>simp at a
theorem AqE(l:List Az):∀y∈l.map Az.enc,y.ok=true:=by intro y a;obtain⟨z,_,rfl⟩:=AmB.1 a;rfl
set_option maxHeartbeats 4000000 in
theorem Ail(names:List Aa)(ins:List Az)(u:ins.length<=2^30):Al Tryz.prog W0 14 [AH names ins] [] (AH names ins) []:=by
 unfold AH;refine Ae (vs:=[.agg [.sl (names.map V.s),.sl (ins.map Az.enc)]]) AqF (by simp) (by simp) λn0 z=>?_;clear z;simp only[push_cast,seval,reduceEqDiff];intro k1 k2 k3;generalize R:n0+1+k1=m1;have S:n0<m1:=by omega
 have e:∀q j:Nat,((m1,j)=(n0,q))=False:=λq j=>eq_false λc=>by injection c with F u;omega
 have l:∀q j:Nat,((n0,q)=(m1,j))=False:=λq j=>eq_false λc=>of_eq_false (e q j) c.symm;refine Am ins.length (Inv:=λm st=>∃dn rest n id,ins=dn++rest/\m=rest.length/\m1<id.1/\id.1<n/\st=⟨[(1,.ref (n0,1) 0),(2,.ref (n0,2) 0),(3,.ref (m1,3) 0),(4,.i .i64 dn.length)],[((m1,3),.box (.agg [.sl (names.map V.s),.arr id])),(id,.arr 54 4 (dn.map Az.enc)),((n0,2),.box (.agg [.nil,.nil])),((n0,1),.box (.agg [.sl (names.map V.s),.sl (ins.map Az.enc)]))],n⟩) ⟨_,(Ak.ownBoxM (A:=[.sl (names.map V.s)]) (B:=[]) 54 4 99).trans (Ak.sub (σ':=[((m1,3),.box (.agg [.sl (names.map V.s),.arr (m1+1+k2+1+k3,99)])),((m1+1+k2+1+k3,99),.arr 54 4 []),((n0,2),.box (.agg [.nil,.nil])),((n0,1),.box (.agg [.sl (names.map V.s),.sl (ins.map Az.enc)]))]) ?_ ?_ (AzR _)),[],ins,m1+1+k2+1+k3+1,(m1+1+k2+1+k3,99),rfl,rfl,by simp only;omega,by simp only;omega,rfl⟩ ?_
 .simp[e]<;>omega
 .intro p hp;simp at hp⊢;rcases hp with h|h|h|h<;>simp[h]
 rintro m _ ⟨dn,rest,n,id,f,rfl,O,o,rfl⟩;have r:∀j:Nat,((m1,j)=id)=False:=λj=>eq_false λc=>(by have:=congrArg Prod.fst c;(try simp only at this);omega);have g:∀j:Nat,(id=(m1,j))=False:=λj=>eq_false λc=>of_eq_false (r j) c.symm;have t:∀j:Nat,((n0,j)=id)=False:=λj=>eq_false λc=>(by have:=congrArg Prod.fst c;(try simp only at this);omega);have d:∀j:Nat,(id=(n0,j))=False:=λj=>eq_false λc=>of_eq_false (t j) c.symm;cases rest with
 | nil=>
  rw[Arm] at f;subst f;simp only[push_cast,seval,reduceEqDiff,e,l,r,g,t,d,Ata];intros;refine Ace (id:=(n0,2)) rfl (by simp[lk,e,t,d]) (λj=>if j=id then some (ins.map Az.enc) else none) (λj es h=>?_) (fV names (ins.map Az.enc) id _ (by simp) (AqE ins)) rfl rfl rfl rfl;split at h
  .rename_i c;subst c;cases h;exact⟨⟨54,4,by simp[lk,r]⟩,λc=>of_eq_false (d _) c⟩
  .cases h
 | cons x rest=>
  have N:=AM f;have G:=Su f;have I:=GB f;have J:dn.length<ins.length:=by omega
  have K:=Ai x (dn:=dn) (by omega);have L:∀j q:Nat,((n,j)=(n0,q))=False:=λj q=>eq_false λc=>(by have:=congrArg Prod.fst c;(try simp only at this);omega)
  have M:∀j q:Nat,((n0,q)=(n,j))=False:=λj q=>eq_false λc=>of_eq_false (L j q) c.symm;have q1:∀k j q:Nat,((n+1+k,j)=(n0,q))=False:=λk j q=>eq_false λc=>by injection c with F u;omega
  have C:∀k j q:Nat,((n0,q)=(n+1+k,j))=False:=λk j q=>eq_false λc=>of_eq_false (q1 k j q) c.symm;have q2:∀k j q:Nat,((n+1+k,j)=(m1,q))=False:=λk j q=>eq_false λc=>by injection c with F u;omega
  have D:∀k j q:Nat,((m1,q)=(n+1+k,j))=False:=λk j q=>eq_false λc=>of_eq_false (q2 k j q) c.symm;have q3:∀k j:Nat,((n+1+k,j)=id)=False:=λk j=>eq_false λc=>by rw[<-c] at o;simp at o;omega
  have E:∀k j:Nat,(id=(n+1+k,j))=False:=λk j=>eq_false λc=>of_eq_false (q3 k j) c.symm;have y:dn.length+1<=AI:=by unfold AI;omega
  have v:List.map Az.enc dn++[.agg [.i .i64 x.op,.i .i64 x.a,.i .i64 x.b,.s x.s]]=(dn++[x]).map Az.enc:=by simp[Az.enc_eq]
  simp only[push_cast,seval,reduceEqDiff,G,I,J,K,Abn,e,l,r,g,t,d,q1,C,q2,D,q3,E,eq_true y,v];intros;rename_i k3 U X;refine⟨_,⟨_,[((m1,3),.box (.agg [.sl (names.map V.s),.arr (n+1+k3,23)])),((n+1+k3,23),.arr 54 4 ((dn++[x]).map Az.enc)),((n0,2),.box (.agg [.nil,.nil])),((n0,1),.box (.agg [.sl (names.map V.s),.sl (ins.map Az.enc)]))],_⟩,AzS _,Ak.sub ?_ ?_ (AzR _),(dn++[x]),rest,_,(n+1+k3,23),by rw[f];simp,rfl,?_,?_,rfl⟩
  .simp[q1,q2,e]
  .intro p hp;simp at hp⊢;rcases hp with h|h|h|h<;>simp[h]
  .simp only;omega
  .simp only;omega
def Je(b:Int)(a:List Aa)(l:List Az):Bool:=Mp b a l&&(decide (((a.length+l.length:Nat):Int)<=20)&&(a++l.map (·.s)).contains CN)
theorem Zv(b:Int)(a:List Aa):Je b a []=(decide ((a.length:Int)<=20)&&a.contains CN):=by unfold Je;rw[Mp];simp
theorem SC(b:Int)(a:List Aa)(x:Az)(l:List Az):Je b a (x::l)=if !Qy b x.s||a.contains x.s then false else Je b (a++[x.s]) l:=by
 unfold Je;rw[Mp];split
 .rfl
 .have c:a.length+(x::l).length=(a++[x.s]).length+l.length:=by simp;omega
  have d:a++(x::l).map (·.s)=(a++[x.s])++l.map (·.s):=by simp
  rw[c,d]
theorem Abw(a:Int)(l:List Az):jO a l=Je a [] l:=by unfold jO Je;simp

theorem dW(ins:List Az)(i:Nat)(x:Az)(h:(x.op==10)=true):EG ins i x=(BF (ins.drop (i+1))).map (·.a):=by unfold EG;rw[if_pos h]
def Cl:TypeId:=4
theorem getD_some{a:Type}{l:List a}{k:Nat}(d:a)(h:k<l.length):l[k]?=some (l.getD k d):=by rw[AtX,Afb h];rfl
theorem m7{nn:Nat}(ins:List Az)(i:Nat)(x:Az)(l:VP ins)(g:ins[i]?=some x)(hp:∀k y,ins[k]?=some y->AG nn ins k y=true):∀j∈EG ins i x,0<=j:=by
 intro j a;have b:=hp i x g;unfold EG at a;split at a
 .obtain⟨y,h,rfl⟩:=AmB.1 a;obtain⟨k,_,e,f⟩:=Ot h;rw[AxB] at e;have c:=hp _ y e;unfold AG at c;rw[f] at c;simp  at c;have:=J2 c.1;omega
 .split at a
  .rename_i d;simp only[Atd] at a;subst a;unfold AG at b;rw[show x.op=12 by simpa using d] at b;simp  at b;have:=J2 b.1;omega
  .split at a
   .cases a
   .simp only[Atd] at a;subst a;omega
theorem Zz(l:List Az):(BF l).length<=l.length:=by
 obtain⟨q,a⟩:∃r,l=BF l++r:=by
  induction l with
  | nil=>exact⟨[],rfl⟩
  | cons x r b=>
   rw[BF];split
   .obtain⟨q,a⟩:=b;exact⟨q,by rw[Auh,<-a]⟩
   .exact⟨x::r,rfl⟩
 have:=congrArg List.length a;simp at this;omega
theorem QF{nn:Nat}{ins:List Az}(h:¬Ce nn ins 0 ins>=0):∀k y,ins[k]?=some y->AG nn ins k y=true:=by
 intro k y a;have:=KN nn ins ins 0 h k y a
 rwa [Aw5] at this
theorem xU(s:Aa):Al Tryz.prog W0 183 [.s s] [] (.b (J1 s)) []:=by
 have a:=GX W0 [[122,101,114,111],[111,110,101],[116,119,111],[102,101,119],[109,97,110,121],[111,116,104,101,114]] s (by simp);have d:([[122,101,114,111],[111,110,101],[116,119,111],[102,101,119],[109,97,110,121],[111,116,104,101,114]]:List Aa).contains s=J1 s:=by unfold J1;rw[Ats];simp[or_assoc]
 rw[d] at a;simp only[AlG,Apy] at a;generalize J1 s=S at *;refine Ae (vs:=[.b S]) Ahh (by simp) (by simp) λn0 c=>?_;clear c;simp only[push_cast]
 repeat' (first|(((first|apply Ab|apply Ag|apply Ah)<;>intro _h)<;>simp only[push_cast])|(refine Ac (by exact a) ?_;simp only[push_cast])|intro _)
 all_goals exact Af (by simp[get])
theorem AlV(d:Int)(s:Aa)(l:s.length<=2^30):Al Tryz.prog W0 129 [.i .i64 d,.s s] [] (.b (Qy d s)) []:=by
 generalize hS:Qy d s=S;unfold Qy at hS;have f:=Gp W0 s (by unfold AJ;omega);have g:=xU W0 s;have e:=Eb W0 s [61];cases s with
 | nil=>
  have h:=G3 W0 [] (by simp);refine Ae (vs:=[.b S]) TC (by simp) (by simp) λn0 a=>?_;clear a;simp only[push_cast,reduceEqDiff]
  repeat' (first|(((first|apply Ab|apply Ag|apply Ah)<;>intro _h)<;>(simp only[push_cast,reduceEqDiff,_h];try (have _g:=_h;simp at _g)))|((first|refine Ac (by exact f) ?_|refine Ac (by exact g) ?_|refine Ac (by exact e) ?_|refine Ac (by exact h) ?_);simp only[push_cast,reduceEqDiff])|intro _)
  all_goals subst hS
  all_goals (first|(refine Af ?_;simp[AaG,RK, *]<;>(intros;omega);done)|(refine Ad ?_;simp[push_cast,AaG,RK, *];done)|skip)
 | cons c t=>
  have hp:Lib.hasPrefix (c::t) [61]=((c.toNat:Int)==61):=by unfold Lib.hasPrefix;simp only[List.isPrefixOf,Ax6];rw[Ats];simp[<-AzC];omega
  have k:Lib.trimPrefix (c::t) [61]=if((c.toNat:Int)==61)=true then t else c::t:=by unfold Lib.trimPrefix;rw[hp];rfl
  rw[hp,k] at e;generalize De (c::t)=N at f hS;generalize J1 (c::t)=C at g hS;rw[AaG] at hS;have h:=G3 W0 t (by simp at l;omega);rcases Ay4 ((c.toNat:Int)==61) with j|j
  all_goals (rw[j] at e hS;simp only[Au4,AxA,AcT] at e hS)
  .skip;refine Ae (vs:=[.b S]) TC (by simp) (by simp) λn0 a=>?_;clear a;simp only[push_cast,reduceEqDiff]
   repeat' (first|(((first|apply Ab|apply Ag|apply Ah)<;>intro _h)<;>(simp only[push_cast,reduceEqDiff,_h];try (have _g:=_h;simp at _g)))|((first|refine Ac (by exact f) ?_|refine Ac (by exact g) ?_|refine Ac (by exact e) ?_|refine Ac (by exact h) ?_);simp only[push_cast,reduceEqDiff])|intro _)
   all_goals subst hS
   all_goals (first|(refine Af ?_;simp[ *]<;>(intros;omega);done)|(refine Ad ?_;simp[push_cast, *];done)|skip)
  .skip;refine Ae (vs:=[.b S]) TC (by simp) (by simp) λn0 a=>?_;clear a;simp only[push_cast,reduceEqDiff]
   repeat' (first|(((first|apply Ab|apply Ag|apply Ah)<;>intro _h)<;>(simp only[push_cast,reduceEqDiff,_h];try (have _g:=_h;simp at _g)))|((first|refine Ac (by exact f) ?_|refine Ac (by exact g) ?_|refine Ac (by exact e) ?_);simp only[push_cast,reduceEqDiff])|intro _)
   all_goals subst hS
   all_goals (first|(refine Af ?_;simp[ *]<;>(intros;omega);done)|(refine Ad ?_;simp[push_cast, *];done)|skip)
theorem AaU:∀n:_root_.Fin 256,((decide (IntKind.u8.wrap ((BitVec.ofInt 8 (n.val:Int) ||| BitVec.ofInt 8 32).toNat)<97)||decide (IntKind.u8.wrap ((BitVec.ofInt 8 (n.val:Int) ||| BitVec.ofInt 8 32).toNat)>122))==!R2 (n.val:Int))=true:=by decide +kernel
theorem orL(c:UInt8):∃m,Fv (.bit .or) [.i .u8 (c.toNat:Int),.i .u8 32]=some (.i .u8 m)/\(decide (m<97)||decide (m>122))=!R2 (c.toNat:Int):=
 ⟨_,rfl,eq_of_beq (AaU ⟨c.toNat,c.toNat_lt⟩)⟩
theorem Rj(s:Aa)(p:s.length<AJ):Al Tryz.prog W0 90 [.s s] [] (.b (E6 s)) []:=by
 generalize hS:E6 s=S;unfold E6 at hS;generalize e:(decide ((s.length:Int)>=1)&&decide ((s.length:Int)<=40))=T at hS;refine Ae (vs:=[.b S]) ApL (by simp) (by simp) λn0 j=>?_;clear j;simp only[push_cast,reduceEqDiff];intro _ _;refine Am s.length (Inv:=λm st=>∃dn rest n,s=dn++rest/\m=rest.length/\(Lq R2 rest&&T)=S/\st=⟨[(0,.s s),(6,.i .i64 s.length),(7,.i .i64 dn.length)],[],n⟩) ⟨_,Ak.refl,[],_,_,rfl,rfl,hS,rfl⟩ ?_;clear hS;rintro m _ ⟨dn,rest,n,f,rfl,a,rfl⟩;cases rest with
 | nil=>
  have a:T=S:=by rw[<-a];rfl
  rw[Arm] at f;subst f;cases s with
  | nil=>
   simp only[push_cast,reduceEqDiff]
   repeat' (first|(((first|apply Ab|apply Ag|apply Ah)<;>intro _h)<;>(simp only[push_cast,reduceEqDiff,_h];try (have _g:=_h;simp at _g)))|intro _)
   all_goals (first|(refine Af ?_;simp[get,<-a,<-e]<;>(intros;omega);done)|(refine Ad ?_;simp[push_cast,get,<-a,<-e, *];done)|skip)
  | cons l q=>
   simp only[push_cast,reduceEqDiff]
   repeat' (first|(((first|apply Ab|apply Ag|apply Ah)<;>intro _h)<;>(simp only[push_cast,reduceEqDiff,_h];try (have _g:=_h;simp at _g)))|intro _)
   all_goals (first|(refine Af ?_;simp[get,<-a,<-e]<;>(intros;omega);done)|(refine Ad ?_;simp[push_cast,get,<-a,<-e, *];done)|skip)
 | cons c rest=>
  have o:=AM f;obtain⟨m,h,d⟩:=orL c;rw[Lq] at a;generalize R2 (c.toNat:Int)=g at *;simp only[push_cast,reduceEqDiff,f,h]
  repeat' (first|(((first|apply Ab|apply Ag|apply Ah)<;>intro _h)<;>simp only[push_cast,reduceEqDiff,_h,Ka c (dn:=dn) (by omega)])|intro _)
  all_goals (simp only[*,bq] at d)
  all_goals (have k:g=!(!g):=(AzD g).symm;rw[<-d] at k;subst k;simp only[Au9,AuR,Au4,AxA] at a)
  all_goals (first|(subst a;exact Af (by simp[get]))|exact⟨_,_,AzS _,Ak.refl,dn++[c],rest,_,by simp,rfl,a,rfl⟩)
def Gs(l:List Aa):List (V×V):=l.map λn=>(.s n,.b true)
theorem Kh(x:Aa)(l:List Aa):∀n,(l.contains x=true/\∃i,Bs .str (.s x) (Gs l) n=some (some (i,.b true)))\/(l.contains x=false/\Bs .str (.s x) (Gs l) n=some none):=by
 induction l with
 | nil=>intro n;exact .inr ⟨rfl,rfl⟩
 | cons e l d=>
  intro n;have c:Bs .str (.s x) (Gs (e::l)) n=(match Ef .str (.s x) (.s e) with
   | some true=>some (some (n,.b true))
   | some false=>Bs .str (.s x) (Gs l) (n+1)
   | none=>none):=rfl
  have a:Ef .str (.s x) (.s e)=some (x==e):=rfl;rw[c,a,List.contains_cons];cases f:(x==e) with
  | true=>exact .inl ⟨rfl,n,rfl⟩
  | false=>simp only[AxP];exact d (n+1)
theorem xX(names:List Aa)(r:names.length<=2^40)(p:∀s∈names,s.length<AJ):Al Tryz.prog W0 56 [.sl (names.map V.s)] [] (.b (HX names)) []:=by
 generalize hS:HX names=S;unfold HX at hS;refine Ae (vs:=[.b S]) AsD (by simp) (by simp) λn0 g=>?_;clear g;simp only[push_cast,reduceEqDiff];intros;rename_i k1 k2 k3;refine Am names.length (Inv:=λm st=>∃dn rest n h,names=dn++rest/\m=rest.length/\(Iz dn rest&&decide ((names.length:Int)<=20))=S/\st=⟨[(0,.sl (names.map V.s)),(3,.arr (h,6)),(7,.sl (names.map V.s)),(8,.i .i64 names.length),(9,.i .i64 dn.length)],[((h,6),.map (Gs dn))],n⟩) ⟨_,Ak.refl,[],names,_,_,rfl,rfl,hS,rfl⟩ ?_;clear hS;rintro m _ ⟨dn,rest,n,h,c,rfl,a,rfl⟩;cases rest with
 | nil=>
  rw[Iz,Au4] at a;subst a;have d:decide ((dn.length:Int)<(names.length:Int))=false:=by rw[c];simp
  simp only[push_cast,reduceEqDiff,d];intros;exact Af (by simp[get])
 | cons x rest=>
  have o:=AM c;have d:=gH c;have k:=GB c;have q:dn.length<names.length:=by omega
  have l:=Ai x (dn:=dn) (by omega);have f:=Gp W0 x (p x (by rw[c];simp));have e:Gs dn++[(V.s x,V.b true)]=Gs (dn++[x]):=by simp[Gs]
  rw[Iz] at a;generalize De x=j at *;rcases Kh x dn 0 with⟨hc,i,hf⟩|⟨hc,hf⟩
  all_goals rw[hc] at a
  all_goals cases j
  all_goals simp only[bq] at a
  all_goals simp only[push_cast,reduceEqDiff,d,k]
  all_goals (repeat' (first|(refine Ac (by exact f) ?_;simp only[push_cast,reduceEqDiff,l,hf,e])|intro _))
  all_goals (first|(subst a;exact Af (by simp[get]))|exact⟨_,_,AzS _,Ak.refl,dn++[x],rest,_,_,by rw[c];simp,rfl,a,rfl⟩)
theorem Om(l:List Az):∃r,l=BF l++r:=by
 induction l with
 | nil=>exact⟨[],rfl⟩
 | cons x r b=>
  rw[BF];split
  .obtain⟨q,a⟩:=b;exact⟨q,by rw[Auh,<-a]⟩
  .exact⟨x::r,rfl⟩
set_option maxHeartbeats 4000000 in
theorem Re(names:List Aa)(ins:List Az)(i:Nat)(D:i<ins.length)(E:ins.length<=2^30):Al Tryz.prog W0 94 [AH names ins,.i .i64 i] [] (.sl ((BF (ins.drop (i+1))).map Az.enc)) []:=by
 have o:IntKind.i64.wrap ((i:Int)+1)=((ins.take (i+1)).length:Int):=by rw[wrap64 (by omega) (by omega),AxJ,Ay3 (by omega)];simp
 have d:∀y∈ins.map Az.enc,(cells y).length=4:=λy B=>by obtain⟨z,_,rfl⟩:=AmB.1 B;rfl
 unfold AH;generalize hS:BF (ins.drop (i+1))=S;refine Ae (vs:=[.sl (S.map Az.enc)]) ApU (by simp) (by simp) λn0 p=>?_;clear p;simp only[push_cast,reduceEqDiff,o];intros;refine Am (ins.drop (i+1)).length (Inv:=λm st=>∃c rest dn n l,dn=ins.take (i+1)++c/\ins=dn++rest/\m=rest.length/\c++BF rest=S/\st=⟨[(1,.i .i64 i),(2,.ref (l,2) 0),(5,.i .i64 dn.length)],[((l,2),.box (.agg [.sl (names.map V.s),.sl (ins.map Az.enc)]))],n⟩) ⟨_,Ak.refl,[],ins.drop (i+1),ins.take (i+1),_,_,by simp,(Ayp _ _).symm,rfl,hS,rfl⟩ ?_;clear hS;rintro m _ ⟨c,rest,dn,n,l,g,h,rfl,a,rfl⟩;have A:(ins.take (i+1)).length=i+1:=by rw[AxJ,Ay3 (by omega)]
 have j:dn.length<=ins.length:=by rw[h];simp
 have f:(ins.take (i+1)).length<=dn.length:=by rw[g];simp
 have e:(if(ins.take (i+1)).length<=dn.length/\dn.length<=ins.length then some (V.sl (List.drop (ins.take (i+1)).length (List.take dn.length (ins.map Az.enc)))) else none)=some (V.sl (c.map Az.enc)):=by
  rw[if_pos ⟨f,j⟩];have t:List.take dn.length (ins.map Az.enc)=dn.map Az.enc:=by
   conv=>lhs;rw[h]
   simp
  rw[t,g,Azd,List.drop_append_of_le_length (by simp)];simp
 have v:((ins.take (i+1)).length<=dn.length/\dn.length<=ins.length)=True:=eq_true ⟨f,j⟩;cases rest with
 | nil=>
  have k:decide ((dn.length:Int)<(ins.length:Int))=false:=by rw[h];simp
  rw[BF,Arm] at a;subst a;simp only[push_cast,reduceEqDiff,k,o,eq_true d,e];intros;exact Af (by simp[get])
 | cons x rest=>
  have u:=AM h;have k:=Su h;have q:=GB h;have C:dn.length<ins.length:=by omega
  have r:=Ai x (dn:=dn) (by omega);rw[BF] at a;cases b:(x.op==11) with
  | false=>rw[b] at a;simp only[AcT,Arm] at a;subst a;simp only[push_cast,reduceEqDiff,k,q,b,o,eq_true d,e];intros;exact Af (by simp[get])
  | true=>rw[b] at a;simp only  at a;simp only[push_cast,reduceEqDiff,k,q,r,b];intros;exact⟨_,_,AzS _,Ak.refl,c++[x],rest,dn++[x],_,_,by rw[g];simp,by rw[h];simp,rfl,by rw[<-a];simp,rfl⟩
set_option maxHeartbeats 4000000 in
theorem M1(names:List Aa)(ins:List Az)(i:Nat)(c:Az)(l:ins[i]?=some c)(R:ins.length<=2^30)(U:∀x∈ins,x.s.length<=2^30) :
  Al Tryz.prog W0 91 [AH names ins,.i .i64 i] [] (.b (Dc c.b&&jO c.b (BF (ins.drop (i+1))))) []:=by
 have O:i<ins.length:=(Af8.1 l).1;have g:(ins.map Az.enc)[i]?=some (.agg [.i .i64 c.op,.i .i64 c.a,.i .i64 c.b,.s c.s]):=by rw[Akg,l];rfl
 have z:=Re W0 names ins i O R;have f:=TE W0 c.b;obtain⟨q,E⟩:=Om (ins.drop (i+1));have M:(BF (ins.drop (i+1))).length<=ins.length:=by have:=congrArg List.length E;simp at this;omega
 have u:∀x∈BF (ins.drop (i+1)),x∈ins:=λx X=>Ayw (by rw[E];exact Awj _ X);rw[Abw];generalize BF (ins.drop (i+1))=L at *;generalize hS:(Dc c.b&&Je c.b [] L)=S;generalize Dc c.b=F at *;unfold AH at *;refine Ae (vs:=[.b S]) Art (by simp) (by simp) λn0 C=>?_;clear C;simp only[push_cast,reduceEqDiff]
 repeat' (first|(((first|apply Ab|apply Ag|apply Ah)<;>intro _h)<;>simp only[push_cast,reduceEqDiff,_h])|(refine Ac (by exact z) ?_;simp only[push_cast,reduceEqDiff])|intro _)
 refine Am L.length (Inv:=λm st=>∃dn rest n D t,L=dn++rest/\m=rest.length/\(F&&Je c.b (dn.map (·.s)) rest)=S/\st=⟨[(1,.i .i64 i),(2,.ref (t,2) 0),(5,.sl (L.map Az.enc)),(6,.arr (D,12)),(13,.sl (L.map Az.enc)),(14,.i .i64 L.length),(15,.i .i64 dn.length)],[((D,12),.map (Gs (dn.map (·.s)))),((t,2),.box (.agg [.sl (names.map V.s),.sl (ins.map Az.enc)]))],n⟩) ⟨_,Ak.refl,[],L,_,_,_,rfl,rfl,hS,rfl⟩ ?_;clear hS;rintro m _ ⟨dn,rest,n,D,t,e,rfl,d,rfl⟩;cases rest with
 | nil=>
  have o:decide ((dn.length:Int)<(L.length:Int))=false:=by rw[e];simp
  have A:(dn.map (·.s)).length=L.length:=by rw[e];simp
  rw[Zv,A] at d;rcases Kh CN (dn.map (·.s)) 0 with⟨hc,j,hf⟩|⟨hc,hf⟩
  .rw[hc] at d;have K:decide ((L.length:Int)>=1)=true:=by
    rw[e];cases dn with
    | nil=>simp at hc
    | cons y r=>simp;omega
   simp only[CN] at hf;clear e;simp only[push_cast,reduceEqDiff,o,g]
   repeat' (first|(((first|apply Ab|apply Ag|apply Ah)<;>intro _h)<;>simp only[push_cast,reduceEqDiff,_h,hf,K])|(refine Ac (by exact f) ?_;simp only[push_cast])|intro _)
   all_goals (subst d;refine Af ?_;simp only[Bv,if_true, *,bq];done)
  .rw[hc] at d;simp only[CN] at hf;clear e;simp only[push_cast,reduceEqDiff,o,g]
   repeat' (first|(((first|apply Ab|apply Ag|apply Ah)<;>intro _h)<;>simp only[push_cast,reduceEqDiff,_h,hf])|(refine Ac (by exact f) ?_;simp only[push_cast])|intro _)
   all_goals (subst d;refine Af ?_;simp only[Bv,if_true,bq];done)
 | cons x rest=>
  have N:=AM e;have o:=Su e;have I:=GB e;have Y:dn.length<L.length:=by omega
  have J:=Ai x (dn:=dn) (by omega);have B:=AlV W0 c.b x.s (U x (u x (by rw[e];simp)));have v:Gs (dn.map (·.s))++[(V.s x.s,V.b true)]=Gs ((dn++[x]).map (·.s)):=by simp[Gs]
  rw[SC] at d;have k:dn.map (·.s)++[x.s]=(dn++[x]).map (·.s):=by simp
  rw[k] at d;clear k;generalize Qy c.b x.s=G at *;rcases Kh x.s (dn.map (·.s)) 0 with⟨hc,j,hf⟩|⟨hc,hf⟩
  all_goals rw[hc] at d
  all_goals cases G
  all_goals simp only[bq,if_true] at d
  all_goals simp only[push_cast,reduceEqDiff,o,I,g]
  all_goals (repeat' (first|(refine Ac (by exact B) ?_;simp only[push_cast,reduceEqDiff,J,hf,v])|intro _))
  all_goals (first|(subst d;exact Af (by simp[get]))|exact⟨_,_,AzS _,Ak.sub (by simp) (λp hp=>by simp at hp⊢;rcases hp with h|h<;>simp[h]) (AzR _),dn++[x],rest,_,_,_,by rw[e];simp,rfl,d,rfl⟩)
theorem Rw(names:List Aa)(ins:List Az)(i:Nat)(a:Int)(r:ins.length<=2^30):Al Tryz.prog W0 92 [AH names ins,.i .i64 i,.i .i64 a] [] (.b (Lk ins i a)) []:=by
 unfold Lk AH;have d:decide (a>(i:Int))=!decide (a<=(i:Int)):=by rw[Ats];simp
 have e:decide (a<(ins.length:Int))=!decide (a>=(ins.length:Int)):=by rw[Ats];simp
 cases g:decide (a<=(i:Int)) with
 | true=>
  rw[g] at d;refine Ae (vs:=[.b false]) qH (by simp) (by simp) λn0 c=>?_;clear c;simp only[push_cast,reduceEqDiff,d]
  repeat' (first|(((first|apply Ab|apply Ag|apply Ah)<;>intro _h)<;>simp only[push_cast,reduceEqDiff,d,Au9,AuR])|intro _)
  all_goals exact Af (by simp[get])
 | false=>
 rw[g] at d;cases h:decide (a>=(ins.length:Int)) with
 | true=>
  rw[h] at e;refine Ae (vs:=[.b false]) qH (by simp) (by simp) λn0 c=>?_;clear c;simp only[push_cast,reduceEqDiff,d,e]
  repeat' (first|(((first|apply Ab|apply Ag|apply Ah)<;>intro _h)<;>simp only[push_cast,reduceEqDiff,d,e,Au9,AuR,Abn])|intro _)
  all_goals exact Af (by simp[get])
 | false=>
 rw[h] at e;have j:0<=a/\a.toNat<ins.length:=by simp at g h;omega
 have f:(0<=a)=True:=eq_true j.1;obtain⟨y,o⟩:∃y,ins[a.toNat]?=some y:=⟨_,Afb j.2⟩
 have m:(ins.map Az.enc)[a.toNat]?=some (.agg [.i .i64 y.op,.i .i64 y.a,.i .i64 y.b,.s y.s]):=by rw[Akg,o];rfl
 have q:CV ins a.toNat=y.op:=by unfold CV;rw[o]
 have k:=j.2;have l:(y.op !=11)=!(y.op==11):=rfl;rw[q];generalize(y.op==11)=p at *;refine Ae (vs:=[.b (!p)]) qH (by simp) (by simp) λn0 c=>?_;clear c;simp only[push_cast,reduceEqDiff,d,e,f,m,l]
 repeat' (first|(((first|apply Ab|apply Ag|apply Ah)<;>intro _h)<;>simp only[push_cast,reduceEqDiff,d,e,Au9,AuR,Abn,f,m,k,l])|intro _)
 all_goals exact Af (by simp[get])
theorem aP:Al Tryz.prog W0 89 [.i .i64 1] [] (.tup [.agg [.b false,.b false,.b true],.b true]) []:=by
 refine Ae (vs:=[.agg [.b false,.b false,.b true],.b true]) E8 (by simp) (by simp) λn0 a=>?_;clear a;simp only[push_cast,seval]
 repeat' (first|(((first|apply Ab|apply Ag|apply Ah)<;>intro _h)<;>simp only[push_cast,seval])|intro _)
 all_goals (refine Ad ?_;simp[push_cast])
theorem Zw:Al Tryz.prog W0 89 [.i .i64 2] [] (.tup [.agg [.b false,.b false,.b true],.b true]) []:=by
 refine Ae (vs:=[.agg [.b false,.b false,.b true],.b true]) E8 (by simp) (by simp) λn0 a=>?_;clear a;simp only[push_cast,seval]
 repeat' (first|(((first|apply Ab|apply Ag|apply Ah)<;>intro _h)<;>simp only[push_cast,seval])|intro _)
 all_goals (refine Ad ?_;simp[push_cast])
theorem YS:Al Tryz.prog W0 89 [.i .i64 3] [] (.tup [.agg [.b false,.b false,.b true],.b true]) []:=by
 refine Ae (vs:=[.agg [.b false,.b false,.b true],.b true]) E8 (by simp) (by simp) λn0 a=>?_;clear a;simp only[push_cast,seval]
 repeat' (first|(((first|apply Ab|apply Ag|apply Ah)<;>intro _h)<;>simp only[push_cast,seval])|intro _)
 all_goals (refine Ad ?_;simp[push_cast])
theorem Z1:Al Tryz.prog W0 89 [.i .i64 4] [] (.tup [.agg [.b false,.b false,.b true],.b true]) []:=by
 refine Ae (vs:=[.agg [.b false,.b false,.b true],.b true]) E8 (by simp) (by simp) λn0 a=>?_;clear a;simp only[push_cast,seval]
 repeat' (first|(((first|apply Ab|apply Ag|apply Ah)<;>intro _h)<;>simp only[push_cast,seval])|intro _)
 all_goals (refine Ad ?_;simp[push_cast])
theorem YL:Al Tryz.prog W0 89 [.i .i64 5] [] (.tup [.agg [.b true,.b false,.b false],.b true]) []:=by
 refine Ae (vs:=[.agg [.b true,.b false,.b false],.b true]) E8 (by simp) (by simp) λn0 a=>?_;clear a;simp only[push_cast,seval]
 repeat' (first|(((first|apply Ab|apply Ag|apply Ah)<;>intro _h)<;>simp only[push_cast,seval])|intro _)
 all_goals (refine Ad ?_;simp[push_cast])
theorem YX:Al Tryz.prog W0 89 [.i .i64 6] [] (.tup [.agg [.b true,.b false,.b true],.b true]) []:=by
 refine Ae (vs:=[.agg [.b true,.b false,.b true],.b true]) E8 (by simp) (by simp) λn0 a=>?_;clear a;simp only[push_cast,seval]
 repeat' (first|(((first|apply Ab|apply Ag|apply Ah)<;>intro _h)<;>simp only[push_cast,seval])|intro _)
 all_goals (refine Ad ?_;simp[push_cast])
theorem Z4:Al Tryz.prog W0 89 [.i .i64 7] [] (.tup [.agg [.b true,.b false,.b true],.b true]) []:=by
 refine Ae (vs:=[.agg [.b true,.b false,.b true],.b true]) E8 (by simp) (by simp) λn0 a=>?_;clear a;simp only[push_cast,seval]
 repeat' (first|(((first|apply Ab|apply Ag|apply Ah)<;>intro _h)<;>simp only[push_cast,seval])|intro _)
 all_goals (refine Ad ?_;simp[push_cast])
theorem Yn:Al Tryz.prog W0 89 [.i .i64 8] [] (.tup [.agg [.b true,.b false,.b true],.b true]) []:=by
 refine Ae (vs:=[.agg [.b true,.b false,.b true],.b true]) E8 (by simp) (by simp) λn0 a=>?_;clear a;simp only[push_cast,seval]
 repeat' (first|(((first|apply Ab|apply Ag|apply Ah)<;>intro _h)<;>simp only[push_cast,seval])|intro _)
 all_goals (refine Ad ?_;simp[push_cast])
theorem aY:Al Tryz.prog W0 89 [.i .i64 9] [] (.tup [.agg [.b true,.b false,.b true],.b true]) []:=by
 refine Ae (vs:=[.agg [.b true,.b false,.b true],.b true]) E8 (by simp) (by simp) λn0 a=>?_;clear a;simp only[push_cast,seval]
 repeat' (first|(((first|apply Ab|apply Ag|apply Ah)<;>intro _h)<;>simp only[push_cast,seval])|intro _)
 all_goals (refine Ad ?_;simp[push_cast])
theorem Uy:Al Tryz.prog W0 89 [.i .i64 10] [] (.tup [.agg [.b true,.b true,.b false],.b true]) []:=by
 refine Ae (vs:=[.agg [.b true,.b true,.b false],.b true]) E8 (by simp) (by simp) λn0 a=>?_;clear a;simp only[push_cast,seval]
 repeat' (first|(((first|apply Ab|apply Ag|apply Ah)<;>intro _h)<;>simp only[push_cast,seval])|intro _)
 all_goals (refine Ad ?_;simp[push_cast])
theorem Tj:Al Tryz.prog W0 89 [.i .i64 11] [] (.tup [.agg [.b true,.b false,.b true],.b true]) []:=by
 refine Ae (vs:=[.agg [.b true,.b false,.b true],.b true]) E8 (by simp) (by simp) λn0 a=>?_;clear a;simp only[push_cast,seval]
 repeat' (first|(((first|apply Ab|apply Ag|apply Ah)<;>intro _h)<;>simp only[push_cast,seval])|intro _)
 all_goals (refine Ad ?_;simp[push_cast])
theorem SK:Al Tryz.prog W0 89 [.i .i64 12] [] (.tup [.agg [.b true,.b false,.b false],.b true]) []:=by
 refine Ae (vs:=[.agg [.b true,.b false,.b false],.b true]) E8 (by simp) (by simp) λn0 a=>?_;clear a;simp only[push_cast,seval]
 repeat' (first|(((first|apply Ab|apply Ag|apply Ah)<;>intro _h)<;>simp only[push_cast,seval])|intro _)
 all_goals (refine Ad ?_;simp[push_cast])
theorem Tq:Al Tryz.prog W0 89 [.i .i64 13] [] (.tup [.agg [.b false,.b false,.b false],.b true]) []:=by
 refine Ae (vs:=[.agg [.b false,.b false,.b false],.b true]) E8 (by simp) (by simp) λn0 a=>?_;clear a;simp only[push_cast,seval]
 repeat' (first|(((first|apply Ab|apply Ag|apply Ah)<;>intro _h)<;>simp only[push_cast,seval])|intro _)
 all_goals (refine Ad ?_;simp[push_cast])
theorem a6(k:Int)(d:k<1\/k>13):Al Tryz.prog W0 89 [.i .i64 k] [] (.tup [.agg [.b false,.b false,.b false],.b false]) []:=by
 rcases d with d|d
 .have c:decide (k<1)=true:=by simp;omega
  refine Ae (vs:=[.agg [.b false,.b false,.b false],.b false]) E8 (by simp) (by simp) λn0 a=>?_;clear a;simp only[push_cast,seval,c]
  repeat' (first|(((first|apply Ab|apply Ag|apply Ah)<;>intro _h)<;>simp only[push_cast,seval,c])|intro _)
  all_goals (refine Ad ?_;simp[push_cast])
 .have c:decide (k<1)=false:=by simp;omega
  have e:decide (k>13)=true:=by simp;omega
  refine Ae (vs:=[.agg [.b false,.b false,.b false],.b false]) E8 (by simp) (by simp) λn0 a=>?_;clear a;simp only[push_cast,seval,c,e]
  repeat' (first|(((first|apply Ab|apply Ag|apply Ah)<;>intro _h)<;>simp only[push_cast,seval,c,e])|intro _)
  all_goals (refine Ad ?_;simp[push_cast])
set_option maxHeartbeats 4000000 in
theorem vp1(names:List Aa)(ins:List Az)(i:Nat)(a b:Int)(s:Aa)(j:ins[i]?=some ⟨1,a,b,s⟩)(o:names.length<=2^30)(m:ins.length<=2^30)(k:∀x∈ins,x.s.length<=2^30) :
  Al Tryz.prog W0 57 [AH names ins,.i .i64 i] [] (.b (AG names.length ins i ⟨1,a,b,s⟩)) []:=by
 have g:i<ins.length:=(Af8.1 j).1;have e:(ins.map Az.enc)[i]?=some (.agg [.i .i64 1,.i .i64 a,.i .i64 b,.s s]):=by rw[Akg,j];rfl
 have c:decide ((i:Int)<0)=false:=by simp
 have d:decide ((i:Int)>=(ins.length:Int))=false:=by simp;omega
 have l:s.length<=2^30:=k _ (AzT j);have f:=aP W0;generalize hS:AG names.length ins i ⟨1,a,b,s⟩=S;simp only[AG,I8,Int.reduceBEq,Int.reduceBNe,bq,if_true,if_false,Int.reduceBEq,reduceCtorEq,AuF,AxX] at hS;unfold AH;refine Ae (vs:=[.b S]) EH (by simp) (by simp) λn0 h=>?_;clear h;simp only[push_cast,seval,reduceEqDiff,e,c,d,g,Abn,Int.reduceBEq,Int.reduceBNe]
 repeat' (first|(((first|apply Ab|apply Ag|apply Ah)<;>intro _h)<;>simp only[push_cast,seval,reduceEqDiff,_h,e,c,d,g,Abn,Int.reduceBEq,Int.reduceBNe])|(refine Ac (by exact f) ?_;simp only[push_cast,seval,reduceEqDiff,e,c,d,g,Abn,Int.reduceBEq,Int.reduceBNe])|intro _)
 all_goals subst hS
 all_goals (refine Af ?_;simp only[Bv,if_true,if_false, *,bq,reduceEqDiff];done)
set_option maxHeartbeats 4000000 in
theorem vp2(names:List Aa)(ins:List Az)(i:Nat)(a b:Int)(s:Aa)(k:ins[i]?=some ⟨2,a,b,s⟩)(q:names.length<=2^30)(p:ins.length<=2^30)(l:∀x∈ins,x.s.length<=2^30) :
  Al Tryz.prog W0 57 [AH names ins,.i .i64 i] [] (.b (AG names.length ins i ⟨2,a,b,s⟩)) []:=by
 have h:i<ins.length:=(Af8.1 k).1;have e:(ins.map Az.enc)[i]?=some (.agg [.i .i64 2,.i .i64 a,.i .i64 b,.s s]):=by rw[Akg,k];rfl
 have c:decide ((i:Int)<0)=false:=by simp
 have d:decide ((i:Int)>=(ins.length:Int))=false:=by simp;omega
 have m:s.length<=2^30:=l _ (AzT k);have g:=Zw W0;have f:=Gp W0 s (by unfold AJ;omega);generalize hS:AG names.length ins i ⟨2,a,b,s⟩=S;simp only[AG,I8,Int.reduceBEq,Int.reduceBNe,bq,if_true,if_false,Int.reduceBEq,reduceCtorEq,AuF,AxX] at hS;generalize De s=o at *;unfold AH;refine Ae (vs:=[.b S]) EH (by simp) (by simp) λn0 j=>?_;clear j;simp only[push_cast,seval,reduceEqDiff,e,c,d,h,Abn,Int.reduceBEq,Int.reduceBNe]
 repeat' (first|(((first|apply Ab|apply Ag|apply Ah)<;>intro _h)<;>simp only[push_cast,seval,reduceEqDiff,_h,e,c,d,h,Abn,Int.reduceBEq,Int.reduceBNe])|((first|refine Ac (by exact g) ?_|refine Ac (by exact f) ?_);simp only[push_cast,seval,reduceEqDiff,e,c,d,h,Abn,Int.reduceBEq,Int.reduceBNe])|intro _)
 all_goals subst hS
 all_goals (refine Af ?_;simp only[Bv,if_true,if_false, *,bq,reduceEqDiff];done)
set_option maxHeartbeats 4000000 in
theorem vp3(names:List Aa)(ins:List Az)(i:Nat)(a b:Int)(s:Aa)(k:ins[i]?=some ⟨3,a,b,s⟩)(q:names.length<=2^30)(p:ins.length<=2^30)(l:∀x∈ins,x.s.length<=2^30) :
  Al Tryz.prog W0 57 [AH names ins,.i .i64 i] [] (.b (AG names.length ins i ⟨3,a,b,s⟩)) []:=by
 have h:i<ins.length:=(Af8.1 k).1;have e:(ins.map Az.enc)[i]?=some (.agg [.i .i64 3,.i .i64 a,.i .i64 b,.s s]):=by rw[Akg,k];rfl
 have c:decide ((i:Int)<0)=false:=by simp
 have d:decide ((i:Int)>=(ins.length:Int))=false:=by simp;omega
 have m:s.length<=2^30:=l _ (AzT k);have g:=YS W0;have f:=Gp W0 s (by unfold AJ;omega);generalize hS:AG names.length ins i ⟨3,a,b,s⟩=S;simp only[AG,I8,Int.reduceBEq,Int.reduceBNe,bq,if_true,if_false,Int.reduceBEq,reduceCtorEq,AuF,AxX] at hS;generalize De s=o at *;unfold AH;refine Ae (vs:=[.b S]) EH (by simp) (by simp) λn0 j=>?_;clear j;simp only[push_cast,seval,reduceEqDiff,e,c,d,h,Abn,Int.reduceBEq,Int.reduceBNe]
 repeat' (first|(((first|apply Ab|apply Ag|apply Ah)<;>intro _h)<;>simp only[push_cast,seval,reduceEqDiff,_h,e,c,d,h,Abn,Int.reduceBEq,Int.reduceBNe])|((first|refine Ac (by exact g) ?_|refine Ac (by exact f) ?_);simp only[push_cast,seval,reduceEqDiff,e,c,d,h,Abn,Int.reduceBEq,Int.reduceBNe])|intro _)
 all_goals subst hS
 all_goals (refine Af ?_;simp only[Bv,if_true,if_false, *,bq,reduceEqDiff];done)
set_option maxHeartbeats 4000000 in
theorem vp4(names:List Aa)(ins:List Az)(i:Nat)(a b:Int)(s:Aa)(k:ins[i]?=some ⟨4,a,b,s⟩)(q:names.length<=2^30)(p:ins.length<=2^30)(l:∀x∈ins,x.s.length<=2^30) :
  Al Tryz.prog W0 57 [AH names ins,.i .i64 i] [] (.b (AG names.length ins i ⟨4,a,b,s⟩)) []:=by
 have h:i<ins.length:=(Af8.1 k).1;have e:(ins.map Az.enc)[i]?=some (.agg [.i .i64 4,.i .i64 a,.i .i64 b,.s s]):=by rw[Akg,k];rfl
 have c:decide ((i:Int)<0)=false:=by simp
 have d:decide ((i:Int)>=(ins.length:Int))=false:=by simp;omega
 have m:s.length<=2^30:=l _ (AzT k);have g:=Z1 W0;have f:=Gp W0 s (by unfold AJ;omega);generalize hS:AG names.length ins i ⟨4,a,b,s⟩=S;simp only[AG,I8,Int.reduceBEq,Int.reduceBNe,bq,if_true,if_false,Int.reduceBEq,reduceCtorEq,AuF,AxX] at hS;generalize De s=o at *;unfold AH;refine Ae (vs:=[.b S]) EH (by simp) (by simp) λn0 j=>?_;clear j;simp only[push_cast,seval,reduceEqDiff,e,c,d,h,Abn,Int.reduceBEq,Int.reduceBNe]
 repeat' (first|(((first|apply Ab|apply Ag|apply Ah)<;>intro _h)<;>simp only[push_cast,seval,reduceEqDiff,_h,e,c,d,h,Abn,Int.reduceBEq,Int.reduceBNe])|((first|refine Ac (by exact g) ?_|refine Ac (by exact f) ?_);simp only[push_cast,seval,reduceEqDiff,e,c,d,h,Abn,Int.reduceBEq,Int.reduceBNe])|intro _)
 all_goals subst hS
 all_goals (refine Af ?_;simp only[Bv,if_true,if_false, *,bq,reduceEqDiff];done)
set_option maxHeartbeats 4000000 in
theorem vp5(names:List Aa)(ins:List Az)(i:Nat)(a b:Int)(s:Aa)(j:ins[i]?=some ⟨5,a,b,s⟩)(o:names.length<=2^30)(m:ins.length<=2^30)(k:∀x∈ins,x.s.length<=2^30) :
  Al Tryz.prog W0 57 [AH names ins,.i .i64 i] [] (.b (AG names.length ins i ⟨5,a,b,s⟩)) []:=by
 have g:i<ins.length:=(Af8.1 j).1;have e:(ins.map Az.enc)[i]?=some (.agg [.i .i64 5,.i .i64 a,.i .i64 b,.s s]):=by rw[Akg,j];rfl
 have c:decide ((i:Int)<0)=false:=by simp
 have d:decide ((i:Int)>=(ins.length:Int))=false:=by simp;omega
 have l:s.length<=2^30:=k _ (AzT j);have f:=YL W0;generalize hS:AG names.length ins i ⟨5,a,b,s⟩=S;simp only[AG,I8,Int.reduceBEq,Int.reduceBNe,bq,if_true,if_false,Int.reduceBEq,reduceCtorEq,AuF,AxX] at hS;rw[show(s==([]:Aa))=!(!(s==[])) from(AzD _).symm] at hS;unfold AH;refine Ae (vs:=[.b S]) EH (by simp) (by simp) λn0 h=>?_;clear h;simp only[push_cast,seval,reduceEqDiff,e,c,d,g,Abn,Int.reduceBEq,Int.reduceBNe]
 repeat' (first|(((first|apply Ab|apply Ag|apply Ah)<;>intro _h)<;>simp only[push_cast,seval,reduceEqDiff,_h,e,c,d,g,Abn,Int.reduceBEq,Int.reduceBNe])|(refine Ac (by exact f) ?_;simp only[push_cast,seval,reduceEqDiff,e,c,d,g,Abn,Int.reduceBEq,Int.reduceBNe])|intro _)
 all_goals subst hS
 all_goals (refine Af ?_;simp only[Bv,if_true,if_false, *,bq,reduceEqDiff];done)
set_option maxHeartbeats 4000000 in
theorem vp6(names:List Aa)(ins:List Az)(i:Nat)(a b:Int)(s:Aa)(j:ins[i]?=some ⟨6,a,b,s⟩)(o:names.length<=2^30)(m:ins.length<=2^30)(k:∀x∈ins,x.s.length<=2^30) :
  Al Tryz.prog W0 57 [AH names ins,.i .i64 i] [] (.b (AG names.length ins i ⟨6,a,b,s⟩)) []:=by
 have g:i<ins.length:=(Af8.1 j).1;have e:(ins.map Az.enc)[i]?=some (.agg [.i .i64 6,.i .i64 a,.i .i64 b,.s s]):=by rw[Akg,j];rfl
 have c:decide ((i:Int)<0)=false:=by simp
 have d:decide ((i:Int)>=(ins.length:Int))=false:=by simp;omega
 have l:s.length<=2^30:=k _ (AzT j);have f:=YX W0;generalize hS:AG names.length ins i ⟨6,a,b,s⟩=S;simp only[AG,I8,Int.reduceBEq,Int.reduceBNe,bq,if_true,if_false,Int.reduceBEq,reduceCtorEq,AuF,AxX] at hS;unfold AH;refine Ae (vs:=[.b S]) EH (by simp) (by simp) λn0 h=>?_;clear h;simp only[push_cast,seval,reduceEqDiff,e,c,d,g,Abn,Int.reduceBEq,Int.reduceBNe]
 repeat' (first|(((first|apply Ab|apply Ag|apply Ah)<;>intro _h)<;>simp only[push_cast,seval,reduceEqDiff,_h,e,c,d,g,Abn,Int.reduceBEq,Int.reduceBNe])|(refine Ac (by exact f) ?_;simp only[push_cast,seval,reduceEqDiff,e,c,d,g,Abn,Int.reduceBEq,Int.reduceBNe])|intro _)
 all_goals subst hS
 all_goals (refine Af ?_;simp only[Bv,if_true,if_false, *,bq,reduceEqDiff];done)
set_option maxHeartbeats 4000000 in
theorem vp7(names:List Aa)(ins:List Az)(i:Nat)(a b:Int)(s:Aa)(k:ins[i]?=some ⟨7,a,b,s⟩)(q:names.length<=2^30)(p:ins.length<=2^30)(l:∀x∈ins,x.s.length<=2^30) :
  Al Tryz.prog W0 57 [AH names ins,.i .i64 i] [] (.b (AG names.length ins i ⟨7,a,b,s⟩)) []:=by
 have h:i<ins.length:=(Af8.1 k).1;have e:(ins.map Az.enc)[i]?=some (.agg [.i .i64 7,.i .i64 a,.i .i64 b,.s s]):=by rw[Akg,k];rfl
 have c:decide ((i:Int)<0)=false:=by simp
 have d:decide ((i:Int)>=(ins.length:Int))=false:=by simp;omega
 have m:s.length<=2^30:=l _ (AzT k);have g:=Z4 W0;have f:=Gp W0 s (by unfold AJ;omega);generalize hS:AG names.length ins i ⟨7,a,b,s⟩=S;simp only[AG,I8,Int.reduceBEq,Int.reduceBNe,bq,if_true,if_false,Int.reduceBEq,reduceCtorEq,AuF,AxX] at hS;generalize De s=o at *;unfold AH;refine Ae (vs:=[.b S]) EH (by simp) (by simp) λn0 j=>?_;clear j;simp only[push_cast,seval,reduceEqDiff,e,c,d,h,Abn,Int.reduceBEq,Int.reduceBNe]
 repeat' (first|(((first|apply Ab|apply Ag|apply Ah)<;>intro _h)<;>simp only[push_cast,seval,reduceEqDiff,_h,e,c,d,h,Abn,Int.reduceBEq,Int.reduceBNe])|((first|refine Ac (by exact g) ?_|refine Ac (by exact f) ?_);simp only[push_cast,seval,reduceEqDiff,e,c,d,h,Abn,Int.reduceBEq,Int.reduceBNe])|intro _)
 all_goals subst hS
 all_goals (refine Af ?_;simp only[Bv,if_true,if_false, *,bq,reduceEqDiff];done)
set_option maxHeartbeats 4000000 in
theorem vp9(names:List Aa)(ins:List Az)(i:Nat)(a b:Int)(s:Aa)(k:ins[i]?=some ⟨9,a,b,s⟩)(q:names.length<=2^30)(p:ins.length<=2^30)(l:∀x∈ins,x.s.length<=2^30) :
  Al Tryz.prog W0 57 [AH names ins,.i .i64 i] [] (.b (AG names.length ins i ⟨9,a,b,s⟩)) []:=by
 have h:i<ins.length:=(Af8.1 k).1;have e:(ins.map Az.enc)[i]?=some (.agg [.i .i64 9,.i .i64 a,.i .i64 b,.s s]):=by rw[Akg,k];rfl
 have c:decide ((i:Int)<0)=false:=by simp
 have d:decide ((i:Int)>=(ins.length:Int))=false:=by simp;omega
 have m:s.length<=2^30:=l _ (AzT k);have g:=aY W0;have f:=Gp W0 s (by unfold AJ;omega);generalize hS:AG names.length ins i ⟨9,a,b,s⟩=S;simp only[AG,I8,Int.reduceBEq,Int.reduceBNe,bq,if_true,if_false,Int.reduceBEq,reduceCtorEq,AuF,AxX] at hS;generalize De s=o at *;unfold AH;refine Ae (vs:=[.b S]) EH (by simp) (by simp) λn0 j=>?_;clear j;simp only[push_cast,seval,reduceEqDiff,e,c,d,h,Abn,Int.reduceBEq,Int.reduceBNe]
 repeat' (first|(((first|apply Ab|apply Ag|apply Ah)<;>intro _h)<;>simp only[push_cast,seval,reduceEqDiff,_h,e,c,d,h,Abn,Int.reduceBEq,Int.reduceBNe])|((first|refine Ac (by exact g) ?_|refine Ac (by exact f) ?_);simp only[push_cast,seval,reduceEqDiff,e,c,d,h,Abn,Int.reduceBEq,Int.reduceBNe])|intro _)
 all_goals subst hS
 all_goals (refine Af ?_;simp only[Bv,if_true,if_false, *,bq,reduceEqDiff];done)
set_option maxHeartbeats 4000000 in
theorem vp8(names:List Aa)(ins:List Az)(i:Nat)(a b:Int)(s:Aa)(k:ins[i]?=some ⟨8,a,b,s⟩)(q:names.length<=2^30)(p:ins.length<=2^30)(l:∀x∈ins,x.s.length<=2^30) :
  Al Tryz.prog W0 57 [AH names ins,.i .i64 i] [] (.b (AG names.length ins i ⟨8,a,b,s⟩)) []:=by
 have h:i<ins.length:=(Af8.1 k).1;have e:(ins.map Az.enc)[i]?=some (.agg [.i .i64 8,.i .i64 a,.i .i64 b,.s s]):=by rw[Akg,k];rfl
 have c:decide ((i:Int)<0)=false:=by simp
 have d:decide ((i:Int)>=(ins.length:Int))=false:=by simp;omega
 have m:s.length<=2^30:=l _ (AzT k);have g:=Yn W0;have f:=Rj W0 s (by unfold AJ;omega);generalize hS:AG names.length ins i ⟨8,a,b,s⟩=S;simp only[AG,I8,Int.reduceBEq,Int.reduceBNe,bq,if_true,if_false,Int.reduceBEq,reduceCtorEq,AuF,AxX] at hS;generalize E6 s=o at *;unfold AH;refine Ae (vs:=[.b S]) EH (by simp) (by simp) λn0 j=>?_;clear j;simp only[push_cast,seval,reduceEqDiff,e,c,d,h,Abn,Int.reduceBEq,Int.reduceBNe]
 repeat' (first|(((first|apply Ab|apply Ag|apply Ah)<;>intro _h)<;>simp only[push_cast,seval,reduceEqDiff,_h,e,c,d,h,Abn,Int.reduceBEq,Int.reduceBNe])|((first|refine Ac (by exact g) ?_|refine Ac (by exact f) ?_);simp only[push_cast,seval,reduceEqDiff,e,c,d,h,Abn,Int.reduceBEq,Int.reduceBNe])|intro _)
 all_goals subst hS
 all_goals (refine Af ?_;simp only[Bv,if_true,if_false, *,bq,reduceEqDiff];done)
set_option maxHeartbeats 4000000 in
theorem At0(names:List Aa)(ins:List Az)(i:Nat)(a b:Int)(s:Aa)(c:ins[i]?=some ⟨10,a,b,s⟩)(q:names.length<=2^30)(m:ins.length<=2^30)(l:∀x∈ins,x.s.length<=2^30) :
  Al Tryz.prog W0 57 [AH names ins,.i .i64 i] [] (.b (AG names.length ins i ⟨10,a,b,s⟩)) []:=by
 have j:i<ins.length:=(Af8.1 c).1;have f:(ins.map Az.enc)[i]?=some (.agg [.i .i64 10,.i .i64 a,.i .i64 b,.s s]):=by rw[Akg,c];rfl
 have d:decide ((i:Int)<0)=false:=by simp
 have e:decide ((i:Int)>=(ins.length:Int))=false:=by simp;omega
 have o:s.length<=2^30:=l _ (AzT c);have h:=Uy W0;have g:=M1 W0 names ins i _ c m l;generalize hS:AG names.length ins i ⟨10,a,b,s⟩=S;simp only[AG,I8,Int.reduceBEq,Int.reduceBNe,bq,if_true,if_false,Int.reduceBEq,reduceCtorEq,AuF,AxX] at hS;generalize(Dc b&&jO b (BF (List.drop (i+1) ins)))=p at *;rw[show(s==([]:Aa))=!(!(s==[])) from(AzD _).symm] at hS;unfold AH at *;refine Ae (vs:=[.b S]) EH (by simp) (by simp) λn0 k=>?_;clear k;simp only[push_cast,seval,reduceEqDiff,f,d,e,j,Abn,Int.reduceBEq,Int.reduceBNe]
 repeat' (first|(((first|apply Ab|apply Ag|apply Ah)<;>intro _h)<;>simp only[push_cast,seval,reduceEqDiff,_h,f,d,e,j,Abn,Int.reduceBEq,Int.reduceBNe])|((first|refine Ac (by exact h) ?_|refine Ac (by exact g) ?_);simp only[push_cast,seval,reduceEqDiff,f,d,e,j,Abn,Int.reduceBEq,Int.reduceBNe])|intro _)
 all_goals subst hS
 all_goals (refine Af ?_;simp only[Bv,if_true,if_false, *,bq,reduceEqDiff];done)
set_option maxHeartbeats 4000000 in
theorem Au3(names:List Aa)(ins:List Az)(i:Nat)(a b:Int)(s:Aa)(p:ins[i]?=some ⟨11,a,b,s⟩)(D:names.length<=2^30)(v:ins.length<=2^30)(A:∀x∈ins,x.s.length<=2^30) :
  Al Tryz.prog W0 57 [AH names ins,.i .i64 i] [] (.b (AG names.length ins i ⟨11,a,b,s⟩)) []:=by
 have j:i<ins.length:=(Af8.1 p).1;have h:(ins.map Az.enc)[i]?=some (.agg [.i .i64 11,.i .i64 a,.i .i64 b,.s s]):=by rw[Akg,p];rfl
 have f:decide ((i:Int)<0)=false:=by simp
 have g:decide ((i:Int)>=(ins.length:Int))=false:=by simp;omega
 have B:s.length<=2^30:=A _ (AzT p);have k:=Tj W0;have l:=Rw W0 names ins i a v;generalize hS:AG names.length ins i ⟨11,a,b,s⟩=S;simp only[AG,Int.reduceBEq,Int.reduceBNe,bq,if_true,if_false,Int.reduceBEq,reduceCtorEq,AuF,AxX] at hS;generalize Lk ins i a=T at *;unfold AH at *;have m:(decide ((i:Int)>0)=false)\/(∃y:Az,decide ((i:Int)>0)=true/\(ins.map Az.enc)[(IntKind.i64.wrap ((i:Int)-1)).toNat]?=some (.agg [.i .i64 y.op,.i .i64 y.a,.i .i64 y.b,.s y.s])/\(0<=IntKind.i64.wrap ((i:Int)-1))=True/\(IntKind.i64.wrap ((i:Int)-1)).toNat<ins.length/\CV ins (i-1)=y.op):=by
  rcases AyH i with u|u
  .exact .inl (by simp[u])
  .have o:IntKind.i64.wrap ((i:Int)-1)=((i-1:Nat):Int):=by rw[wrap64 (by omega) (by omega)];omega
   have d:i-1<ins.length:=by omega
   refine .inr ⟨ins[i-1],by simp;omega,?_,?_,?_,?_⟩
   .rw[o,AvY,Akg,Afb d];rfl
   .rw[o];simp
   .rw[o,AvY];exact d
   .unfold CV;rw[Afb d]
 rcases m with c|⟨z,c,q,r,t,C⟩
 .rw[c] at hS;simp only[bq,if_true,if_false,Int.reduceBEq,reduceCtorEq,AyS] at hS;refine Ae (vs:=[.b S]) EH (by simp) (by simp) λn0 e=>?_;clear e;simp only[push_cast,seval,reduceEqDiff,h,f,g,j,Abn,Int.reduceBEq,Int.reduceBNe,c]
  repeat' (first|(((first|apply Ab|apply Ag|apply Ah)<;>intro _h)<;>simp only[push_cast,seval,reduceEqDiff,_h,h,f,g,j,Abn,Int.reduceBEq,Int.reduceBNe,c])|((first|refine Ac (by exact k) ?_|refine Ac (by exact l) ?_);simp only[push_cast,seval,reduceEqDiff,h,f,g,j,Abn,Int.reduceBEq,Int.reduceBNe,c])|intro _)
  all_goals subst hS
  all_goals (refine Af ?_;simp only[Bv,if_true,if_false, *,bq,reduceEqDiff];done)
 .rw[c,C] at hS;simp only[bq,if_true,if_false,Int.reduceBEq,reduceCtorEq] at hS;refine Ae (vs:=[.b S]) EH (by simp) (by simp) λn0 e=>?_;clear e;simp only[push_cast,seval,reduceEqDiff,h,f,g,j,Abn,Int.reduceBEq,Int.reduceBNe,c,q,r,t]
  repeat' (first|(((first|apply Ab|apply Ag|apply Ah)<;>intro _h)<;>simp only[push_cast,seval,reduceEqDiff,_h,h,f,g,j,Abn,Int.reduceBEq,Int.reduceBNe,c,q,r,t])|((first|refine Ac (by exact k) ?_|refine Ac (by exact l) ?_);simp only[push_cast,seval,reduceEqDiff,h,f,g,j,Abn,Int.reduceBEq,Int.reduceBNe,c,q,r,t])|intro _)
  all_goals subst hS
  all_goals (try (cases T))
  all_goals (refine Af ?_;simp only[Bv,if_true,if_false, *,bq,reduceEqDiff];done)
set_option maxHeartbeats 4000000 in
theorem AuS(names:List Aa)(ins:List Az)(i:Nat)(a b:Int)(s:Aa)(k:ins[i]?=some ⟨12,a,b,s⟩)(p:names.length<=2^30)(l:ins.length<=2^30)(m:∀x∈ins,x.s.length<=2^30) :
  Al Tryz.prog W0 57 [AH names ins,.i .i64 i] [] (.b (AG names.length ins i ⟨12,a,b,s⟩)) []:=by
 have h:i<ins.length:=(Af8.1 k).1;have e:(ins.map Az.enc)[i]?=some (.agg [.i .i64 12,.i .i64 a,.i .i64 b,.s s]):=by rw[Akg,k];rfl
 have c:decide ((i:Int)<0)=false:=by simp
 have d:decide ((i:Int)>=(ins.length:Int))=false:=by simp;omega
 have o:s.length<=2^30:=m _ (AzT k);have f:=SK W0;have g:=Rw W0 names ins i a l;generalize hS:AG names.length ins i ⟨12,a,b,s⟩=S;simp only[AG,Int.reduceBEq,Int.reduceBNe,bq,if_true,if_false,Int.reduceBEq,reduceCtorEq,AuF,AxX] at hS;generalize Lk ins i a=T at *;unfold AH at *;rw[show(s==([]:Aa))=!(!(s==[])) from(AzD _).symm] at hS;refine Ae (vs:=[.b S]) EH (by simp) (by simp) λn0 j=>?_;clear j;simp only[push_cast,seval,reduceEqDiff,e,c,d,h,Abn,Int.reduceBEq,Int.reduceBNe]
 repeat' (first|(((first|apply Ab|apply Ag|apply Ah)<;>intro _h)<;>simp only[push_cast,seval,reduceEqDiff,_h,e,c,d,h,Abn,Int.reduceBEq,Int.reduceBNe])|((first|refine Ac (by exact f) ?_|refine Ac (by exact g) ?_);simp only[push_cast,seval,reduceEqDiff,e,c,d,h,Abn,Int.reduceBEq,Int.reduceBNe])|intro _)
 all_goals subst hS
 all_goals (refine Af ?_;simp only[Bv,if_true,if_false, *,bq,reduceEqDiff];done)
set_option maxHeartbeats 4000000 in
theorem AuC(names:List Aa)(ins:List Az)(i:Nat)(a b:Int)(s:Aa)(k:ins[i]?=some ⟨13,a,b,s⟩)(p:names.length<=2^30)(o:ins.length<=2^30)(l:∀x∈ins,x.s.length<=2^30) :
  Al Tryz.prog W0 57 [AH names ins,.i .i64 i] [] (.b (AG names.length ins i ⟨13,a,b,s⟩)) []:=by
 have g:i<ins.length:=(Af8.1 k).1;have e:(ins.map Az.enc)[i]?=some (.agg [.i .i64 13,.i .i64 a,.i .i64 b,.s s]):=by rw[Akg,k];rfl
 have c:decide ((i:Int)<0)=false:=by simp
 have d:decide ((i:Int)>=(ins.length:Int))=false:=by simp;omega
 have m:s.length<=2^30:=l _ (AzT k);have f:=Tq W0;have j:IntKind.i64.wrap ((ins.length:Int)-1)=(ins.length:Int)-1:=wrap64 (by omega) (by omega);generalize hS:AG names.length ins i ⟨13,a,b,s⟩=S;simp only[AG,I8,Int.reduceBEq,Int.reduceBNe,bq,if_true,if_false,Int.reduceBEq,reduceCtorEq,AuF,AxX] at hS;rw[show(s==([]:Aa))=!(!(s==[])) from(AzD _).symm] at hS;unfold AH;refine Ae (vs:=[.b S]) EH (by simp) (by simp) λn0 h=>?_;clear h;simp only[push_cast,seval,reduceEqDiff,e,c,d,g,j,Abn,Int.reduceBEq,Int.reduceBNe]
 repeat' (first|(((first|apply Ab|apply Ag|apply Ah)<;>intro _h)<;>simp only[push_cast,seval,reduceEqDiff,_h,e,c,d,g,j,Abn,Int.reduceBEq,Int.reduceBNe])|(refine Ac (by exact f) ?_;simp only[push_cast,seval,reduceEqDiff,e,c,d,g,j,Abn,Int.reduceBEq,Int.reduceBNe])|intro _)
 all_goals subst hS
 all_goals (refine Af ?_;simp only[Bv,if_true,if_false, *,bq,reduceEqDiff];done)
set_option maxHeartbeats 4000000 in
theorem vp0(names:List Aa)(ins:List Az)(i:Nat)(x:Az)(p:ins[i]?=some x)(E:names.length<=2^30)(D:ins.length<=2^30)(r:x.op<1\/x.op>13) :
  Al Tryz.prog W0 57 [AH names ins,.i .i64 i] [] (.b (AG names.length ins i x)) []:=by
 have g:i<ins.length:=(Af8.1 p).1;have e:(ins.map Az.enc)[i]?=some (.agg [.i .i64 x.op,.i .i64 x.a,.i .i64 x.b,.s x.s]):=by rw[Akg,p];rfl
 have c:decide ((i:Int)<0)=false:=by simp
 have d:decide ((i:Int)>=(ins.length:Int))=false:=by simp;omega
 have q:∀k:Int,1<=k->k<=13->(x.op==k)=false:=λk B C=>by simp;omega
 have q1:=q 1 (by decide) (by decide);have q2:=q 2 (by decide) (by decide);have q3:=q 3 (by decide) (by decide);have t:=q 4 (by decide) (by decide);have u:=q 5 (by decide) (by decide);have v:=q 6 (by decide) (by decide);have y:=q 7 (by decide) (by decide);have z:=q 8 (by decide) (by decide);have A:=q 9 (by decide) (by decide);have j:=q 10 (by decide) (by decide);have l:=q 11 (by decide) (by decide);have m:=q 12 (by decide) (by decide);have o:=q 13 (by decide) (by decide);have hS:AG names.length ins i x=false:=by simp only[AG,q1,q2,q3,t,u,v,y,z,A,j,l,m,o,bq,if_true,if_false]
 rw[hS];have f:=a6 W0 x.op r;unfold AH;refine Ae (vs:=[.b false]) EH (by simp) (by simp) λn0 h=>?_;clear h;simp only[push_cast,reduceEqDiff,e,c,d,g,Abn]
 repeat' (first|(((first|apply Ab|apply Ag|apply Ah)<;>intro _h)<;>simp only[push_cast,reduceEqDiff,e,c,d,g,Abn])|(refine Ac (by exact f) ?_;simp only[push_cast,reduceEqDiff,e,c,d,g,Abn])|intro _)
 all_goals (refine Af ?_;simp only[Bv,if_true,if_false, *,bq,reduceEqDiff];done)
theorem ZB(names:List Aa)(ins:List Az)(i:Nat)(x:Az)(e:ins[i]?=some x)(d:names.length<=2^30)(c:ins.length<=2^30)(f:∀x∈ins,x.s.length<=2^30) :
  Al Tryz.prog W0 57 [AH names ins,.i .i64 i] [] (.b (AG names.length ins i x)) []:=by
 by_cases g:x.op<1\/x.op>13
 .exact vp0 W0 names ins i x e d c g
 .obtain⟨op,a,b,s⟩:=x;simp only at g;have:op=1\/op=2\/op=3\/op=4\/op=5\/op=6\/op=7\/op=8\/op=9\/op=10\/op=11\/op=12\/op=13:=by omega
  rcases this with rfl|rfl|rfl|rfl|rfl|rfl|rfl|rfl|rfl|rfl|rfl|rfl|rfl
  .exact vp1 W0 names ins i a b s e d c f
  .exact vp2 W0 names ins i a b s e d c f
  .exact vp3 W0 names ins i a b s e d c f
  .exact vp4 W0 names ins i a b s e d c f
  .exact vp5 W0 names ins i a b s e d c f
  .exact vp6 W0 names ins i a b s e d c f
  .exact vp7 W0 names ins i a b s e d c f
  .exact vp8 W0 names ins i a b s e d c f
  .exact vp9 W0 names ins i a b s e d c f
  .exact At0 W0 names ins i a b s e d c f
  .exact Au3 W0 names ins i a b s e d c f
  .exact AuS W0 names ins i a b s e d c f
  .exact AuC W0 names ins i a b s e d c f
inductive GY (F:Aj):V->List Aa->Prop where
 | nil:GY F .np []
 | cons (id:Id) (n:Aa) (l:List Aa) (up:V) (h:lk F id=some (.box (.agg [.s n,up]))) (hu:GY F up l):GY F (.ref id 0) (n::l)
theorem GY.det{F:Aj}{v:V}{l b:List Aa}(h:GY F v l)(c:GY F v b):l=b:=by
 induction h generalizing b with
 | nil=>cases c;rfl
 | cons id n l j h g e=>
  cases c with
  | cons _ n' i f d a=>rw[h] at d;cases d;rw[e a]
theorem GY.mono{F a:Aj}{v:V}{l:List Aa}(h:GY F v l)(b:∀id e,lk F id=some e->lk a id=some e):GY a v l:=by
 induction h with
 | nil=>exact .nil
 | cons id n l d h f c=>exact .cons id n l d (b _ _ h) c
set_option maxHeartbeats 4000000 in
theorem Adb(F:Aj)(g i:V)(a c:List Aa)(r:GY F g a)(k:GY F i c):Al Tryz.prog W0 130 [g,i] F (.b (a==c)) F:=by
 generalize hS:(a==c)=S;refine Ae (vs:=[.b S]) Aj0 (by simp) (λ_ h=>h) λn0 t=>?_;clear t;simp only[push_cast,reduceEqDiff];intros;refine Am a.length (Inv:=λm st=>∃g i a c n,GY F g a/\GY F i c/\m=a.length/\(a==c)=S/\st=⟨[(0,g),(1,i)],F,n⟩) ⟨_,Ak.refl,g,i,a,c,_,r,k,rfl,hS,rfl⟩ ?_;clear hS r k g i a c;rintro m _ ⟨g,i,a,c,n,r,k,rfl,d,rfl⟩;cases r with
 | nil=>
  cases k with
  | nil=>
   have e:GN F .np .np=some true:=rfl;have:S=true:=by rw[<-d];rfl
   subst this;simp only[push_cast,reduceEqDiff,e];intros;exact Bn (by simp[get]) (λ_ _ h=>h)
  | cons id n l A h v=>
   have e:GN F .np (.ref id 0)=some false:=rfl;have:S=false:=by rw[<-d];rfl
   subst this;simp only[push_cast,reduceEqDiff,e];intros;exact Bn (by simp[get]) (λ_ _ h=>h)
 | cons id x a A h v=>
  cases k with
  | nil=>
   have e:GN F (.ref id 0) .np=some false:=rfl;have:S=false:=by rw[<-d];rfl
   subst this;simp only[push_cast,reduceEqDiff,e];intros;exact Bn (by simp[get]) (λ_ _ h=>h)
  | cons q y c z j p=>
   by_cases o:id=q
   .subst o;rw[h] at j;cases j;have s:=v.det p;subst s;have e:GN F (.ref id 0) (.ref id 0)=some true:=by simp[GN]
    have:S=true:=by rw[<-d];simp
    subst this;simp only[push_cast,reduceEqDiff,e];intros;exact Bn (by simp[get]) (λ_ _ h=>h)
   .have e:GN F (.ref id 0) (.ref q 0)=some false:=by simp[GN,o,h,j,MT]
    have u:(x::a==y::c)=((x==y)&&(a==c)):=rfl;rw[u] at d;cases f:(x==y) with
    | false=>rw[f] at d;simp only[bq] at d;subst d;simp only[push_cast,reduceEqDiff,e,h,j,f];intros;exact Bn (by simp[get]) (λ_ _ h=>h)
    | true=>rw[f] at d;simp only[bq] at d;simp only[push_cast,reduceEqDiff,e,h,j,f];intros;exact⟨_,_,AzS _,Ak.refl,A,z,a,c,_,v,p,rfl,d,rfl⟩
def Nz:TypeId:=195
def Ba(e0:Nat)(names:List Aa)(ins:List Az)(vs:List V)(p:DY)(F:Aj):Aj:=
 ((e0,51),.box (.agg [.sl (names.map V.s),.sl (ins.map Az.enc),.arr (e0,45),.arr (e0,47),.arr (e0,49)]))::((e0,49),.arr Cl 1 (p.cl.map V.b))::((e0,47),.arr Cl 1 (p.re.map V.b))::((e0,45),.arr Nz 1 vs)::F
def FrN(F:Aj):Prop:=∀id,lk F id≠none->id.2=77
theorem LH{e0:Nat}{names:List Aa}{ins:List Az}{vs:List V}{p:DY}{F:Aj}(d:FrN F):∀id e,lk F id=some e->lk (Ba e0 names ins vs p F) id=some e:=by intro id e h;have c:=d id (by rw[h];simp);obtain⟨a,b⟩:=id;simp only at c;subst c;simp only[Ba,lk];simp;exact h
theorem v8{e0:Nat}{names:List Aa}{ins:List Az}{vs a:List V}{p p':DY}{F:Aj}:∀id,lk (Ba e0 names ins a p' F) id≠none->lk (Ba e0 names ins vs p F) id≠none:=by
 intro id h;simp only[Ba,lk] at h⊢
 repeat' (split at h<;>simp_all)
structure w9 (F:Aj) (vs:List V) (p:DY) (n:Nat):Prop where
 lv:vs.length=n
 l3:p.op.length=n
 l4:p.re.length=n
 l5:p.cl.length=n
 fr:∀j,j<n->GY F (vs.getD j .np) (p.op.getD j [])
theorem w9.mono{F a:Aj}{vs:List V}{p:DY}{n:Nat}(h:w9 F vs p n)(c:∀id e,lk F id=some e->lk a id=some e):w9 a vs p n:=⟨h.lv,h.l3,h.l4,h.l5,λj b=>(h.fr j b).mono c⟩
def X9(vs:List V)(p:DY)(v:V)(j:Int):List V:=if p.re.getD j.toNat false then vs else vs.set j.toNat v
theorem GA{F:Aj}{vs:List V}{p:DY}{n:Nat}(h:w9 F vs p n){v:V}{o:List Aa}(d:GY F v o)(j:Int)(b:j.toNat<n):w9 F (X9 vs p v j) (HD p o j) n:=by
 unfold X9 HD;split
 .exact⟨h.lv,h.l3,h.l4,by simp[h.l5],h.fr⟩
 .refine⟨by simp[h.lv],by simp[h.l3],by simp[h.l4],h.l5,λi c=>?_⟩;simp only;rw[BT _ _ _ _ _ (by rw[h.lv];exact b),BT _ _ _ _ _ (by rw[h.l3];exact b)];by_cases a:j.toNat=i
  .rw[if_pos a,if_pos a];exact d
  .rw[if_neg a,if_neg a];exact h.fr i c
set_option maxHeartbeats 4000000 in
theorem LI(e0:Nat)(names:List Aa)(ins:List Az)(vs:List V)(p:DY)(F:Aj)(n:Nat)(v:V)(o:List Aa)(j:Int)(M:FrN F)(N:w9 F vs p n)(C:GY F v o)(G:0<=j)(O:j.toNat<n) :
  Al Tryz.prog W0 93 [.ref (e0,51) 0,.i .i64 j,v] (Ba e0 names ins vs p F) (.tup []) (Ba e0 names ins (X9 vs p v j) (HD p o j) F):=by
 obtain⟨Y,S,U,X,fr⟩:=N;have x:(0<=j)=True:=eq_true G;have s:j.toNat<vs.length:=by omega
 have t:j.toNat<p.re.length:=by omega
 have u:j.toNat<p.cl.length:=by omega
 have y:=getD_some V.np s;have K:=getD_some false t;have L:=getD_some false u;have q:=fr j.toNat O;have D:=Adb W0 F _ _ _ _ q C;have m:=LH (e0:=e0) (names:=names) (ins:=ins) (vs:=vs) (p:=p) M;unfold X9 HD;generalize p.re.getD j.toNat false=r at *;generalize p.cl.getD j.toNat false=c at *;generalize vs.getD j.toNat .np=J at *;generalize p.op.getD j.toNat []=R at *;generalize(R==o)=E at *;have z:(p.re.map V.b)[j.toNat]?=some (.b r):=by rw[Akg,K];rfl
 have A:(p.cl.map V.b)[j.toNat]?=some (.b c):=by rw[Akg,L];rfl
 have B:∀b,(List.map V.b p.re).set j.toNat (.b b)=List.map V.b (p.re.set j.toNat b):=λb=>by rw[List.map_set]
 have a:∀b,(List.map V.b p.cl).set j.toNat (.b b)=List.map V.b (p.cl.set j.toNat b):=λb=>by rw[List.map_set]
 have k:cells v=[v]:=by cases C<;>rfl
 have l:v.ok=true:=by cases C<;>rfl
 have g:MP v=false:=by cases C<;>rfl
 have f:cells J=[J]:=by cases q<;>rfl
 have d:MP J=false:=by cases q<;>rfl
 refine Ae (vs:=[]) Asf (by simp) v8 λn0 I=>?_;clear I;cases r with
 | false=>unfold Ba;simp only[push_cast,reduceEqDiff,x,s,t,u,y,z,A,B,a,Abn,Cl,Nz,k,l,g,f,d,Azc];intros;exact⟨_,Ak.refl,trivial,λi e h=>by simpa using h⟩
 | true=>
  cases c with
  | true=>unfold Ba;simp only[push_cast,reduceEqDiff,x,s,t,u,y,z,A,B,a,Abn,Cl,Nz,k,l,g,f,d,Azc];intros;exact⟨_,Ak.refl,trivial,λi e h=>by simpa using h⟩
  | false=>unfold Ba at *;simp only[Cl,Nz] at m;simp only[push_cast,reduceEqDiff,x,s,t,u,y,z,A,B,a,Abn,Cl,Nz,k,l,g,f,d,Azc];intros;refine V6 D m ?_;simp only[push_cast,reduceEqDiff,x,s,t,u,y,z,A,B,a,Abn,Cl,Nz,k,l,g,f,d,Azc];intros;exact⟨_,Ak.refl,trivial,λi e h=>by simpa using h⟩
theorem TO{σ:Aj}{p:Id×A5}(h:p∈σ):lk σ p.1≠none:=by
 induction σ with
 | nil=>cases h
 | cons q σ b=>
  obtain⟨k,e⟩:=q;simp only[lk];by_cases a:k=p.1
  .rw[if_pos a];simp
  .rw[if_neg a];rcases Am8.1 h with rfl|h
   .exact absurd rfl a
   .exact b h
theorem NJ{σi σo pre post:Aj}{a:Id×A5}(d:∀q∈pre++post,lk σi q.1≠none)(f:lk σi a.1=none):over σi σo (pre++a::post)=σo++[a]:=by
 have b:∀τ:Aj,(∀q∈τ,lk σi q.1≠none)->τ.filter (λp=>(lk σi p.1).isNone)=[]:=λτ h=>by
  rw[AyE];intro q c;cases g:lk σi q.1 with
  | none=>exact absurd g (h q c)
  | some e=>simp
 unfold over;rw[Azz,List.filter_cons,b pre (λq c=>d q (Awj _ c)),b post (λq c=>d q (AyK _ c)),f];rfl
theorem Uk(σ σo:Aj):over σ σo σ=σo:=by
 unfold over;have:σ.filter (λp=>(lk σ p.1).isNone)=[]:=by
  rw[AyE];intro q b;cases a:lk σ q.1 with
  | none=>exact absurd a (TO b)
  | some e=>simp
 rw[this,Arm]
theorem KI{S τ:Aj}{a:Id×A5}(h:lk S a.1=none):over S τ (a::S)=τ++[a]:=NJ (pre:=[]) (λq b=>TO b) h
theorem Aci{σi S τ:Aj}{f a:Id×A5}(h:lk σi a.1=none)(c:lk σi f.1≠none)(hS:∀q∈S,lk σi q.1≠none):over σi τ (f::a::S)=τ++[a]:=
 NJ (pre:=[f]) (λq b=>by rcases Am2.1 b with b|b;(· simp at b;subst b;exact c);exact hS q b) h
theorem JS{e0:Nat}{names:List Aa}{ins:List Az}{vs:List V}{p:DY}{F:Aj}(i:FrN F){a b:Nat}(c:b≠51)(d:b≠49)(f:b≠47)(g:b≠45)(h:b≠77):lk (Ba e0 names ins vs p F) (a,b)=none:=by
 have k:lk F (a,b)=none:=by
  cases j:lk F (a,b) with
  | none=>rfl
  | some e=>exact absurd (i (a,b) (by rw[j];simp)) h
 simp only[Ba,lk,Ay7,AfT c,AfT d,AfT f,AfT g,and_false];exact k
def WJ(e0:Nat)(names:List Aa)(ins:List Az)(p:DY)(n i:Nat)(x:Az):Nat->Nat->V->Aj->Prop:=λ_ _ v σ'=>match Qs ins i x p with
 | none=>v=.b false
 | some p'=>v=.b true/\∃a c,σ'=Ba e0 names ins a p' c/\w9 c a p' n/\FrN c
theorem iD(x:Az)(a:(x.op==2)=false)(b:(x.op==3)=true):D0 x []=none:=by unfold D0;rw[a,b];rfl
theorem sB(x:Az)(t:Aa)(r:List Aa)(a:(x.op==2)=false)(b:(x.op==3)=true):D0 x (t::r)=if t==x.s then some r else none:=by unfold D0;rw[a,b];rfl
theorem AcI(ins:List Az)(i:Nat)(x:Az)(a:(x.op==10)=false)(b:(x.op==12)=false)(c:(x.op==13)=false):EG ins i x=[(i:Int)+1]:=by unfold EG;rw[a,b,c];rfl
theorem Ww{e0:Nat}{names:List Aa}{ins:List Az}{vs:List V}{p:DY}{F:Aj}:lk (Ba e0 names ins vs p F) (e0,51)=some (.box (.agg [.sl (names.map V.s),.sl (ins.map Az.enc),.arr (e0,45),.arr (e0,47),.arr (e0,49)])):=by simp[Ba,lk]
theorem bK{e0:Nat}{names:List Aa}{ins:List Az}{vs:List V}{p:DY}{F:Aj}:lk (Ba e0 names ins vs p F) (e0,49)=some (.arr Cl 1 (p.cl.map V.b)):=by simp[Ba,lk]
theorem k47{e0:Nat}{names:List Aa}{ins:List Az}{vs:List V}{p:DY}{F:Aj}:lk (Ba e0 names ins vs p F) (e0,47)=some (.arr Cl 1 (p.re.map V.b)):=by simp[Ba,lk]
theorem bJ{e0:Nat}{names:List Aa}{ins:List Az}{vs:List V}{p:DY}{F:Aj}:lk (Ba e0 names ins vs p F) (e0,45)=some (.arr Nz 1 vs):=by simp[Ba,lk]
set_option maxHeartbeats 4000000 in
theorem AgX(e0:Nat)(names:List Aa)(ins:List Az)(vs:List V)(p:DY)(F:Aj)(i:Nat)(x:Az)(hx:ins[i]?=some x)(hl:ins.length<=2^30)(G:FrN F)(Z:w9 F vs p ins.length)
  (ht:∀j∈EG ins i x,0<=j/\j.toNat<ins.length) :
  Ez Tryz.prog W0 58 [.ref (e0,51) 0,.i .i64 i] (Ba e0 names ins vs p F) (WJ e0 names ins p ins.length i x):=by
 have J:i<ins.length:=(Af8.1 hx).1;have S:(ins.map Az.enc)[i]?=some (.agg [.i .i64 x.op,.i .i64 x.a,.i .i64 x.b,.s x.s]):=by rw[Akg,hx];rfl
 have ew:IntKind.i64.wrap ((i:Int)+1)=(i:Int)+1:=wrap64 (by omega) (by omega);obtain⟨lv,l3,l4,l5,fr⟩:=id Z;have M:i<vs.length:=by omega
 have N:i<p.cl.length:=by omega
 have U:=getD_some V.np M;have g6:=getD_some false N;have t:=fr i J;generalize d:WJ e0 names ins p ins.length i x=RR;unfold WJ Qs at d;generalize p.cl.getD i false=c at *;generalize vs.getD i .np=v at *;generalize p.op.getD i []=o at *;have X:(p.cl.map V.b)[i]?=some (.b c):=by rw[Akg,g6];rfl
 have z:cells v=[v]:=by cases t<;>rfl
 have u:MP v=false:=by cases t<;>rfl
 have az:v.ok=true:=by cases t<;>rfl
 have A:∀(p:DY) (vs:List V) (a b:Nat),b=6\/b=8->lk (Ba e0 names ins vs p F) (a,b)=none:=λp vs a b h=>by
  rcases h with rfl|rfl
  .exact JS G (by decide) (by decide) (by decide) (by decide) (by decide)
  .exact JS G (by decide) (by decide) (by decide) (by decide) (by decide)
 refine BN ArX (by simp) λn0 am=>?_;have hn:∀id e,lk F id=some e->id.1<n0:=λid e h=>am id e (LH G id e h);clear am;cases c with
 | true=>simp only  at d;subst d;simp only[push_cast,seval,Ww,bK,bJ,J,S,M,N,U,X,Abn,Cl,Nz,z,u];intros;exact⟨_,Ak.refl,[.b false],[],⟨rfl,trivial⟩,(λ_ _ h=>by cases h),rfl⟩
 | false=>
 simp only[AcT] at d;cases f:(x.op==13) with
 | true=>
  have E:(x.op==2)=false:=by rw[show x.op=13 by simpa using f];rfl
  have I:(x.op==3)=false:=by rw[show x.op=13 by simpa using f];rfl
  have g:(x.op==10)=false:=by rw[show x.op=13 by simpa using f];rfl
  have k:(x.op==12)=false:=by rw[show x.op=13 by simpa using f];rfl
  have r:EG ins i x=[]:=by unfold EG;rw[g,k,f];rfl
  have D:D0 x o=if o.isEmpty then some o else none:=by unfold D0;rw[E,I,f];rfl
  rw[D,r] at d;cases t with
  | nil=>simp only[List.isEmpty_nil,Ayd] at d;subst d;simp only[push_cast,seval,Ww,bK,bJ,J,S,M,N,U,X,Abn,Cl,Nz,z,u,f];intros;exact⟨_,Ak.refl,[.b true],Ba e0 names ins vs p F,⟨rfl,trivial⟩,Ct (A _ _ _ _ (.inl rfl)),rfl,vs,F,rfl,Z,G⟩
  | cons id y l up O hu=>simp only[List.isEmpty_cons,AcT] at d;subst d;simp only[push_cast,seval,Ww,bK,bJ,J,S,M,N,U,X,Abn,Cl,Nz,z,u,f];intros;exact⟨_,Ak.refl,[.b false],[],⟨rfl,trivial⟩,(λ_ _ h=>by cases h),rfl⟩
 | false=>
 cases k:(x.op==12) with
 | true=>
  have E:(x.op==2)=false:=by rw[show x.op=12 by simpa using k];rfl
  have I:(x.op==3)=false:=by rw[show x.op=12 by simpa using k];rfl
  have g:(x.op==10)=false:=by rw[show x.op=12 by simpa using k];rfl
  have r:EG ins i x=[x.a]:=by unfold EG;rw[g,k];rfl
  have D:D0 x o=some o:=by unfold D0;rw[E,I,f];rfl
  rw[D,r] at d;rw[r] at ht;obtain⟨t0,Y⟩:=ht x.a (by simp);have B:=LI W0 e0 names ins vs p F ins.length v o x.a G Z t t0 Y;have C:=GA Z t x.a Y;simp only[AvR,Ayd] at d;subst d;simp only[push_cast,seval,Ww,bK,bJ,J,S,M,N,U,X,Abn,Cl,Nz,z,u,f,k];intros;refine Bw B (Ct (A _ _ _ _ (.inl rfl))) ?_;rw[KI (A _ _ _ _ (.inl rfl))];simp only[push_cast,seval];intros;exact⟨_,Ak.refl,[.b true],Ba e0 names ins _ _ F,⟨rfl,trivial⟩,(λ_ _ h=>AB h),rfl,_,F,rfl,C,G⟩
 | false=>
 cases g:(x.op==10) with
 | true=>
  have E:(x.op==2)=false:=by rw[show x.op=10 by simpa using g];rfl
  have I:(x.op==3)=false:=by rw[show x.op=10 by simpa using g];rfl
  have r:=dW ins i x g;have D:D0 x o=some o:=by unfold D0;rw[E,I,f];rfl
  have ao:=Re W0 names ins i J hl;rw[D,r] at d;rw[r] at ht;have aw:=Zz (ins.drop (i+1));simp only[List.length_drop] at aw;generalize BF (ins.drop (i+1))=L at *;unfold AH at ao;simp only[push_cast,seval,Ww,bK,bJ,J,S,M,N,U,X,Abn,Cl,Nz,z,u,f,k,g]
  repeat' (first|(((first|apply Ab|apply Ag|apply Ah)<;>intro _h)<;>simp only[push_cast,seval,Ww,bK,bJ,J,S,M,N,U,X,Abn,Cl,Nz,z,u,f,k,g])|(refine Ac (by exact ao) ?_;simp only[push_cast,seval,Ww,bK,bJ,J,S,M,N,U,X,Abn,Cl,Nz,z,u,f,k,g])|intro _)
  refine Rn (Ak.drop1 (A _ _ _ _ (.inl rfl)) (AzR _)) ?_;refine Am L.length (Inv:=λm st=>∃dn rest n R p',L=dn++rest/\m=rest.length/\w9 F R p' ins.length/\(rest.map (·.a)).foldl (λst j=>HD st o j) p'=(L.map (·.a)).foldl (λst j=>HD st o j) p/\st=⟨[(0,.ref (e0,51) 0),(5,v),(56,.sl (L.map Az.enc)),(57,.i .i64 L.length),(58,.i .i64 dn.length)],Ba e0 names ins R p' F,n⟩) ⟨_,Ak.refl,[],L,_,vs,p,rfl,rfl,Z,rfl,rfl⟩ ?_;rintro m _ ⟨dn,rest,n,R,p',hz,rfl,ag,hd,rfl⟩;cases rest with
  | nil=>
   have e1:decide ((dn.length:Int)<(L.length:Int))=false:=by rw[hz];simp
   simp only[Apy,Ayd] at hd;simp only[push_cast,seval,e1];intros;subst d;exact⟨_,Ak.refl,[.b true],Ba e0 names ins R p' F,⟨rfl,trivial⟩,(λ_ _ h=>h),rfl,R,F,by rw[hd],by rw[<-hd];exact ag,G⟩
  | cons y rest=>
   have aM:=AM hz;have e1:=Su hz;have e2:=GB hz;have e3:dn.length<L.length:=by omega
   have e4:=Ai y (dn:=dn) (by omega);obtain⟨t0,Y⟩:=ht y.a (AmB.2 ⟨y,by rw[hz];simp,rfl⟩);have B:=LI W0 e0 names ins R p' F ins.length v o y.a G ag t t0 Y;have C:=GA ag t y.a Y;rw[AlG,AvR] at hd;simp only[push_cast,seval,e1,e2,e3,e4];intros;refine Bw B (Ct (A _ _ _ _ (.inr rfl))) ?_;rw[KI (A _ _ _ _ (.inr rfl))];simp only[push_cast,seval,e4];intros;exact⟨_,_,AzS _,Ak.pre (AzR _),dn++[y],rest,_,_,_,by rw[hz];simp,rfl,C,hd,rfl⟩
 | false=>
 have r:=AcI ins i x g k f;rw[r] at ht;obtain⟨t0,Y⟩:=ht ((i:Int)+1) (by simp);cases E:(x.op==2) with
 | true=>
  have I:(x.op==3)=false:=by rw[show x.op=2 by simpa using E];rfl
  have D:D0 x o=some (x.s::o):=by unfold D0;rw[E];rfl
  rw[D,r] at d;simp only[AvR,Ayd] at d;simp only[push_cast,seval,Ww,bK,bJ,J,S,M,N,U,X,Abn,Cl,Nz,z,u,f,k,g,E,ew,az];intros;rename_i k1 k2 k3 k4 k5 k6 k7 k8 k9;have aL:n0<=n0+1+k1+1+k2+1+k3+1+k4+1+k5+1+k6+1+k7+1+k8+1+k9:=by omega
  generalize n0+1+k1+1+k2+1+k3+1+k4+1+k5+1+k6+1+k7+1+k8+1+k9=K at *;obtain⟨F',ac⟩:∃F':Aj,F'=((K,77),.box (.agg [.s x.s,v]))::F:=⟨_,rfl⟩
  have av:lk F (K,77)=none:=by
   cases ax:lk F (K,77) with
   | none=>rfl
   | some e=>have:=hn _ _ ax;simp only at this;omega
  have ae:∀id e,lk F id=some e->lk F' id=some e:=by rw[ac];exact Ct av
  have af:FrN F':=by
   intro id h;rw[ac] at h;simp only[lk] at h;by_cases O:(K,77)=id
   .rw[<-O]
   .rw[if_neg O] at h;exact G id h
  have ak:GY F' (.ref (K,77) 0) (x.s::o):=.cons _ _ _ v (by rw[ac];simp[lk]) (t.mono ae);have aa:∀id,lk (Ba e0 names ins vs p F') id=if(K,77)=id then some (.box (.agg [.s x.s,v])) else lk (Ba e0 names ins vs p F) id:=by
   intro id;rw[ac];simp only[Ba,lk];by_cases O:(K,77)=id
   .rw[<-O];simp
   .rw[if_neg O,if_neg O]
  have B:=LI W0 e0 names ins vs p F' ins.length (.ref (K,77) 0) (x.s::o) ((i:Int)+1) af (Z.mono ae) ak t0 Y;have C:=GA (Z.mono ae) ak ((i:Int)+1) Y;have an:∀a:Nat,lk (Ba e0 names ins vs p F') (a,6)=none:=λa=>JS af (by decide) (by decide) (by decide) (by decide) (by decide);refine Bw B (λid e h=>?_) ?_
  .rw[aa] at h;simp only[lk];by_cases O:(K,77)=id
   .rw[if_pos O] at h⊢;exact h
   .rw[if_neg O] at h⊢;exact Ct (A _ _ _ _ (.inl rfl)) id e h
  rw[Aci (an _) (by rw[aa];simp) (λq hq=>by rw[aa];split;(· simp);exact TO hq)];simp only[push_cast,seval];intros;subst d;exact⟨_,Ak.refl,[.b true],Ba e0 names ins _ _ F',⟨rfl,trivial⟩,(λ_ _ h=>AB h),rfl,_,F',rfl,C,af⟩
 | false=>
 cases I:(x.op==3) with
 | true=>
  cases t with
  | nil=>rw[iD x E I,r] at d;simp only at d;subst d;simp only[push_cast,seval,Ww,bK,bJ,J,S,M,N,U,X,Abn,Cl,Nz,z,u,f,k,g,E,I];intros;exact⟨_,Ak.refl,[.b false],[],⟨rfl,trivial⟩,(λ_ _ h=>by cases h),rfl⟩
  | cons id y l up O hu=>
   have au:=G id (by rw[O];simp);have ad:∀a:Nat,((a,6)=id)=False:=λa=>eq_false (by rintro rfl;simp at au);have al:lk (Ba e0 names ins vs p F) id=some (.box (.agg [.s y,up])):=LH G _ _ O;rw[sB x y l E I,r] at d;cases hy:(y==x.s) with
   | false=>rw[hy] at d;simp only[AcT] at d;subst d;simp only[push_cast,seval,Ww,bK,bJ,J,S,M,N,U,X,Abn,Cl,Nz,z,u,f,k,g,E,I,ad,al,hy];intros;exact⟨_,Ak.refl,[.b false],[],⟨rfl,trivial⟩,(λ_ _ h=>by cases h),rfl⟩
   | true=>rw[hy] at d;simp only[AvR,Ayd] at d;subst d;have B:=LI W0 e0 names ins vs p F ins.length up l ((i:Int)+1) G Z hu t0 Y;have C:=GA Z hu ((i:Int)+1) Y;simp only[push_cast,seval,Ww,bK,bJ,J,S,M,N,U,X,Abn,Cl,Nz,z,u,f,k,g,E,I,ad,al,hy,ew];intros;refine Bw B (Ct (A _ _ _ _ (.inl rfl))) ?_;rw[KI (A _ _ _ _ (.inl rfl))];simp only[push_cast,seval];intros;exact⟨_,Ak.refl,[.b true],Ba e0 names ins _ _ F,⟨rfl,trivial⟩,(λ_ _ h=>AB h),rfl,_,F,rfl,C,G⟩
 | false=>
  have D:D0 x o=some o:=by unfold D0;rw[E,I,f];rfl
  rw[D,r] at d;have B:=LI W0 e0 names ins vs p F ins.length v o ((i:Int)+1) G Z t t0 Y;have C:=GA Z t ((i:Int)+1) Y;simp only[AvR,Ayd] at d;subst d;simp only[push_cast,seval,Ww,bK,bJ,J,S,M,N,U,X,Abn,Cl,Nz,z,u,f,k,g,E,I,ew];intros;refine Bw B (Ct (A _ _ _ _ (.inl rfl))) ?_;rw[KI (A _ _ _ _ (.inl rfl))];simp only[push_cast,seval];intros;exact⟨_,Ak.refl,[.b true],Ba e0 names ins _ _ F,⟨rfl,trivial⟩,(λ_ _ h=>AB h),rfl,_,F,rfl,C,G⟩
theorem DJ{W0:World}{nt n:Nat}{env:A9}{σ:Aj}{v w:V}(c:get env 3=v)(d:get env 4=w):KC W0 nt [.t 2,.t 3,.t 4] [.any,v,w] [] .ret ⟨env,σ,n⟩:=by
 refine⟨⟨[(2,.any),(3,v),(4,w)],[],n⟩,Ak.weak (λ_=>none) (λ_ _ h=>by cases h) (λt=>?_) (λi e h=>by cases h) (AzR _),⟨by simp[Dp,get],by simp[Dp,get],by simp[Dp,get],trivial⟩,λ_ _ h=>by cases h⟩;by_cases h:2=t
 .subst h;simp only[get];exact .any _
 .by_cases b:3=t
  .subst b;rw[c];simp only[get];simp;exact .refl _
  .by_cases a:4=t
   .subst a;rw[d];simp only[get];simp;exact .refl _
   .simp only[get,if_neg h,if_neg b,if_neg a];exact .any _
theorem Aur(n:Nat):w9 [] (List.replicate n .np) (Cc n) n:=by
 refine⟨by simp,by simp[Cc],by simp[Cc],by simp[Cc],λj c=>?_⟩;have a:(List.replicate n V.np).getD j .np=.np:=by rw[AtX,Aza];split<;>rfl
 have b:(Cc n).op.getD j []=[]:=by simp only[Cc];rw[AtX,Aza];split<;>rfl
 rw[a,b];exact .nil
def vT(ins:List Az):Int×Int:=
 if ins.isEmpty||!(CV ins (ins.length-1)==13) then(ins.length,4)
 else if Gt ins 0 ins (Cc ins.length)>=0 then(Gt ins 0 ins (Cc ins.length),7)
 else(0,0)
theorem Ys(names:List Aa)(ins:List Az):Cv names ins=if !HX names then(0,1) else if decide ((ins.length:Int)>10000) then(0,6) else if Ce names.length ins 0 ins>=0 then(Ce names.length ins 0 ins,4) else vT ins:=rfl
set_option maxHeartbeats 4000000 in
theorem w8(names:List Aa)(ins:List Az)(hn:names.length<=2^30)(hl:ins.length<=2^30)(ag:∀s∈names,s.length<AJ)(hs:∀x∈ins,x.s.length<=2^30) :
  Al Tryz.prog W0 34 [AH names ins] [] (.tup [.any,.i .i64 (Cv names ins).1,.i .i64 (Cv names ins).2]) []:=by
 have g:=xX W0 names (by omega) ag;rw[Ys];unfold AH;refine Ae (vs:=[.any,.i .i64 _,.i .i64 _]) Ang (by simp) (by simp) λn0 ae=>?_;clear ae;cases hA:HX names with
 | false=>
  rw[hA] at g;simp only[bq,if_true,if_false];simp only[push_cast,seval]
  repeat' (first|(((first|apply Ab|apply Ag|apply Ah)<;>intro _h)<;>simp only[push_cast,seval])|(refine Ac (by exact g) ?_;simp only[push_cast,seval])|intro _)
  all_goals exact DJ rfl rfl
 | true=>
 rw[hA] at g;simp only[bq,if_true,if_false];cases e:decide ((ins.length:Int)>10000) with
 | true=>
  simp only[bq,if_true,if_false];simp only[push_cast,seval,e,Abn]
  repeat' (first|(((first|apply Ab|apply Ag|apply Ah)<;>intro _h)<;>simp only[push_cast,seval,e,Abn])|(refine Ac (by exact g) ?_;simp only[push_cast,seval,e,Abn])|intro _)
  all_goals exact DJ rfl rfl
 | false=>
 simp only[bq,if_true,if_false];generalize hS:(if Ce names.length ins 0 ins>=0 then(Ce names.length ins 0 ins,(4:Int)) else vT ins)=S;simp only[push_cast,seval,e,Abn]
 repeat' (first|(((first|apply Ab|apply Ag|apply Ah)<;>intro _h)<;>simp only[push_cast,seval,e,Abn])|(refine Ac (by exact g) ?_;simp only[push_cast,seval,e,Abn])|intro _)
 generalize hG:Ce names.length ins 0 ins=G at hS;refine Am ins.length (Inv:=λm st=>∃dn rest n U,ins=dn++rest/\m=rest.length/\Ce names.length ins dn.length rest=G/\st=⟨[(1,.ref (U,1) 0),(5,.i .i64 ins.length),(20,.i .i64 ins.length),(21,.i .i64 dn.length)],[((U,1),.box (.agg [.sl (names.map V.s),.sl (ins.map Az.enc)]))],n⟩) ⟨_,Ak.refl,[],ins,_,_,rfl,rfl,hG,rfl⟩ ?_;rintro m _ ⟨dn,rest,n,U,f,rfl,c,rfl⟩;cases rest with
 | cons x rest=>
  have J:=AM f;have B:ins[dn.length]?=some x:=by rw[f];simp
  have I:=GB f;have o:=Ai x (dn:=dn) (by omega);have A:=ZB W0 names ins dn.length x B hn hl hs;rw[Ce] at c;unfold AH at A;generalize AG names.length ins dn.length x=A1 at *;cases A1 with
  | false=>
   simp only[AcT,if_false] at c;have l:G>=0:=by omega
   rw[if_pos l] at hS;subst hS;rw[<-c];simp only[push_cast,seval,I,o,Abn]
   repeat' (first|(((first|apply Ab|apply Ag|apply Ah)<;>intro _h)<;>simp only[push_cast,seval])|(refine Ac (by exact A) ?_;simp only[push_cast,seval])|intro _)
   all_goals exact DJ rfl rfl
  | true=>
   simp only[if_true] at c;simp only[push_cast,seval,I,o,Abn]
   repeat' (first|(((first|apply Ab|apply Ag|apply Ah)<;>intro _h)<;>simp only[push_cast,seval,o])|(refine Ac (by exact A) ?_;simp only[push_cast,seval,o])|intro _)
   exact⟨_,_,AzS _,Ak.refl,dn++[x],rest,_,_,by rw[f];simp,rfl,by rw[AhT];exact c,rfl⟩
 | nil=>
  rw[Ce] at c;have l:¬G>=0:=by omega
  rw[if_neg l] at hS;have R:¬Ce names.length ins 0 ins>=0:=by rw[hG];exact l
  clear hG;rw[Arm] at f;have E:decide ((dn.length:Int)<(ins.length:Int))=false:=by rw[f];simp
  unfold vT at hS;rcases AyH ins.length with q|q
  .have u:ins=[]:=by cases ins with
    | nil=>rfl
    | cons y r=>simp at q
   rw[u] at hS;simp only[List.isEmpty_nil,Azi,if_true] at hS;subst hS;have X:((ins.length:Int)==0)=true:=by rw[q];rfl
   simp only[push_cast,seval,E,X,Abn];intros;refine DJ ?_ rfl;simp[get,q]
  .have u:ins.isEmpty=false:=by cases ins with
    | nil=>simp at q
    | cons y r=>rfl
   have X:((ins.length:Int)==0)=false:=by rw[beq_eq_false_iff_ne];omega
   have hw:IntKind.i64.wrap ((ins.length:Int)-1)=((ins.length-1:Nat):Int):=by rw[wrap64 (by omega) (by omega)];omega
   have z:ins.length-1<ins.length:=by omega
   obtain⟨y,hy⟩:∃y,ins[ins.length-1]?=some y:=⟨_,Afb z⟩;have ey:(ins.map Az.enc)[ins.length-1]?=some (.agg [.i .i64 y.op,.i .i64 y.a,.i .i64 y.b,.s y.s]):=by rw[Akg,hy];rfl
   have eo:CV ins (ins.length-1)=y.op:=by unfold CV;rw[hy]
   have C:(y.op !=13)=!(y.op==13):=rfl;rw[u,eo,AxP] at hS;cases t:(y.op==13) with
   | false=>rw[t] at hS C;simp only[AuR,if_true] at hS C;subst hS;simp only[push_cast,seval,E,X,hw,ey,z,C,Abn];intros;exact DJ rfl rfl
   | true=>
    rw[t] at hS C;simp only[Au9,AcT,if_false] at hS C;have ht:VP ins:=nG _ ins R (by rw[eo];simpa using t);have af:=λi x B=>m7 (nn:=names.length) ins i x ht B (QF R);have O:((ins.length:Int)<=(ins.length:Int)/\(ins.length:Int)<=(AI:Int))=True:=eq_true ⟨Int.le_refl _,by unfold AI;omega⟩;have M:List.replicate ins.length (V.b false)=List.map V.b (List.replicate ins.length false):=by simp
    have k:(List.map V.b (List.replicate ins.length false)).set 0 (V.b true)=List.map V.b (Cc ins.length).re:=by simp[Cc,List.map_set]
    have L:List.map V.b (List.replicate ins.length false)=List.map V.b (Cc ins.length).cl:=by simp[Cc]
    have N:(List.map V.b (List.replicate ins.length false))[0]?=some (.b false):=by rw[Akg,Aza,if_pos q];rfl
    generalize D:Gt ins 0 ins (Cc ins.length)=K at hS;simp only[push_cast,seval,E,X,hw,ey,z,C,Abn,O,M,q,Azh,N,k];intros;rw[L];rename_i q1 q2 q3 q4 q5;generalize n+1+q1+1+q2=e0 at *;have ad:Ba e0 names ins (List.replicate ins.length .np) (Cc ins.length) []=[((e0,51),.box (.agg [.sl (names.map V.s),.sl (ins.map Az.enc),.arr (e0,45),.arr (e0,47),.arr (e0,49)])),((e0,49),.arr Cl 1 ((Cc ins.length).cl.map V.b)),((e0,47),.arr Cl 1 ((Cc ins.length).re.map V.b)),((e0,45),.arr Nz 1 (List.replicate ins.length .np))]:=rfl;refine Rn (Ak.pre (σ:=Ba e0 names ins (List.replicate ins.length .np) (Cc ins.length) []) (τ:=[((U,1),.box (.agg [.sl (names.map V.s),.sl (ins.map Az.enc)]))]) (AzR _)) ?_;clear ad;refine Am ins.length (Inv:=λm st=>∃dn rest n vs p F,ins=dn++rest/\m=rest.length/\Gt ins dn.length rest p=K/\w9 F vs p ins.length/\FrN F/\st=⟨[(7,.ref (e0,51) 0),(57,.i .i64 ins.length),(58,.i .i64 dn.length)],Ba e0 names ins vs p F,n⟩) ⟨_,Ak.refl,[],ins,_,_,_,[],rfl,rfl,D,Aur _,λid h=>absurd rfl h,rfl⟩ ?_;clear D M k L N O;rintro m _ ⟨dn,rest,n,vs,p,F,f,rfl,c,hR,hF,rfl⟩;cases rest with
    | nil=>
     rw[Gt] at c;have D:¬K>=0:=by omega
     rw[if_neg D] at hS;subst hS;have E:decide ((dn.length:Int)<(ins.length:Int))=false:=by rw[f];simp
     simp only[push_cast,seval,E];intros;exact DJ rfl rfl
    | cons x rest=>
     have J:=AM f;have B:ins[dn.length]?=some x:=by rw[f];simp
     have I:=GB f;have o:=Ai x (dn:=dn) (by omega);have ah:=AgX W0 e0 names ins vs p F dn.length x B hl hF hR (λj hj=>⟨af _ x B j hj,ht _ x B j hj⟩);have Y:dn.length<p.re.length:=by rw[hR.l4];exact J
     have g5:=getD_some false Y;rw[Gt] at c;generalize p.re.getD dn.length false=r at *;have g7:(p.re.map V.b)[dn.length]?=some (.b r):=by rw[Akg,g5];rfl
     cases r with
     | false=>simp only[AcT,if_false] at c;simp only[push_cast,seval,I,o,Ww,k47,Y,g7,Abn,Cl];intros;exact⟨_,_,AzS _,Ak.refl,dn++[x],rest,_,vs,p,F,by rw[f];simp,rfl,by rw[AhT];exact c,hR,hF,rfl⟩
     | true=>
      simp only[if_true] at c;simp only[push_cast,seval,I,o,Ww,k47,Y,g7,Abn,Cl];intros;refine Bd ah (λ_ _ h=>h) (λn2 v σo ay d=>?_);rw[Uk];unfold WJ at d;cases k:Qs ins dn.length x p with
      | none=>
       rw[k] at d c;simp only at d c;subst d;have D:K>=0:=by omega
       rw[if_pos D] at hS;subst hS;simp only[push_cast,seval];intros;exact DJ (by rw[<-c];rfl) rfl
      | some p'=>rw[k] at d c;simp only at d c;obtain⟨rfl,ai,F',rfl,ac,Z⟩:=d;simp only[push_cast,seval,o];intros;exact⟨_,_,AzS _,Ak.refl,dn++[x],rest,_,ai,p',F',by rw[f];simp,rfl,by rw[AhT];exact c,ac,Z,rfl⟩
theorem Qi(names:List Aa)(ins:List Az)(e:names.length<=2^30)(d:ins.length<=2^30)(b:∀s∈names,s.length<AJ)(f:∀x∈ins,x.s.length<=2^30) :
  Al Tryz.prog W0 17 [AH names ins] [] (.tup [.i .i64 (Cv names ins).1,.i .i64 (Cv names ins).2]) []:=by
 have c:=w8 W0 names ins e d b f;unfold AH at *;refine Ae (vs:=[.i .i64 _,.i .i64 _]) ArI (by simp) (by simp) λn0 a=>?_;clear a;simp only[push_cast,reduceEqDiff]
 repeat' (first|(((first|apply Ab|apply Ag|apply Ah)<;>intro _h)<;>simp only[push_cast,reduceEqDiff])|(refine Ac (by exact c) ?_;simp only[push_cast,reduceEqDiff])|intro _)
 all_goals (refine Ad ?_;simp[push_cast])

theorem aK{names:List Aa}{ins:List Az}(h:((Cv names ins).2==0)=true):∀k y,ins[k]?=some y->AG names.length ins k y=true:=by
 refine QF (nn:=names.length) λhp=>?_;unfold Cv at h;rw[if_pos hp] at h;split at h
 .simp at h
 .split at h<;>simp at h
theorem JJ{nn:Nat}{ins:List Az}{i:Nat}{x:Az}(h:AG nn ins i x=true)(c:J6 x=true):0<=x.a/\x.a.toNat<nn:=by
 have d:I8 nn x.a=true:=by
  obtain⟨op,a,b,s⟩:=x;unfold J6 at c;simp only[AzP,decide_eq_true_eq] at c;have:op=5\/op=6\/op=7\/op=8\/op=9\/op=10:=by omega
  unfold AG at h;rcases this with rfl|rfl|rfl|rfl|rfl|rfl<;>(simp only[Int.reduceBEq,bq,if_true,if_false,Int.reduceBEq] at h;rw[AzP] at h;exact h.1)
 unfold I8 at d;simp only[AzP,Ar9,decide_eq_false_iff_not] at d;omega
theorem rO{names:List Aa}{a:Int}(h:a.toNat<names.length):(names.map V.s)[a.toNat]?=some (.s (Cy names a)):=by rw[Akg,getD_some [] h];rfl
theorem Zx(names:List Aa)(l:List Az):(Er names l).length<=l.length:=by
 induction l with
 | nil=>simp[Er]
 | cons x r a=>rw[Er];split<;>simp<;>omega
theorem Ah7(x:Az):Al Tryz.prog W0 49 [x.enc] [] (.tup [.i .i64 (EY x),.b (J6 x)]) []:=by
 generalize hS:(EY x,J6 x)=S;have e:EY x=S.1:=by rw[<-hS]
 have f:J6 x=S.2:=by rw[<-hS]
 rw[e,f,Az.enc_eq];clear e f;by_cases r:5<=x.op/\x.op<=10
 .have:x.op=5\/x.op=6\/x.op=7\/x.op=8\/x.op=9\/x.op=10:=by omega
  have g:J6 x=true:=by unfold J6;simp;omega
  rw[g] at hS;unfold EY at hS;obtain⟨op,a,b,s⟩:=x;simp only at this hS⊢;rcases this with rfl|rfl|rfl|rfl|rfl|rfl
  all_goals simp only[Int.reduceBEq,bq,if_false,Int.reduceBEq] at hS
  all_goals (refine Ae (vs:=[.i .i64 S.1,.b S.2]) AeC (by simp) (by simp) λn0 c=>?_;clear c)
  all_goals simp only[push_cast,reduceEqDiff,Int.reduceBEq]
  all_goals (repeat' (first|((first|apply Ab|apply Ag|apply Ah)<;>intro _h<;>simp only[push_cast,reduceEqDiff])|intro _))
  all_goals (try simp only[*,bq,if_false,Int.reduceBEq] at hS)
  all_goals (subst hS;refine Ad ?_;simp[push_cast])
 .have g:J6 x=false:=by
   unfold J6;simp only[Bool.and_eq_false_iff,decide_eq_false_iff_not];omega
  have q:∀k:Int,5<=k->k<=10->(x.op==k)=false:=λk e f=>by rw[beq_eq_false_iff_ne];omega
  have o:=q 5 (by decide) (by decide);have h:=q 6 (by decide) (by decide);have j:=q 7 (by decide) (by decide);have l:=q 8 (by decide) (by decide);have m:=q 9 (by decide) (by decide);have d:=q 10 (by decide) (by decide);have p:EY x=0:=by unfold EY;simp only[h,j,l,m,d,bq,if_false,Int.reduceBEq]
  rw[g,p] at hS;subst hS;refine Ae (vs:=[.i .i64 0,.b false]) AeC (by simp) (by simp) λn0 c=>?_;clear c;simp only[push_cast,reduceEqDiff,o,h,j,l,m,d]
  repeat' (first|(((first|apply Ab|apply Ag|apply Ah)<;>intro _h)<;>simp only[push_cast,reduceEqDiff,o,h,j,l,m,d])|intro _)
  all_goals (refine Ad ?_;simp[push_cast])
theorem TP{W0:World}{nt n:Nat}{env:A9}{σ:Aj}{id:Id}{e sz:Nat}{es:List V}{v:V}(j:get env 2=.arr id)(l:get env 3=v)(o:lk σ id=some (.arr e sz es))(d:∀y∈es,y.ok=true):KC W0 nt [.t 2,.t 3] [.sl es,v] [] .ret ⟨env,σ,n⟩:=by
 refine⟨⟨[(2,.sl es),(3,v)],[],n⟩,Ak.weak (λi=>if i=id then some es else none) (λi es' h=>?_) (λt=>?_) (λi p h=>by cases h) (AzR _),⟨by simp[Dp,get],by simp[Dp,get],trivial⟩,λ_ _ h=>by cases h⟩
 .split at h
  .rename_i m;subst m;cases h;exact⟨⟨e,sz,o⟩,rfl⟩
  .cases h
 .by_cases h:2=t
  .subst h;rw[j];simp only[get];refine .arr id es es (by simp) rfl (λk c g b a=>?_) (λk c g b a=>?_)
   .rw[b] at a;cases a;exact .refl _
   .rw[b] at a;cases a;have:=d c (AzT b);exact⟨rfl,this,this⟩
  .by_cases f:3=t
   .subst f;rw[l];simp only[get];simp;exact .refl _
   .simp only[get,if_neg h,if_neg f];exact .any _
theorem TX{names:List Aa}{B:Nat}(h:∀s∈names,s.length<=B)(a:Int):(Cy names a).length<=B:=by
 unfold Cy;rw[AtX];cases b:names[a.toNat]? with
 | none=>simp
 | some s=>exact h s (AzT b)
theorem Y2{names:List Aa}:∀{l:List Az} {u:Aa×Int},u∈Er names l->∃x∈l,u.1=Cy names x.a:=by
 intro l
 induction l with
 | nil=>intro u h;cases h
 | cons y r d=>
  intro u h;rw[Er] at h;split at h
  .rcases Am8.1 h with rfl|h
   .exact⟨y,by simp,rfl⟩
   .obtain⟨x,c,b⟩:=d h;exact⟨x,by simp[c],b⟩
  .obtain⟨x,c,b⟩:=d h;exact⟨x,by simp[c],b⟩
def Tv(T:Dt×Bool):Dt×Int:=if T.2 then([],11) else(J5 T.1,0)
theorem aM(names:List Aa)(ins:List Az):Lv names ins=if !((Cv names ins).2==0) then([],1) else Tv (SA names ins):=rfl
set_option maxHeartbeats 4000000 in
theorem mK(names:List Aa)(ins:List Az)(hn:names.length<=2^30)(hl:ins.length<=2^27)(ac:∀s∈names,s.length<=2^38)(hs:∀x∈ins,x.s.length<=2^30) :
  Al Tryz.prog W0 30 [AH names ins] [] (.tup [.sl ((Lv names ins).1.map MZ),.i .i64 (Lv names ins).2]) []:=by
 have R:=Qi W0 names ins hn (by omega) (λs h=>by have:=ac s h;unfold AJ;omega) hs;rw[aM];generalize ai:Cv names ins=CK at *;obtain⟨c1,c2⟩:=CK;simp only at R⊢;cases K:(c2==0) with
 | false=>
  have D:(c2 !=0)=true:=by simp[bne,K]
  unfold AH at *;simp only[bq,if_true];refine Ae (vs:=[.sl _,.i .i64 _]) Afm (by simp) (by simp) λn0 O=>?_;clear O;simp only[push_cast,seval]
  repeat' (first|(((first|apply Ab|apply Ag|apply Ah)<;>intro _h)<;>simp only[push_cast,seval,D])|(refine Ac (by exact R) ?_;simp only[push_cast,seval,D])|intro _)
  all_goals exact Mi rfl rfl
 | true=>
 have D:(c2 !=0)=false:=by simp[bne,K]
 have al:=aK (names:=names) (ins:=ins) (by rw[ai];exact K);unfold AH at *;simp only[bq,if_true];obtain⟨k1,k2,k3⟩:=ZC (Er names ins) ([],false) (by simp);have hT:(Er names ins).foldl DU ([],false)=SA names ins:=rfl;rw[hT] at k1 k2 k3;have aO:=Zx names ins;have hk:∀e∈(SA names ins).1,e.1.length<=2^40:=λe he=>by
  rcases k3 e.1 (AmB.2 ⟨e,he,rfl⟩) with h|⟨u,hu,an⟩
  .simp at h
  .obtain⟨x,_,hx⟩:=Y2 hu;have:=TX ac x.a;rw[<-an,hx];omega
 simp only[Ank,Aw5] at k2;clear k3;generalize SA names ins=T at *;generalize hS:Tv T=S;refine Ae (vs:=[.sl (S.1.map MZ),.i .i64 S.2]) Afm (by simp) (by simp) λn0 O=>?_;clear O;simp only[push_cast,seval]
 repeat' (first|(((first|apply Ab|apply Ag|apply Ah)<;>intro _h)<;>simp only[push_cast,seval,D])|(refine Ac (by exact R) ?_;simp only[push_cast,seval,D])|intro _)
 refine Am ins.length (Inv:=λm st=>∃dn rest n d r t w,ins=dn++rest/\m=rest.length/\(Er names rest).foldl DU (t,w)=T/\(d<n/\r<n)/\st=⟨[(1,.ref (r,1) 0),(6,.arr (d,27)),(7,.b w),(29,.sl (ins.map Az.enc)),(30,.i .i64 ins.length),(31,.i .i64 dn.length)],[((d,27),.map (Dl t)),((r,1),.box (.agg [.sl (names.map V.s),.sl (ins.map Az.enc)]))],n⟩) ⟨_,Ak.refl,[],ins,_,_,_,[],false,rfl,rfl,hT,?_,rfl⟩ ?_
 .omega
 clear hT;rintro m _ ⟨dn,rest,n,d,r,t,w,l,rfl,o,⟨aH,aF⟩,rfl⟩;cases rest with
 | cons x rest=>
  have f:=AM l;have hx:ins[dn.length]?=some x:=by rw[l];simp
  have am:=al _ x hx;have j:=Su l;have A:=GB l;have B:=Ai x (dn:=dn) (by omega);have q:=Ah7 W0 x;rw[Az.enc_eq] at q;rw[Er] at o;cases hh:J6 x with
  | false=>
   rw[hh] at o q;simp only[AcT] at o;simp only[push_cast,seval,j,A,B,f,Abn]
   repeat' (first|(((first|apply Ab|apply Ag|apply Ah)<;>intro _h)<;>simp only[push_cast,seval,j,A,B,f,Abn])|(refine Ac (by exact q) ?_;simp only[push_cast,seval,j,A,B,f,Abn])|intro _)
   exact⟨_,_,AzS _,Ak.drop1 (by simp[lk]) (AzR _),dn++[x],rest,_,_,_,t,w,by rw[l];simp,rfl,o,⟨by omega,by omega⟩,rfl⟩
  | true=>
   rw[hh] at o q;simp only[if_true,AvR] at o;obtain⟨a0,U⟩:=JJ am hh;have a2:(0<=x.a)=True:=eq_true a0;have a3:=rO U;rcases I0 (Cy names x.a) t 0 with⟨i,v,F,h2,h3⟩|⟨F,h2,h3⟩
   .have Z:=AiT W0 v (EY x);simp only[Aw5] at h2;have J:DU (t,w) (Cy names x.a,EY x)=(Ep t (Cy names x.a) (GO v (EY x)).1,w||!(GO v (EY x)).2):=by unfold DU;simp only[F]
    rw[J] at o;generalize GO v (EY x)=C at *;obtain⟨cm,Y⟩:=C;simp only at Z o;cases w<;>cases Y
    all_goals simp only[bq,if_true,Au9,AuR,AxX,Azi] at o
    all_goals simp only[push_cast,seval,j,A,B,f,Abn,a2,U,a3]
    all_goals (repeat' (first|((first|refine Ac (by exact q) ?_|refine Ac (by exact Z) ?_);simp only[push_cast,seval,j,A,B,f,Abn,a2,U,a3,h2,h3])|intro _))
    all_goals exact⟨_,_,AzS _,Ak.sub (by simp) (λp hp=>by simp at hp⊢;rcases hp with h|h<;>simp[h]) (AzR _),dn++[x],rest,_,_,_,_,_,by rw[l];simp,rfl,o,⟨by omega,by omega⟩,rfl⟩
   .have J:DU (t,w) (Cy names x.a,EY x)=(Ep t (Cy names x.a) (EY x),w):=by unfold DU;simp only[F]
    rw[J] at o;simp only[push_cast,seval,j,A,B,f,Abn,a2,U,a3]
    repeat' (first|(((first|apply Ab|apply Ag|apply Ah)<;>intro _h)<;>simp only[push_cast,seval,j,A,B,f,Abn,a2,U,a3,h2,h3])|(refine Ac (by exact q) ?_;simp only[push_cast,seval,j,A,B,f,Abn,a2,U,a3,h2,h3])|intro _)
    exact⟨_,_,AzS _,Ak.sub (by simp) (λp hp=>by simp at hp⊢;rcases hp with h|h<;>simp[h]) (AzR _),dn++[x],rest,_,_,_,_,_,by rw[l];simp,rfl,o,⟨by omega,by omega⟩,rfl⟩
 | nil=>
  rw[Er,Ayd] at o;subst o;have j:decide ((dn.length:Int)<(ins.length:Int))=false:=by rw[l];simp
  unfold Tv at hS;cases w with
  | true=>simp only[if_true] at hS;subst hS;simp only[push_cast,seval,j,Abn];intros;exact Mi rfl rfl
  | false=>
   simp only[AcT] at hS;subst hS;simp only at k1 k2 hk;simp only[push_cast,seval,j,Abn];intros;have aI:∀a b:Nat,((a,27):Id)≠(b,1):=λa b he=>by cases he
   refine Bd (Aln W0 t (d,27)) (λi e h=>by
    simp only[lk] at h⊢;split at h
    .rename_i F;rw[if_pos F];exact h
    .cases h) (λX v σo aG hR=>?_)
   obtain⟨c,aa,I,rfl,rfl⟩:=hR;have G:c≠(d,27):=by rintro rfl;simp at aa;omega
   have N:c≠(r,1):=by rintro rfl;simp at aa;omega
   have f1:(c=(d,27))=False:=eq_false G;have af:((d,27)=c)=False:=eq_false (AfT G);have f2:(c=(r,1))=False:=eq_false N;have ag:((r,1)=c)=False:=eq_false (AfT N);have E:over [((d,27),A5.map (Dl t))] [(c,A5.box (.arr (d,27))),((d,27),A5.map (Dl t))] [((d,27),A5.map (Dl t)),((r,1),A5.box (.agg [.sl (names.map V.s),.sl (ins.map Az.enc)]))]=[(c,A5.box (.arr (d,27))),((d,27),A5.map (Dl t)),((r,1),A5.box (.agg [.sl (names.map V.s),.sl (ins.map Az.enc)]))]:=by simp[over,lk]
   rw[E];clear E;simp only[push_cast,seval];refine KO (eN W0 t k1 (by omega) hk c (d,27) G) (λi e h=>?_) ?_
   .exact AB (σ:=[_,_]) (τ:=[_]) h
   have E:over [(c,A5.box (.arr (d,27))),((d,27),A5.map (Dl t))] [(c,A5.box (.arr (d,27))),((d,27),A5.map (Dl t))] [(c,A5.box (.arr (d,27))),((d,27),A5.map (Dl t)),((r,1),A5.box (.agg [.sl (names.map V.s),.sl (ins.map Az.enc)]))]=[(c,A5.box (.arr (d,27))),((d,27),A5.map (Dl t)),((r,1),A5.box (.agg [.sl (names.map V.s),.sl (ins.map Az.enc)]))]:=by simp[over,lk,f1,af,f2,ag]
   rw[E];clear E;simp only[push_cast,seval];intro k4;generalize hL:H4 t=L;have aD:L.length<=2^28:=by rw[<-hL,Wn];omega
   have hA:J5 t=L.map λn=>(n,(AU t n).getD 0):=by unfold J5;rw[hL]
   rw[hA];clear hA;obtain⟨g,hg⟩:∃g:Aa->V,g=λn=>MZ (n,(AU t n).getD 0):=⟨_,rfl⟩
   have ab:(L.map λn=>(n,(AU t n).getD 0)).map MZ=L.map g:=by rw[hg,AyY];rfl
   rw[ab];clear ab;refine Am L.length (Inv:=λm st=>∃dn rest n a0 s0,L=dn++rest/\m=rest.length/\st=⟨[(6,.arr (d,27)),(17,.arr (a0,87)),(74,.arr (s0,74)),(75,.i .i64 L.length),(76,.i .i64 dn.length)],[((a0,87),.arr 86 2 (dn.map g)),((s0,74),A5.arr 9 1 (L.map V.s)),((d,27),A5.map (Dl t))],n⟩) ⟨_,((Ak.own (s:=17) (e:=86) (sz:=2) (k:=87) rfl).trans (Ak.envD (λs=>?_) (AzR _))).trans (Ak.sub (σ':=[((X+1+k4,87),.arr 86 2 []),((X,74),A5.arr 9 1 (L.map V.s)),((d,27),A5.map (Dl t))]) ?_ ?_ (AzR _)),[],L,_,X+1+k4,X,rfl,rfl,rfl⟩ ?_
   .left;by_cases h5:17=s
    .subst h5;rfl
    .simp[get,h5]
   .have g1:c≠(X+1+k4,87):=by rintro rfl;simp at I;omega
    have g2:c≠(X,74):=by rintro rfl;simp at I
    simp[G,N,AfT g1,AfT g2]
   .intro p hp;simp at hp⊢;rcases hp with h|h|h<;>simp[h]
   rintro m _ ⟨dn,rest,n,a0,s0,l,rfl,rfl⟩;cases rest with
   | nil=>
    rw[Arm] at l;subst l;have j:decide ((L.length:Int)<(L.length:Int))=false:=by simp
    simp only[push_cast,seval,j];intros;refine TP (e:=86) (sz:=2) rfl rfl (by simp[lk]) (λy hy=>?_);obtain⟨z,_,rfl⟩:=AmB.1 hy;rw[hg];rfl
   | cons x rest=>
    have f:=AM l;have j:=gH l;have A:=GB l;have B:=Ai x (dn:=dn) (by omega);have g5:(dn.length+1<=AI)=True:=eq_true (by simp only[AI];omega);rcases I0 x t 0 with⟨i,v,F,h2,h3⟩|⟨F,h2,h3⟩
    .simp only[Aw5] at h2;have M:dn.map g++[.agg [.s x,.i .i64 v]]=(dn++[x]).map g:=by rw[hg];simp[MZ,F]
     simp only[push_cast,seval,j,A,B,f,Abn,h2,g5,M];intros;exact⟨_,_,AzS _,Ak.refl,dn++[x],rest,_,_,_,by rw[l];simp,rfl,rfl⟩
    .have M:dn.map g++[.agg [.s x,.i .i64 0]]=(dn++[x]).map g:=by rw[hg];simp[MZ,F]
     simp only[push_cast,seval,j,A,B,f,Abn,h2,g5,M];intros;exact⟨_,_,AzS _,Ak.refl,dn++[x],rest,_,_,_,by rw[l];simp,rfl,rfl⟩
end Go.Ir

namespace Go.Ir
open Go.Proofs Go.RowKit
variable(W0:World)
def Acn:V->Option Az
 | .agg [o,a,b,s]=>(Fu o).bind λo=>(Fu a).bind λa=>(Fu b).bind λb=>(Cw s).bind λs=>some ⟨o,a,b,s⟩
 | _=>none
theorem Vl:G4 Acn Az.enc:=by
 intro v p h;unfold Acn at h;split at h
 .obtain⟨o,l,h⟩:=Aem.1 h;obtain⟨a,m,h⟩:=Aem.1 h;obtain⟨b,q,h⟩:=Aem.1 h;obtain⟨s,r,h⟩:=Aem.1 h;cases h;have f:=CY _ _ l;have g:=CY _ _ m;have i:=CY _ _ q;have k:=B3 _ _ r;rw[Az.enc_eq];refine⟨.agg _ _ rfl λj c t e d=>?_,rfl,rfl,rfl⟩
  match j with
  | 0=>simp at e d;subst e d;exact f.1
  | 1=>simp at e d;subst e d;exact g.1
  | 2=>simp at e d;subst e d;exact i.1
  | 3=>simp at e d;subst e d;exact k.1
  | j+4=>simp at e
 .cases h
def lenB(n:Nat):List Aa->Bool
 | []=>true
 | s::r=>bif Nat.ble s.length n then lenB n r else false
def Zc(n:Nat):List Az->Bool
 | []=>true
 | x::r=>bif Nat.ble x.s.length n then Zc n r else false
theorem Ya{n:Nat}:∀{l:List Aa},lenB n l=true->∀s∈l,s.length<=n:=by
 intro l
 induction l with
 | nil=>intro _ s b;cases b
 | cons a l d=>
  intro h s b;rw[lenB] at h;cases c:Nat.ble a.length n with
  | false=>rw[c] at h;cases h
  | true=>
   rw[c] at h;rcases Am8.1 b with rfl|b
   .exact AxV c
   .exact d h s b
theorem Wc{n:Nat}:∀{l:List Az},Zc n l=true->∀x∈l,x.s.length<=n:=by
 intro l
 induction l with
 | nil=>intro _ s b;cases b
 | cons a l d=>
  intro h s b;rw[Zc] at h;cases c:Nat.ble a.s.length n with
  | false=>rw[c] at h;cases h
  | true=>
   rw[c] at h;rcases Am8.1 b with rfl|b
   .exact AxV c
   .exact d h s b
def Sv:List V->Option V
 | [.agg [a,b]]=>(Mf Cw a).bind λnames=>(Mf Acn b).bind λins=>bif (Nat.ble names.length 1000&&Nat.ble ins.length 1000)&&(lenB 1000 names&&Zc 1000 ins) then
   some (.tup [.sl ((OO names ins).1.map MZ),.i .i64 (OO names ins).2]) else none
 | _=>none
theorem sV(l:Dt)(e:Int):Nv (.tup [.sl (l.map MZ),.i .i64 e])=true:=by
 have h:∀l:Dt,HW (l.map MZ)=true:=by
  intro l
  induction l with
  | nil=>simp[HW]
  | cons a l b=>simp only[AlG,HW,b,MZ,Nv,Ax6]
 simp only[Nv,HW,h,Ax6]
theorem Ab1:AX Tryz.prog W0 (bL 30 Sv):=Lc λargs v h=>by
 unfold Sv at h;split at h
 .rename_i a b;obtain⟨names,m,h⟩:=Aem.1 h;obtain⟨ins,o,h⟩:=Aem.1 h;cases e:((Nat.ble names.length 1000&&Nat.ble ins.length 1000)&&(lenB 1000 names&&Zc 1000 ins)) with
  | false=>rw[e] at h;cases h
  | true=>
   rw[e] at h;cases h;simp only[AzP] at e;obtain⟨⟨q1,q2⟩,q3,i⟩:=e;have q1:=AxV q1;have q2:=AxV q2;have q3:=Ya q3;have i:=Wc i;rw[SN];refine⟨CX (mK W0 names ins (by omega) (by omega) (λs e=>by have:=q3 s e;omega) (λx p=>by have:=i x p;omega)) rfl λk q r g l=>?_,?_⟩
   .match k with
    | 0=>
     simp at g l;subst g l;refine .agg _ _ rfl λj c t f d=>?_
     match j with
     | 0=>simp at f d;subst f d;exact(Eu B3 _ _ m).1
     | 1=>simp at f d;subst f d;exact(Eu Vl _ _ o).1
     | j+2=>simp at f
    | k+1=>simp at g
   .exact sV _ _
 .cases h
end Go.Ir
