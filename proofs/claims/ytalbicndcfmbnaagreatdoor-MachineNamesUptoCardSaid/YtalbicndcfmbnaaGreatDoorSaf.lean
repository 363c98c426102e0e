/- Parts of the proof: the calculus of walks, contracts of functions, plain laws; each theorem states its conditions. -/
import Derived.Test.YtalbicndcfmbnaaGreatDoorSae
import Derived.Test.YtalbicndcfmbnaaGreatDoorRows
import Derived.ChangeArms
import Derived.Carry
import Derived.ChangeSame
import Derived.OpenShut
import Derived.Test.YtalbicndcfmbnaaGreatDoorChecked
set_option linter.all false
open Nat (reduceEqDiff)
namespace Go.Ir
open Go.Proofs
variable(W0:World)
theorem nW(L:BV)(u c:Aa):J0 L u c=match EV u c (L.units.foldl OF []) with
  | some p=>some p
  | none=>EV u [111,116,104,101,114] (L.units.foldl OF []):=by
 unfold J0;rw[M8,M8];rfl
theorem Abg(L:BV)(u c:Aa)(g:L.units.length<=2^20):Al π W0 211 [L.enc,.s u,.s c] [] (.tup [.s ((J0 L u c).getD []),.b (J0 L u c).isSome]) []:=by
 have hp:=Aip W0 L g;generalize hS:J0 L u c=S;rw[nW] at hS;generalize L.units.foldl OF []=M at *;rw[BV.enc_eq] at hp⊢;have d:=TG u c M 0;have f:=TG u [111,116,104,101,114] M 0;unfold UK at d f;refine Ae (vs:=[.s (S.getD []),.b S.isSome]) AhU (by simp) (by simp) λn0 a=>?_;clear a;simp only[push_cast,seval,reduceEqDiff];intro k1;refine KZ hp (λi e h=>by simp[lk] at h) ?_;rw[GQ];rcases d with⟨i,p,h1,h2⟩|⟨h1,h2⟩
 .rw[h1] at hS;simp only at hS;subst hS;simp only[push_cast,seval,reduceEqDiff,h2]
  repeat' (first|(((first|apply Ab|apply Ag|apply Ah)<;>intro _h)<;>simp only[push_cast,seval,reduceEqDiff,_h,h2])|(refine Ar (by omega) ?_;simp only[push_cast,seval,reduceEqDiff,h2])|intro _)
  refine Ad ?_;simp[push_cast,get]
 .rw[h1] at hS;simp only at hS;rcases f with⟨i,p,h3,h4⟩|⟨h3,h4⟩
  .rw[h3] at hS;subst hS;simp only[push_cast,seval,reduceEqDiff,h2,h4]
   repeat' (first|(((first|apply Ab|apply Ag|apply Ah)<;>intro _h)<;>simp only[push_cast,seval,reduceEqDiff,_h,h2,h4])|(refine Ar (by omega) ?_;simp only[push_cast,seval,reduceEqDiff,h2,h4])|intro _)
   refine Ad ?_;simp[push_cast,get]
  .rw[h3] at hS;subst hS;simp only[push_cast,seval,reduceEqDiff,h2,h4]
   repeat' (first|(((first|apply Ab|apply Ag|apply Ah)<;>intro _h)<;>simp only[push_cast,seval,reduceEqDiff,_h,h2,h4])|(refine Ar (by omega) ?_;simp only[push_cast,seval,reduceEqDiff,h2,h4])|intro _)
   refine Ad ?_;simp[push_cast,get]
structure VQ (L:BV):Prop where
 n:L.units.length<=2^20
 p:∀u∈L.units,u.pat.length<=2^16
theorem J6{u c:Aa}:∀{l:List Dd} {p:Aa},K6 u c l=some p->∃x∈l,x.pat=p
 | [],p,h=>by cases h
 | x::l,p,h=>by
  rw[K6] at h;split at h
  .grind
  .obtain⟨y,a,b⟩:=J6 h;grind
theorem NL{L:BV}(b:VQ L){u c p:Aa}(h:J0 L u c=some p):p.length<=2^16:=by
 unfold J0 at h;split at h
 .rename_i q d;cases h;obtain⟨x,a,rfl⟩:=J6 d;exact b.p x a
 .obtain⟨x,a,rfl⟩:=J6 h;exact b.p x a
theorem Ia(L:BV)(a:KB L)(n st:Aa)(b:n.length<=2^30):(DG L n st).1.length<=2^23+2^19:=by
 have l1:=DF L a (CQ n).1 (Ki n);have d:=DF L a (CP n).1 (JK n);have e:=a.perc;unfold DG;cases hB:DK n with
 | false=>simp
 | true=>have c:=DF L a n (PE hB);grind
def Fi(L:BV)(u n:Aa):Aa×Int:=
 if(CB L.card n).2==0 then
  match J0 L u (CB L.card n).1 with
  | none=>([],18)
  | some p=>if OT p 1 then(if(DG L n []).2==0 then(Lib.replace p [123,48,125] (DG L n []).1 1,0) else([],(DG L n []).2)) else([],4)
 else([],(CB L.card n).2)
theorem QL(s p t:Aa):(Lib.replace s p t 1).length<=s.length+t.length:=by
 have c:∀s,(Lib.replaceK p t 1 s).length<=s.length+t.length:=by
  intro s;unfold Lib.replaceK;split
  .omega
  .rename_i d;rcases Ip s p with b|⟨b,e⟩
   .grind
   .unfold Lib.replaceK;grind
 unfold Lib.replace Lib.replaceNum;split
 .omega
 .split
  .rename_i h;have a:Lib.count s p=0:=by omega
   rw[a];unfold Lib.replaceK;omega
  .exact c s
theorem aG(t:Bj W0)(L:BV)(r:KB L)(v:VQ L)(u n:Aa)(h:n.length<=2^30)(z:A7 L.card<=2^30):Al π W0 157 [L.enc,.s u,.s n] [] (.tup [.s (Fi L u n).1,.i .i64 (Fi L u n).2]) []:=by
 have e:=UL W0 L.card n h z;have g:=Abg W0 L u (CB L.card n).1 v.n;have f:=Rh W0 L r n [] h;have j:=Ia L r n [] h;have m:=@NL L v u (CB L.card n).1;generalize hS:Fi L u n=S;unfold Fi at hS;generalize CB L.card n=C at *;generalize DG L n []=N at *;generalize J0 L u C.1=U at *;rw[BV.enc_eq] at *;obtain⟨B,q⟩:=C;obtain⟨o,x⟩:=N;simp only at *;cases b:(q==0) with
 | false=>
  rw[b] at hS;simp only[AcJ,if_false] at hS;subst hS;refine Ae (vs:=[.s [],.i .i64 q]) L7 (by simp) (by simp) λn0 a=>?_;clear a;simp only[push_cast,seval,reduceEqDiff,bne,b];have _h:=trivial;repeat' (first|(first|((first|apply Ab|apply Ag|apply Ah)<;>intro _h)|refine Ac e ?_|refine Ar (by omega) ?_)<;>simp only[push_cast,seval,reduceEqDiff,_h,bne,b]|intro _)
  refine Ad ?_;simp[push_cast,get]
 | true=>
  rw[b] at hS;simp only[if_true] at hS;cases U with
  | none=>
   simp only at hS;subst hS;refine Ae (vs:=[.s [],.i .i64 18]) L7 (by simp) (by simp) λn0 a=>?_;clear a;simp only[push_cast,seval,reduceEqDiff,bne,b,Option.getD_none,Ayb];have _h:=trivial;repeat' (first|(first|((first|apply Ab|apply Ag|apply Ah)<;>intro _h)|refine Ac e ?_|refine Ac g ?_|refine Ar (by omega) ?_)<;>simp only[push_cast,seval,reduceEqDiff,_h,bne,b,Option.getD_none,Ayb]|intro _)
   refine Ad ?_;simp[push_cast,get]
  | some p=>
   have k:=m rfl;have c:=Ov W0 t p 1 (by omega) (by omega) (by omega);have A:=QL p [123,48,125] o;have l:=M9 W0 t p [123,48,125] o 1 (by omega) (by simp) (AmI (AzZ k j) (by omega)) (by unfold AG;omega);simp only at hS;cases hB:OT p 1 with
   | false=>
    rw[hB] at hS c;simp only[AcJ,if_false] at hS;subst hS;refine Ae (vs:=[.s [],.i .i64 4]) L7 (by simp) (by simp) λn0 a=>?_;clear a;simp only[push_cast,seval,reduceEqDiff,bne,b,Option.getD_some,AtG];have _h:=trivial;repeat' (first|(first|((first|apply Ab|apply Ag|apply Ah)<;>intro _h)|refine Ac e ?_|refine Ac g ?_|refine Ac c ?_|refine Ar (by omega) ?_)<;>simp only[push_cast,seval,reduceEqDiff,_h,bne,b,Option.getD_some,AtG]|intro _)
    refine Ad ?_;simp[push_cast,get]
   | true=>
    rw[hB] at hS c;simp only[if_true] at hS;cases d:(x==0) with
    | false=>
     rw[d] at hS;simp only[AcJ,if_false] at hS;subst hS;refine Ae (vs:=[.s [],.i .i64 x]) L7 (by simp) (by simp) λn0 a=>?_;clear a;simp only[push_cast,seval,reduceEqDiff,bne,b,d,Option.getD_some,AtG];have _h:=trivial;repeat' (first|(first|((first|apply Ab|apply Ag|apply Ah)<;>intro _h)|refine Ac e ?_|refine Ac g ?_|refine Ac c ?_|refine Ac f ?_|refine Ar (by omega) ?_)<;>simp only[push_cast,seval,reduceEqDiff,_h,bne,b,d,Option.getD_some,AtG]|intro _)
     refine Ad ?_;simp[push_cast,get]
    | true=>
     rw[d] at hS;simp only[if_true] at hS;subst hS;generalize Lib.replace p [123,48,125] o 1=y at *;refine Ae (vs:=[.s y,.i .i64 0]) L7 (by simp) (by simp) λn0 a=>?_;clear a;simp only[push_cast,seval,reduceEqDiff,bne,b,d,Option.getD_some,AtG];have _h:=trivial;repeat' (first|(first|((first|apply Ab|apply Ag|apply Ah)<;>intro _h)|refine Ac e ?_|refine Ac g ?_|refine Ac c ?_|refine Ac f ?_|refine Ac l ?_|refine Ar (by omega) ?_)<;>simp only[push_cast,seval,reduceEqDiff,_h,bne,b,d,Option.getD_some,AtG]|intro _)
     refine Ad ?_;simp[push_cast,get]
def R0(k t:Int):Bool:=if k==2 then !(t==4) else if k==5 then t==3 else if k==6 then t==4 else t==2
theorem AkT(k:Int)(v:B4):Al π W0 156 [.i .i64 k,v.enc] [] (.b (R0 k v.type)) []:=by
 generalize hS:R0 k v.type=S;unfold R0 at hS;rw[B4.enc_eq];refine Ae (vs:=[.b S]) Ajy (by simp) (by simp) λn0 e=>?_;clear e;simp only[push_cast,seval,reduceEqDiff,bne]
 all_goals (cases a:(k==2)<;>cases c:(k==5)<;>cases d:(k==6))
 all_goals ((try simp only[a,c,d,bq,if_true,if_false,Int.reduceBEq,reduceCtorEq] at hS);subst hS)
 all_goals (try simp only[push_cast,seval,reduceEqDiff,a,c,d,bne])
 all_goals (repeat' (first|((first|refine Ar (by omega) ?_);(try simp only[push_cast,seval,reduceEqDiff,a,c,d,bne]))|intro _))
 all_goals (first|(refine Af ?_;simp[get];done)|(refine Ad ?_;simp[push_cast,get];done)|skip)
def Ni(L:BV)(k:Int)(st:Aa)(v:B4):Aa×Int:=
 if k<2||k>6 then([],1) else if !(IJ v&&R0 k v.type) then([],11)
 else if k==3 then DG L v.text st else if k==4 then Fi L st v.text else if k==5 then Eu L st v.date else if k==6 then EX L st v.list
 else if !(v.type==3) then(v.text,0) else if Dj v.date==[] then([],2) else(Dj v.date,0)
structure XW (L:BV) (c:Nat):Prop where
 sym:KB L
 uni:VQ L
 lst:AfS L
 dat:rQ L c
 card:A7 L.card<=2^30
structure Q7 (v:B4):Prop where
 text:v.text.length<=2^30
 len:v.list.length<=2^30
 list:∀s∈v.list,s.length<=2^20
set_option maxHeartbeats 4000000 in
theorem Um(z:Bj W0)(A:By W0)(L:BV)(c:Nat)(m:XW L c)(x:Aw)(v:B4)(o:Q7 v)(K:x.style.length<=2^24):Al π W0 108 [L.enc,x.enc,v.enc] [] (.tup [.s (Ni L x.kind x.style v).1,.i .i64 (Ni L x.kind x.style v).2]) []:=by
 have p:=Oi W0 v o.text;have q:=AkT W0 x.kind v;have r:=Rh W0 L m.sym v.text x.style o.text;have t:=aG W0 z L m.sym m.uni x.style v.text o.text m.card;have u:=ZZ W0 A L c m.dat x.style v.date K;have y:=Yp W0 z L m.lst x.style v.list o.len o.list;have J:=(LR W0 A v.date).1;generalize hS:Ni L x.kind x.style v=S;unfold Ni at hS;rw[B4.enc_eq] at p q⊢;rw[BV.enc_eq] at r t u y⊢;rw[Aw.enc_eq];generalize x.kind=k at *;generalize x.style=st at *;generalize Dj v.date=B at *;generalize DG L v.text st=E at *;generalize Fi L st v.text=F at *;generalize Eu L st v.date=G at *;generalize EX L st v.list=I at *;obtain⟨N,V⟩:=E;obtain⟨O,X⟩:=F;obtain⟨R,Y⟩:=G;obtain⟨U,Z⟩:=I;simp only at r t u y;generalize IJ v=D at *;generalize M:R0 k v.type=C at *;cases b:decide (k<2) with
 | true=>
  rw[b] at hS;simp only[Az0,if_true] at hS;subst hS;refine Ae (vs:=[.s [],.i .i64 1]) LC (by simp) (by simp) λn0 a=>?_;clear a;simp only[push_cast,seval,reduceEqDiff,b]
  repeat' (first|(((first|apply Ab|apply Ag|apply Ah)<;>intro _h)<;>simp only[push_cast,seval,reduceEqDiff,_h,b])|(refine Ar (by omega) ?_;simp only[push_cast,seval,reduceEqDiff,b])|intro _)
  refine Ad ?_;simp[push_cast,get]
 | false=>
  cases d:decide (k>6) with
  | true=>
   rw[b,d] at hS;simp only[Ayr,if_true] at hS;subst hS;refine Ae (vs:=[.s [],.i .i64 1]) LC (by simp) (by simp) λn0 a=>?_;clear a;simp only[push_cast,seval,reduceEqDiff,b,d]
   repeat' (first|(((first|apply Ab|apply Ag|apply Ah)<;>intro _h)<;>simp only[push_cast,seval,reduceEqDiff,_h,b,d])|(refine Ar (by omega) ?_;simp only[push_cast,seval,reduceEqDiff,b,d])|intro _)
   refine Ad ?_;simp[push_cast,get]
  | false=>
   rw[b,d] at hS;simp only[AuK,AcJ,if_false] at hS;cases D with
   | false=>
    simp only[AxP,Ave,if_true] at hS;subst hS;refine Ae (vs:=[.s [],.i .i64 11]) LC (by simp) (by simp) λn0 a=>?_;clear a;simp only[push_cast,seval,reduceEqDiff,b,d];have _h:=trivial;repeat' (first|(first|((first|apply Ab|apply Ag|apply Ah)<;>intro _h)|refine Ac p ?_|refine Ar (by omega) ?_)<;>simp only[push_cast,seval,reduceEqDiff,_h,b,d]|intro _)
    refine Ad ?_;simp[push_cast,get]
   | true=>
    cases C with
    | false=>
     simp only[Azp,Ave,if_true] at hS;subst hS;refine Ae (vs:=[.s [],.i .i64 11]) LC (by simp) (by simp) λn0 a=>?_;clear a;simp only[push_cast,seval,reduceEqDiff,b,d];have _h:=trivial;repeat' (first|(first|((first|apply Ab|apply Ag|apply Ah)<;>intro _h)|refine Ac p ?_|refine Ac q ?_|refine Ar (by omega) ?_)<;>simp only[push_cast,seval,reduceEqDiff,_h,b,d]|intro _)
     refine Ad ?_;simp[push_cast,get]
    | true=>
     simp only[AwW,AuF,AcJ,if_false] at hS;refine Ae (vs:=[.s S.1,.i .i64 S.2]) LC (by simp) (by simp) λn0 a=>?_;clear a;simp only[push_cast,seval,reduceEqDiff,b,d,bne]
     all_goals (cases e:(k==3)<;>cases f:(k==4)<;>cases g:(k==5)<;>cases h:(k==6)<;>cases j:(v.type==3)<;>cases l:(B==[]))
     all_goals ((try simp only[e,f,g,h,j,l,bq,if_true,if_false,Int.reduceBEq,reduceCtorEq] at hS);subst hS)
     all_goals (try simp only[push_cast,seval,reduceEqDiff,e,f,g,h,j,l,b,d,bne])
     all_goals (repeat' (first|((first|refine Ac (by exact p) ?_|refine Ac (by exact q) ?_|refine Ac (by exact r) ?_|refine Ac (by exact t) ?_|refine Ac (by exact u) ?_|refine Ac (by exact y) ?_|refine Ac (by exact J) ?_|refine Ar (by omega) ?_);(try simp only[push_cast,seval,reduceEqDiff,e,f,g,h,j,l,b,d,bne]))|intro _))
     all_goals (first|(refine Af ?_;simp[get];done)|(refine Ad ?_;simp[push_cast,get];done)|skip)
end Go.Ir

namespace Go.Ir
open Go.Proofs Go.RowKit
variable(W0:World)
def Aah{a:Type}(f:V->Option a):List V->Option (List a)
 | []=>some []
 | v::vs=>match f v with
  | some w=>match Aah f vs with
   | some b=>some (w::b)
   | none=>none
  | none=>none
theorem NN{d:Type}{f:V->Option d}:∀{l:List V} {a:List d},Aah f l=some a->l.length=a.length/\∀(k:Nat) (c:V) (e:d),l[k]?=some c->a[k]?=some e->f c=some e
 | [],a,h=>by cases h;grind
 | v::vs,a,h=>by
  rw[Aah] at h;split at h
  .rename_i w j;split at h
   .rename_i m b;cases h;obtain⟨g,i⟩:=NN b;grind
   .cases h
  .cases h
def Md{a:Type}(f:V->Option a):V->Option (List a)
 | .sl es=>Aah f es
 | .nil=>some []
 | _=>none
def GC{a:Type}(f:V->Option a)(enc:a->V):Prop:=∀v x,f v=some x->J2 (λ_=>none) v (enc x)/\(cells (enc x)).length=(cells v).length/\v.ok=true/\(enc x).ok=true
theorem Ex{i:Type}{f:V->Option i}{enc:i->V}(g:GC f enc):GC (Md f) λl=>.sl (l.map enc):=by
 intro v l h;cases v with
 | sl es=>
  obtain⟨m,e⟩:=NN (f:=f) h;refine⟨.sl _ _ (by simpa using m) (λk c j b a=>?_) (λk c j b a=>?_),rfl,rfl,rfl⟩
  .rw[AgQ] at a;obtain⟨x,d,rfl⟩:=AdV.1 a;exact(g _ _ (e k c x b d)).1
  .rw[AgQ] at a;obtain⟨x,d,rfl⟩:=AdV.1 a;exact(g _ _ (e k c x b d)).2
 | nil=>cases h;exact⟨.nil,rfl,rfl,rfl⟩
 | _=>cases h
def Cx:V->Option Aa
 | .s l=>some l
 | _=>none
theorem B0:GC Cx V.s:=by intro v l h;cases v<;>cases h;exact⟨.refl _,rfl,rfl,rfl⟩
def F1:V->Option Int
 | .i .i64 n=>some n
 | _=>none
theorem CY:GC F1 (V.i .i64):=by
 intro v n h;unfold F1 at h;split at h
 .cases h;exact⟨.refl _,rfl,rfl,rfl⟩
 .cases h
def Ah1(f:V->Option (List Aw)):V->Option Ea
 | .agg [k,ps]=>match Cx k with
  | some k=>match f ps with
   | some ps=>some (k,ps)
   | none=>none
  | none=>none
 | _=>none
def mP:Nat->V->Option Aw
 | 0=>λ_=>none
 | n+1=>λv=>match v with
  | .agg [a,t,m,st,cs,ps]=>(F1 a).bind λa=>(Cx t).bind λt=>(Cx m).bind λm=>(Cx st).bind λst=>(Md (Ah1 (Md (mP n))) cs).bind λcs=>(Md (mP n) ps).bind λps=>some ⟨a,t,m,st,cs,ps⟩
  | _=>none
theorem AbQ{f:V->Option (List Aw)}(e:GC f λl=>.sl (l.map Aw.enc)):GC (Ah1 f) Ea.enc:=by
 intro v c h;unfold Ah1 at h;split at h
 .rename_i k ps;split at h
  .rename_i q g;split at h
   .rename_i i a;cases h;have o:=B0 _ _ g;have p:=e _ _ a;rw[Ea.enc_eq];refine⟨.agg _ _ rfl λj c m b d=>?_,rfl,rfl,rfl⟩
    match j with
    | 0=>grind
    | 1=>grind
    | j+2=>simp at b
   .cases h
  .cases h
 .cases h
theorem V9:∀n,GC (mP n) Aw.enc
 | 0=>λv x h=>by cases h
 | n+1=>by
  intro v p h;have a:=Ex (V9 n);have b:=Ex (AbQ a);unfold mP at h;split at h
  .obtain⟨B,d,h⟩:=AdK.1 h;obtain⟨t,e,h⟩:=AdK.1 h;obtain⟨m,f,h⟩:=AdK.1 h;obtain⟨st,g,h⟩:=AdK.1 h;obtain⟨cs,i,h⟩:=AdK.1 h;obtain⟨ps,k,h⟩:=AdK.1 h;cases h;have r:=CY _ _ d;have s:=B0 _ _ e;have u:=B0 _ _ f;have y:=B0 _ _ g;have z:=b _ _ i;have A:=a _ _ k;rw[Aw.enc_eq];refine⟨.agg _ _ rfl λj c q l o=>?_,rfl,rfl,rfl⟩
   match j with
   | 0=>grind
   | 1=>grind
   | 2=>grind
   | 3=>grind
   | 4=>simp_all
   | 5=>simp_all
   | j+6=>simp at l
  .cases h
def Pd:List V->Option V
 | [v]=>(Md (mP 40) v).bind λps=>bif Nat.ble (Ei ps) 1000000 then some (.i .i64 (CL ps)) else none
 | _=>none
theorem kY:AX π W0 (onP 96 Pd):=mU λargs v h=>by
 unfold Pd at h;split at h
 .rename_i x;obtain⟨ps,f,c⟩:=AdK.1 h;cases e:Nat.ble (Ei ps) 1000000 with
  | false=>rw[e] at c;cases c
  | true=>
   rw[e] at c;cases c;have i:=Aym e;refine⟨CX (rK W0 _ ps (A0j _) (by omega)) rfl λk a g d b=>?_,rfl⟩
   match k with
   | 0=>simp at d b;subst d b;exact(Ex (V9 40) _ _ f).1
   | k+1=>simp at d
 .cases h
end Go.Ir

namespace Go.Ir
open Go.Proofs
variable(W0:World)
def HA(L:BV)(k:Int):List AB:=if k==7 then L.card else if k==8 then L.ord else[]
def P5(L:BV)(k:Int):V:=if k==7 then .sl (L.card.map AB.enc) else if k==8 then .sl (L.ord.map AB.enc) else .nil
theorem Wz(L:BV)(k:Int):J2 (λ_=>none) (P5 L k) (.sl ((HA L k).map AB.enc)):=by
 unfold P5 HA;split
 .exact .refl _
 .split
  .exact .refl _
  .exact .nil
theorem Nx(L:BV)(k:Int):Al π W0 153 [L.enc,.i .i64 k] [] (P5 L k) []:=by
 generalize hS:P5 L k=S;unfold P5 at hS;rw[BV.enc_eq];refine Ae (vs:=[S]) Am9 (by simp) (by simp) λn0 a=>?_;clear a;simp only[push_cast,reduceEqDiff]
 repeat' (first|(((first|apply Ab|apply Ag|apply Ah)<;>intro _h)<;>(simp only[push_cast,reduceEqDiff];try (have _g:=_h;simp at _g)))|intro _)
 all_goals (simp only[*] at hS;subst hS;exact Af (by simp[get]))
def Mw(k:Int)(v:B4):Bool:=if k==9 then IJ v&&v.type==1 else IJ v&&v.type==2
theorem Air(k:Int)(v:B4)(c:v.text.length<=2^30):Al π W0 154 [.i .i64 k,v.enc] [] (.b (Mw k v)) []:=by
 have hp:=Oi W0 v c;generalize hS:Mw k v=S;unfold Mw at hS;generalize IJ v=A at *;rw[B4.enc_eq] at hp⊢;refine Ae (vs:=[.b S]) Aky (by simp) (by simp) λn0 a=>?_;clear a;simp only[push_cast,reduceEqDiff];have _h:=trivial;repeat' (first|(first|((first|apply Ab|apply Ag|apply Ah)<;>intro _h)|refine Ac hp ?_)<;>simp only[push_cast,reduceEqDiff,_h]|intro _)
 all_goals (simp only[*] at hS;subst hS;exact Af (by simp[get]))
def Px:Aa:=[111,116,104,101,114]
def FSz(L:BV)(k:Int)(v:B4):List Aa:=if k==9 then[v.text,Px] else[61::v.text,(CB (HA L k) v.text).1,Px]
theorem mB(L:BV)(k:Int)(v:B4)(q:v.text.length<=2^29)(p:A7 L.card+A7 L.ord<=2^24):Al π W0 209 [L.enc,.i .i64 k,v.enc] [] (.sl ((FSz L k v).map V.s)) []:=by
 have f:=Nx W0 L k;have h:A7 (HA L k)<=2^30:=by
  unfold HA;split
  .omega
  .split
   .omega
   .simp[A7]
 have g:Al π W0 210 [P5 L k,.s v.text] [] (.tup [.s (CB (HA L k) v.text).1,.i .i64 (CB (HA L k) v.text).2]) []:=by
  refine CX (UL W0 (HA L k) v.text (by omega) h) rfl λj a o c b=>?_
  match j with
  | 0=>simp at c b;subst c b;exact Wz L k
  | 1=>simp at c b;subst c b;exact .refl _
  | j+2=>simp at c
 generalize hS:FSz L k v=S;unfold FSz at hS;generalize(CB (HA L k) v.text).1=l at *;generalize(CB (HA L k) v.text).2=m at *;generalize P5 L k=R at *;rw[BV.enc_eq] at f⊢;rw[B4.enc_eq];have e:1+v.text.length<=AG:=by unfold AG;omega
 refine Ae (vs:=[.sl (S.map V.s)]) AlA (by simp) (by simp) λn0 d=>?_;clear d;simp only[push_cast,reduceEqDiff];have _h:=trivial;repeat' (first|(first|((first|apply Ab|apply Ag|apply Ah)<;>intro _h)|refine Ac f ?_|refine Ac g ?_)<;>simp only[push_cast,reduceEqDiff,eq_true e]|intro _)
 all_goals (simp only[*] at hS;subst hS)
 .exact Af (by simp[get,Px])
 .exact Af (by simp[get,Px])
def DA(a:List Aa):List Aa->Int
 | []=>-1
 | w::b=>if B8 (λx=>w==x) a<0 then DA a b else B8 (λx=>w==x) a
theorem NV(a:List Aa)(b:List Aa):-1<=DA a b/\DA a b<a.length:=by
 induction b with
 | nil=>simp only[DA];omega
 | cons w b c=>
  rw[DA];split
  .exact c
  .have:=Yk (λx=>w==x) a;omega
theorem ZJ(L:BV)(k:Int)(a:List Aa)(v:B4)(r:v.text.length<=2^29)(o:A7 L.card+A7 L.ord<=2^24)(t:a.length<=2^30) :
  Al π W0 155 [L.enc,.i .i64 k,.sl (a.map V.s),v.enc] [] (.i .i64 (DA a (FSz L k v))) []:=by
 have d:=mB W0 L k v r o;have e:=λw:Aa=>Is W0 sP a w (by omega);generalize hS:DA a (FSz L k v)=S;have l:(FSz L k v).length<=3:=by unfold FSz;split<;>simp
 generalize FSz L k v=W at *;rw[BV.enc_eq] at d⊢;rw[B4.enc_eq] at d⊢;refine Ae (vs:=[.i .i64 S]) Amc (by simp) (by simp) λn0 f=>?_;clear f;simp only[push_cast,reduceEqDiff];have _h:=trivial;repeat' (first|(first|((first|apply Ab|apply Ag|apply Ah)<;>intro _h)|refine Ac d ?_)<;>simp only[push_cast,reduceEqDiff]|intro _)
 obtain⟨τ,j⟩:∃τ:Aj,τ=[]:=⟨[],rfl⟩;refine Am W.length (Inv:=λm st=>∃dn b n,W=dn++b/\m=b.length/\DA a b=S/\st=⟨[(2,.sl (a.map V.s)),(15,.sl (W.map V.s)),(16,.i .i64 W.length),(17,.i .i64 dn.length)],τ,n⟩) ⟨_,by rw[j];exact Ak.drop (λ_ _ h=>by cases h) (A0h _),[],W,_,rfl,rfl,hS,rfl⟩ ?_;clear hS d;rintro m _ ⟨dn,b,n,g,rfl,c,rfl⟩;cases b with
 | nil=>rw[DA] at c;subst c;simp only[push_cast,reduceEqDiff,g];intros;exact Af (by simp[get])
 | cons w b=>
  have p:=AL g;rw[DA] at c;have q:=e w;generalize B8 (λx=>w==x) a=I at *;simp only[push_cast,reduceEqDiff,g];have _h:=trivial;repeat' (first|(first|((first|apply Ab|apply Ag|apply Ah)<;>intro _h)|refine Ac q ?_)<;>simp only[push_cast,reduceEqDiff,Ai w (dn:=dn) (by omega)]|intro _)
  .have hI:I>=0:=of_decide_eq_true _h;rw[if_neg (by omega)] at c;subst c;exact Af (by simp[get])
  .have hI:¬I>=0:=of_decide_eq_false _h;rw[if_pos (by omega)] at c;exact⟨_,_,A0j _,Ak.refl,dn++[w],b,_,by simp,rfl,c,rfl⟩
inductive Ev where
 | pc (s:Aa)
 | er (e:Int)
def AeC(iso:Bool)(r:Aa×Int):Ev:=if r.2==0 then .pc (if iso then NX r.1 else r.1) else .er r.2
def IQ(st:Aa×Int):Ev->Aa×Int
 | .pc s=>(st.1++s,if((st.1++s).length:Int)>20000 then 6 else st.2)
 | .er e=>(st.1,e)
def ZQ(st:Aa×Int):Prop:=(st.2==0)=true->st.1.length<=20000
theorem YL{st:Aa×Int}(h:st.1.length<=20000)(ev:Ev):ZQ (IQ st ev):=by
 cases ev with
 | pc s=>intro a;unfold IQ at a⊢;grind
 | er e=>intro _;exact h
structure XOk (X:WX) (c:Nat):Prop where
 L:XW X.L c
 rules:A7 X.L.card+A7 X.L.ord<=2^24
 vals:∀v∈X.vs,Q7 v/\v.text.length<=2^24
 n:X.vs.length<=2^40
 dlen:∀sk d,(Eu X.L sk d).1.length<=2^24
theorem Ql(L:BV)(a:KB L)(b:VQ L)(u n:Aa)(c:n.length<=2^30):(Fi L u n).1.length<=2^16+(2^23+2^19):=by
 have d:=Ia L a n [] c;unfold Fi;split
 .split
  .simp
  .rename_i p hp;have:=NL b hp;have:=QL p [123,48,125] (DG L n []).1;grind
 .simp
theorem Qy(L:BV)(st:Aa)(l:List Aa):(EX L st l).1.length<=20000:=by unfold EX;grind
theorem cF(b:By W0)(X:WX)(c:Nat)(a:XOk X c)(k:Int)(st:Aa)(v:B4)(d:v∈X.vs):(Ni X.L k st v).1.length<=2^24:=by obtain⟨f,v2⟩:=a.vals v d;have e:=Ia X.L a.L.sym v.text st (by omega);have a2:=Ql X.L a.L.sym a.L.uni st v.text (by omega);have a3:=a.dlen st v.date;have a4:=Qy X.L st v.list;have a5:=(LR W0 b v.date).2;unfold Ni;grind
theorem AcU{pre σ:Aj}(h:∀q∈pre,lk σ q.1=none):∀i e,lk σ i=some e->lk (pre++σ) i=some e:=by
 induction pre with
 | nil=>intro i e h;exact h
 | cons a pre g=>intro i e f;obtain⟨c,b⟩:=a;have d:=h (c,b) (by simp);show(if c=i then some b else lk (pre++σ) i)=some e;grind
end Go.Ir

namespace Go.Ir
end Go.Ir

namespace Go.Ir
open Go.Proofs
variable(W0:World)
theorem Aae(c:UInt8):DI c=Bc.contains c:=by
 have h:∀n:_root_.Fin 256,DI (UInt8.ofNat n.val)=Bc.contains (UInt8.ofNat n.val):=by decide +kernel
 have:=h ⟨c.toNat,c.toNat_lt⟩;simpa using this
theorem ZD(p:Aa):Lib.trimLeftS p Bc=p.drop (p.takeWhile DI).length/\p.length-(Lib.trimLeftS p Bc).length=(p.takeWhile DI).length:=by
 have a:Lib.trimLeftS p Bc=p.dropWhile DI:=by unfold Lib.trimLeftS;congr 1;funext c;rw[Aae]
 have b:p.takeWhile DI++p.dropWhile DI=p:=List.takeWhile_append_dropWhile;grind
theorem o6(o:By W0)(x:ME)(c:Nat)(s:Nv x c):∀(n:Nat) (p:Aa) (out g:List Aa),Cr n p out=some g->out.length<=g.length/\∀(m:Nat) (a:Aa),(BS x m p a).1.length<=a.length+p.length+(g.length-out.length)*c:=by
 intro n
 induction n with
 | zero=>intro p out g h;simp[Cr] at h
 | succ n j=>
  intro p out g h;rw[Cr] at h;obtain⟨t,t2⟩:=ZD p;rw[t2,t] at h;split at h
  .rename_i d;cases h;refine⟨A0h _,λm a=>?_⟩;cases m with
   | zero=>rw[BS];simp only;omega
   | succ m=>rw[BS,if_pos d];simp only;omega
  .rename_i d;have q:1<=p.length:=by grind
   have r:(p.takeWhile DI).length<=p.length:=(List.takeWhile_sublist _).length_le;generalize f:(p.takeWhile DI).length=k at *;split at h
   .rename_i l;have b:k=0:=by simp_all
    obtain⟨e,i2⟩:=j _ _ _ h;refine⟨e,λm a=>?_⟩;cases m with
    | zero=>rw[BS];simp only;omega
    | succ m=>rw[BS,if_neg d,f,if_pos (by simp[b])];grind
   .rename_i l;have b:1<=k:=by grind
    split at h
    .obtain⟨e,i2⟩:=j _ _ _ h;rw[AgM,List.length_singleton] at e i2;refine⟨by omega,λm a=>?_⟩;have i:(g.length-out.length)*c=(g.length-(out.length+1))*c+c:=by rw[show g.length-out.length=(g.length-(out.length+1))+1 by omega,Nat.succ_mul]
     cases m with
     | zero=>rw[BS];simp only;omega
     | succ m=>have u:=MC W0 o x c s (p.take k);rw[BS,if_neg d,f,if_neg (by simp;omega)];grind
    .cases h
theorem RJ:∀(n:Nat) (p:Aa) (out g:List Aa),Cr n p out=some g->(∀f∈out,Fw f=true)->∀f∈g,Fw f=true:=by
 intro n
 induction n with
 | zero=>intro p out g h;simp[Cr] at h
 | succ n b=>intro p out g h a;rw[Cr] at h;grind
theorem Ul{f:Aa}(h:Fw f=true):f.take 1∈CF:=by unfold Fw EL at h;simp only[AzO,decide_eq_true_eq] at h;simp only[AmR,Ayf,or_false] at h;rcases h with rfl|rfl|rfl|rfl|rfl|rfl|rfl<;>decide
theorem O0{Q:List Aa}(f:Q.Pairwise (λx y=>x<=y))(a:(Lib.compact Q).length=Q.length):Q.Nodup:=by
 unfold Lib.compact Lib.compactUpTo at a;rw[AcG] at a;have b:((List.range Q.length).filter (Lib.keeps Q.toArray)).length=(List.range Q.length).length:=by rw[a,List.length_range]
 rw[List.length_filter_eq_length_iff] at b;rw[List.pairwise_iff_getElem] at f;unfold List.Nodup;rw[List.pairwise_iff_getElem];intro i j h d c g;have e:=b j (by simpa using d);unfold Lib.keeps at e;grind
theorem iM{p:Aa}(h:Z8 p=true):∃g,GD p=some g/\g.length<=4:=by
 have:∃l,Dx l p=true:=by unfold Z8 at h;simp only[Ay1] at h;grind
 obtain⟨l,h⟩:=this;unfold Dx at h;split at h
 .rename_i w g s d;simp only[A0g] at h;refine⟨g,d,?_⟩;have e:=h.2.1;unfold Gs at e;simp only[beq_iff_eq] at e;have k:(K0 (g.map λf=>f.take 1)).length=g.length:=by unfold K0;simp_all
  have o:=O0 (Q:=K0 (g.map λf=>f.take 1)) (by unfold K0;have:=List.pairwise_mergeSort (le:=fun(x y:Aa)=>decide (x<=y)) (λa b c q r=>by grind) (λa b=>by grind) (g.map λf=>f.take 1);simpa using this) (by rw[e,k]);have j:=bL o (b:=CF) λx i=>by unfold K0 at i;rw[List.mem_mergeSort] at i;obtain⟨f,m,rfl⟩:=AmO.1 i;unfold GD at d;exact Ul (RJ _ _ _ _ d (by simp) f m)
  rw[k] at j;exact j
 .cases h
theorem Rv(f:By W0)(L:BV)(c:Nat)(b:rQ L c)(h:c<=2^20)(m:Aa)(d:Int):(Eu L m d).1.length<=2^24:=by
 unfold Eu;cases i:DE d with
 | false=>simp
 | true=>
  obtain⟨q1,q2,q3,l,s,t⟩:=OQ i;have a:Nv (Km L d) c:=by
   have q:(d+25567).tmod 7<7:=Int.tmod_lt_of_pos _ (by omega);refine⟨?_,q3,l,?_,?_,b.c24,b.ml,b.dl⟩
   .show(Hf d).1.toNat<_;omega
   .show((Fz d).2+1).toNat<_;omega
   .show((d+25567).tmod 7).toNat<_;omega
  simp only[if_true];split
  .simp
  .split
   .split
    .rename_i p hp;split
     .rename_i j;obtain⟨g,e,o⟩:=iM j;unfold GD at e;have k:=(b.pt p (AfA hp)).1;have:=(o6 W0 f (Km L d) c a _ _ _ _ e).2 (p.pat.length+1) [];unfold Ic;have r:(g.length-0)*c<=4*2^20:=AzZ (by omega) h;grind
     .simp
    .simp
   .simp
theorem D8{a:Type}{f:a->Nat}:∀{l:List a} {x:a},x∈l->f x<=B6 f l
 | [],x,h=>by cases h
 | y::l,x,h=>by
  rw[B6];rcases AmR.1 h with rfl|h
  .omega
  .have:=D8 (f:=f) h;omega
theorem Adh(a b:Nat)(h:a+b<=40026):a*b<=2^29:=by
 have key:∀a k:Nat,2*a+k<=40026->a*(a+k)<=2^29:=by intro a k h;have c:(2*a+k)*(2*a+k)<=40026*40026:=AzZ h h;grind
 rcases Nat.le_total a b with c|c
 .obtain⟨k,rfl⟩:∃k,b=a+k:=⟨b-a,by omega⟩;exact key a k (by omega)
 .obtain⟨k,rfl⟩:∃k,a=b+k:=⟨a-b,by omega⟩;grind
theorem AkP(L:BV)(h:Na L<=40000)(hp:-9223372036854775808<=L.prim)(a:L.sec<9223372036854775808)(i:A7 L.card+A7 L.ord<=2^24):XW L (DU L.months+DU L.days+24)/\DU L.months+DU L.days+24<=2^20:=by
 have c:DU [L.tag,L.parent,L.dir,L.dec,L.grp,L.minus,L.perc]=Hu L.tag+(Hu L.parent+(Hu L.dir+(Hu L.dec+(Hu L.grp+(Hu L.minus+(Hu L.perc+0)))))):=rfl;unfold Na at h;rw[c] at h;unfold Hu at h;have l1:L.lists.length<=B6 CA.sz L.lists:=EB (λx=>by unfold CA.sz DU;simp only[B6,Hu];omega) _;have j:L.units.length<=B6 Dd.sz L.units:=EB (λx=>by unfold Dd.sz DU;simp only[B6,Hu];omega) _;have k:L.dates.length<=B6 CG.sz L.dates:=EB (λx=>by unfold CG.sz DU;simp only[B6,Hu];omega) _;have g:∀s∈L.months,s.length<=DU L.months:=λs a=>by have:=D8 (f:=Hu) a;unfold DU;unfold Hu at this⊢;omega
 have b:∀s∈L.days,s.length<=DU L.days:=λs a=>by have:=D8 (f:=Hu) a;unfold DU;unfold Hu at this⊢;omega
 refine⟨⟨⟨?_,?_,?_,?_,hp,a⟩,⟨by omega,λu d=>?_⟩,⟨by omega,λp hp=>?_⟩,⟨by omega,λs a=>?_,λs a=>?_,by omega,λp hp=>?_,λp hp=>?_⟩,by omega⟩,by omega⟩
 .omega
 .omega
 .omega
 .omega
 .have:=D8 (f:=Dd.sz) d;unfold Dd.sz DU at this;simp only[B6,Hu] at this;unfold Dd.sz DU at h;simp only[B6,Hu] at h;omega
 .have:=D8 (f:=CA.sz) hp;have e:CA.sz p=p.style.length+p.two.length+p.start.length+p.mid.length+p.fin.length+(CA.sz p-(p.style.length+p.two.length+p.start.length+p.mid.length+p.fin.length)):=by unfold CA.sz DU;simp only[B6,Hu];omega
  omega
 .have:=g s a;omega
 .have:=b s a;omega
 .have:=D8 (f:=CG.sz) hp;have e:p.skel.length+p.pat.length<=CG.sz p:=by unfold CG.sz DU;simp only[B6,Hu];omega
  omega
 .have:=D8 (f:=CG.sz) hp;have e:p.skel.length+p.pat.length<=CG.sz p:=by unfold CG.sz DU;simp only[B6,Hu];omega
  refine⟨by omega,Adh _ _ (by omega)⟩
end Go.Ir

namespace Go.Ir
open Go.Proofs Go.RowKit
variable(W0:World)
def IA(a:Type):V->Option (List a):=Md λ_=>none
theorem Ec{a:Type}(enc:a->V):GC (IA a) λl=>.sl (l.map enc):=Ex λv x h=>by cases h
def gM:V->Option BV
 | .agg [a,b,c,h,i,d,e,f,g,p,q,j,k,l,m,o]=>(Cx a).bind λa=>(Cx b).bind λb=>(Cx c).bind λc=>(IA AB h).bind λh=>(IA AB i).bind λi=>(Cx d).bind λd=>(Cx e).bind λe=>(Cx f).bind λf=>(Cx g).bind λg=>(F1 p).bind λp=>(F1 q).bind λq=>(IA CA j).bind λj=>(IA Dd k).bind λk=>(IA CG l).bind λl=>(IA Aa m).bind λm=>(IA Aa o).bind λo=>some ⟨a,b,c,h,i,d,e,f,g,p,q,j,k,l,m,o⟩
 | _=>none
theorem pL:GC gM BV.enc:=by
 intro v l h;unfold gM at h;split at h
 .obtain⟨a,x,h⟩:=AdK.1 h;obtain⟨b,y,h⟩:=AdK.1 h;obtain⟨c,z,h⟩:=AdK.1 h;obtain⟨J,A,h⟩:=AdK.1 h;obtain⟨K,B,h⟩:=AdK.1 h;obtain⟨d,C,h⟩:=AdK.1 h;obtain⟨e,D,h⟩:=AdK.1 h;obtain⟨f,E,h⟩:=AdK.1 h;obtain⟨g,F,h⟩:=AdK.1 h;obtain⟨p,G,h⟩:=AdK.1 h;obtain⟨q,m,h⟩:=AdK.1 h;obtain⟨L,o,h⟩:=AdK.1 h;obtain⟨M,r,h⟩:=AdK.1 h;obtain⟨N,s,h⟩:=AdK.1 h;obtain⟨O,t,h⟩:=AdK.1 h;obtain⟨R,u,h⟩:=AdK.1 h;cases h;rw[BV.enc_eq];refine⟨.agg _ _ rfl λj c I k i=>?_,rfl,rfl,rfl⟩
  match j with
  | 0=>simp at k i;subst k i;exact(B0 _ _ x).1
  | 1=>simp at k i;subst k i;exact(B0 _ _ y).1
  | 2=>simp at k i;subst k i;exact(B0 _ _ z).1
  | 3=>simp at k i;subst k i;exact(Ec _ _ _ A).1
  | 4=>simp at k i;subst k i;exact(Ec _ _ _ B).1
  | 5=>simp at k i;subst k i;exact(B0 _ _ C).1
  | 6=>simp at k i;subst k i;exact(B0 _ _ D).1
  | 7=>simp at k i;subst k i;exact(B0 _ _ E).1
  | 8=>simp at k i;subst k i;exact(B0 _ _ F).1
  | 9=>simp at k i;subst k i;exact(CY _ _ G).1
  | 10=>simp at k i;subst k i;exact(CY _ _ m).1
  | 11=>simp at k i;subst k i;exact(Ec _ _ _ o).1
  | 12=>simp at k i;subst k i;exact(Ec _ _ _ r).1
  | 13=>simp at k i;subst k i;exact(Ec _ _ _ s).1
  | 14=>simp at k i;subst k i;exact(Ec _ _ _ t).1
  | 15=>simp at k i;subst k i;exact(Ec _ _ _ u).1
  | j+16=>simp at k
 .cases h
def Uc:V->Option B4
 | .agg [a,b,c,d,e]=>(Cx a).bind λa=>(F1 b).bind λb=>(Cx c).bind λc=>(F1 d).bind λd=>(IA Aa e).bind λe=>some ⟨a,b,c,d,e⟩
 | _=>none
theorem aX:GC Uc B4.enc:=by
 intro v l h;unfold Uc at h;split at h
 .obtain⟨a,i,h⟩:=AdK.1 h;obtain⟨b,k,h⟩:=AdK.1 h;obtain⟨c,m,h⟩:=AdK.1 h;obtain⟨d,o,h⟩:=AdK.1 h;obtain⟨e,p,h⟩:=AdK.1 h;cases h;rw[B4.enc_eq];refine⟨.agg _ _ rfl λj c q g f=>?_,rfl,rfl,rfl⟩
  match j with
  | 0=>simp at g f;subst g f;exact(B0 _ _ i).1
  | 1=>simp at g f;subst g f;exact(CY _ _ k).1
  | 2=>simp at g f;subst g f;exact(B0 _ _ m).1
  | 3=>simp at g f;subst g f;exact(CY _ _ o).1
  | 4=>simp at g f;subst g f;exact(Ec _ _ _ p).1
  | j+5=>simp at g
 .cases h
def AsU(L:BV)(ps:List Aw)(vs:List B4):Bool:=
 Nat.ble (Na L) 40000&&(Nat.ble (A7 L.card+A7 L.ord) 1000000&&(decide (-9223372036854775808<=L.prim)&&(decide (L.sec<9223372036854775808)&&(Nat.ble (Ei ps) 1000000&&(Nat.ble vs.length 1000&&vs.all λv=>Nat.ble v.text.length 1000000&&v.list.isEmpty)))))
theorem dH(e:By W0)(L:BV)(vs:List B4)(iso:Bool)(h:Na L<=40000)(hp:-9223372036854775808<=L.prim)(g:L.sec<9223372036854775808)(b:A7 L.card+A7 L.ord<=2^24)(f:vs.length<=2^40)(i:∀v∈vs,Q7 v/\v.text.length<=2^24):XOk ⟨L,vs,iso⟩ (DU L.months+DU L.days+24):=by obtain⟨a,c⟩:=AkP L h hp g b;exact⟨a,b,i,f,λj d=>Rv W0 e L _ a.dat c j d⟩
end Go.Ir
section
set_option maxRecDepth 100000
namespace Go.Ir
open Go.Proofs
end Go.Ir
end
section
set_option maxRecDepth 1000000
namespace Go.Ir
open Go.Proofs
end Go.Ir
end
namespace Go.Ir
open Go.Proofs
variable{P:Program}{W0:World}{nt n:Nat}{Q:Exit→St→Prop}{env:A9}{σ:Aj}
end Go.Ir

namespace Go.Ir
open Go.Proofs
variable(W0:World)
theorem UQ:∀(l:List Aa) (n:Int),Re l n<=200->n<=200/\∀s∈l,s.length<=200
 | [],n,h=>⟨h,λs a=>by cases a⟩
 | x::r,n,h=>by
  rw[Re] at h;obtain⟨c,b⟩:=UQ r _ h;refine⟨by omega,λs a=>?_⟩;rcases AmR.1 a with rfl|a
  .omega
  .exact b s a
theorem Mc{e:Bool}:∀{vs:List B4},C7 e vs=true->e=true/\∀v∈vs,Q7 v/\v.text.length<=2^24
 | [],h=>⟨h,λv i=>by cases i⟩
 | v::r,h=>by
  rw[C7,A0g,AsJ,Ayv,Ayv,decide_eq_false_iff_not,decide_eq_false_iff_not] at h;obtain⟨⟨⟨j,k⟩,_⟩,b⟩:=h;obtain⟨c,d⟩:=Mc b;obtain⟨l,f⟩:=UQ v.list (v.text.length:Int) (by omega);refine⟨c,λx a=>?_⟩;rcases AmR.1 a with rfl|a
  .exact⟨⟨by omega,by omega,λs g=>by have:=f s g;omega⟩,by omega⟩
  .exact d x a
theorem Ada(c:By W0)(L:BV)(vs:List B4)(iso:Bool)(hp:-9223372036854775808<=L.prim)(e:L.sec<9223372036854775808)(f:A7 L.card+A7 L.ord<=2^24)(d:vs.length<=2^40)(a:IG L=true)(b:C7 (decide ((vs.length:Int)<=30)) vs=true):XOk ⟨L,vs,iso⟩ (DU L.months+DU L.days+24):=by unfold IG at a;simp only[A0g,decide_eq_true_eq] at a;exact dH W0 c L vs iso (by omega) hp e f d (Mc b).2
end Go.Ir

namespace Go.Ir
open Go Go.Proofs Go.RowKit Go.Maps Go.Sort Go.Shelf Go.WideElems
variable(W0:World)
def QF(m:Dq):DataW Unit:=.map ((m.map λe=>(Lit.string e.1,DataW.nil)).foldr DataW.insert [])
def HC(m:Dq):List Aa:=(strKeys (QF m)).mergeSort (λx y=>decide (x<=y))
theorem UV(m:Dq):(HC m).length=m.length:=by unfold HC QF strKeys;rw[Az1,AcG,(AzB _).length_eq,AcG]
def P3:Nat:=84
theorem AhE(m:Dq)(mid:Id):Ew Tryz.prog W0 52 [.arr mid] [(mid,.map (Di m))] (λn n' v σ'=>∃kid:Id,n<=kid.1/\kid.1<n'/\v=.fn P3 [] [.ref kid 0]/\σ'=[(kid,.box (.arr mid)),(mid,.map (Di m))]) where
 callable:=by kernel_rfl
 run:=by
  intro n w μ H vals hp b;obtain⟨x,rfl⟩:∃x,vals=[x]:=by
   match vals,b.len with
   | [x],_=>exact⟨x,rfl⟩
  have u:=b.at_ 0 _ _ rfl rfl;obtain⟨o,_⟩:=u.arr_inv;have s:lk [(mid,A5.map (Di m))] mid=some (.map (Di m)):=by simp[lk]
  obtain⟨r,y,i,l,A,B,C⟩:=hp.ents _ _ s;rw[o] at l;cases l;refine Axn ((callsIn_wide (n:=5)).1 (AnyZ.keys_in Tryz.keysA Fence.wide 5 trivial rfl (some r) w)) ?_;rintro e w' ⟨rfl,rfl⟩;have a:μ (n,0)=none:=hp.bd _ (A0h _);have g:=Bh (v:=.pointer (some ⟨w.heap.size,0,none⟩)) a;have d:=(hp.more (AmQ n)).new_ (n':=n+1) (R:=λ_=>False) (AQ.alloc w (.cells #[.map (some r)] (Tryz.keysA_ren.t 23))) (λ_ h=>h.elim) (σ1:=[(mid,.map (Di m))]) (λid e h=>⟨h,λ_ _ h=>h⟩) (id:=(n,0)) (e:=.box (.arr mid)) (val:=.pointer (some ⟨w.heap.size,0,none⟩)) a (A0j _) (A0h _) (λz q=>by right;simp[BC] at q;omega)
   ⟨w.heap.size,#[.map (some r)],Tryz.keysA_ren.t 23,Ap _ _ _,hp.base.size,by simp[-World.alloc_eq,World.alloc],⟨⟨rfl,λk c v f b=>by
    cases k with
    | zero=>simp[cells] at f b;subst f b;exact .arr _ _ (g _ _ o) rfl
    | succ k=>simp[cells] at f⟩,λv b=>by simp at b;subst b;rfl⟩⟩
  refine⟨_,_,H,n+1,_,_,rfl,⟨(n,0),A0h _,A0j _,rfl,rfl⟩,?_,d.1,AmQ _,d.2,λid j p=>?_⟩
  .exact .fn _ [] [.ref (n,0) 0] [] [.pointer (some ⟨w.heap.size,0,none⟩)] rfl rfl (λk c v h=>by cases h) (λk c v f b=>by
    cases k with
    | zero=>simp at f b;subst f b;exact .ref _ _ _ (Ap _ _ _)
    | succ k=>simp at f)
  .rw[Br _ _ (by rintro rfl;simp at j)];exact p
theorem Am4(m:Nat):AnyZ.SortsIn π Tryz.sortedA_ren Fence.wide m:=
 ⟨λBC off a e W d b c=>callsIn_wide.2 (AnyM.slices_Sort_string Tryz.sortA BC off a e W d b c),λp a W=>callsIn_wide.2 (AnyM.slices_Sort_string_none Tryz.sortA p a W)⟩
def Aau:Value->Option (DataW Unit×List MemPlace):=λ_=>some (.nil,[])
theorem XX{l:Aa}(b:l.length<=2^40):keyOf π 9 (.string ⟨l.toArray⟩)=some (.string l):=by
 have h:(π).underlying 9=some .string:=by kernel_rfl
 unfold keyOf;rw[h];simp only;unfold mapKey;rw[h];simp only;have a:l.length<=maxLen:=AmI b (by decide);rw[if_pos (by simpa[ByteArray.size] using a)]
theorem dN{μ:Id->Option Value}{H:Addr->Option Value}{w:World}{m:Dq}{r g:Nat}{c:Array MapEntry}(A:(m.map Prod.fst).Nodup)(q:m.length<=2^30)(B:∀e∈m,e.1.length<=2^40)(D:w.heap[r]?=some (.map c g))(o:Z1 μ H (Di m) c.toList g) :
  w.ownsMap Tryz.prog 9 Aau r m.length (QF m):=by
 have z:c.toList.length=m.length:=by rw[<-o.len];simp[Di]
 have j:∀(k:Nat) (x:MapEntry),c.toList[k]?=some x->∃e,m[k]?=some e/\x.key=.string ⟨e.1.toArray⟩/\x.born=k:=by
  intro k x d;have p:k<m.length:=by rw[<-z];exact(Afk.1 d).1
  refine⟨m[k],Ae8 p,?_,o.born k x d⟩;have v:(Di m)[k]?=some (.s (m[k]).1,.i .i64 (m[k]).2):=by simp[Di,Ae8 p]
  exact(B7 (o.at_ k _ _ v d).1).1
 have t:c.toList.map (rg Tryz.prog 9 Aau)=m.map λe=>(Lit.string e.1,DataW.nil):=by
  apply AwS;intro k;rw[AgQ,AgQ];cases d:c.toList[k]? with
  | none=>
   have:m[k]?=none:=by rw[AzC] at d⊢;omega
   rw[this];rfl
  | some x=>obtain⟨e,l,f,_⟩:=j k x d;rw[l];simp only[Axg,AmF];refine rg_of ?_;unfold WideElems.rd Aau;rw[f,XX (B e (AfA l))];rfl
 refine⟨c,g,D,⟨?_,⟨?_,?_,?_⟩,?_⟩,?_,?_⟩
 .have:c.size=m.length:=by simpa using z
  rw[this];exact AmI q (by decide)
 .intro x d;obtain⟨k,h⟩:=AtX.1 d;have:=o.born k x h;have u:=(Afk.1 h).1;rw[o.now];omega
 .have:c.toList.map (·.born)=List.range c.toList.length:=by
   apply AwS;intro k;rw[AgQ];cases d:c.toList[k]? with
   | none=>rw[AzC] at d;rw[AzL (by simpa using d)];rfl
   | some x=>have u:=(Afk.1 d).1;rw[List.getElem?_range u];simp only[Axg,o.born k x d]
  rw[this];exact List.nodup_range
 .have:c.toList.map (·.key)=m.map λe=>Value.string ⟨e.1.toArray⟩:=by
   apply AwS;intro k;rw[AgQ,AgQ];cases d:c.toList[k]? with
   | none=>
    have:m[k]?=none:=by rw[AzC] at d⊢;omega
    rw[this];rfl
   | some x=>obtain⟨e,l,f,_⟩:=j k x d;rw[l];simp[f]
  rw[this,show(λe:Aa×Int=>Value.string ⟨e.1.toArray⟩)=(λs:Aa=>Value.string ⟨s.toArray⟩) ∘ Prod.fst from rfl,<-Azs];refine List.Pairwise.map _ (λa b y C=>y ?_) A;injection C with v;have u:=congrArg (λb:ByteArray=>b.data.toList) v;simpa using u
 .intro x d;obtain⟨k,h⟩:=AtX.1 d;obtain⟨e,l,f,_⟩:=j k x h;refine⟨(Lit.string e.1,DataW.nil),?_⟩;unfold WideElems.rd Aau;rw[f,XX (B e (AfA l))];rfl
 .have:c.size=m.length:=by simpa using z
  omega
 .rw[t];rfl
theorem Adq{m:Dq}{x:Aa}(h:x∈HC m):∃e∈m,e.1=x:=by unfold HC QF strKeys at h;rw[List.mem_mergeSort] at h;obtain⟨p,hp,rfl⟩:=AmO.1 h;obtain⟨e,a,rfl⟩:=AmO.1 (mem_sorted.1 hp);exact⟨e,a,rfl⟩
theorem Amy(l:List Aa):AD (l.map V.s)=l.map V.s:=by
 induction l with
 | nil=>rfl
 | cons x l a=>simpa[AD,cells] using a
theorem Adm{μ:Id->Option Value}{H:Addr->Option Value}{m:Dq}(g:∀e∈m,e.1.length<=2^40):AK μ H (AD ((HC m).map V.s)) ((HC m).map encStr):=by
 rw[Amy];refine⟨⟨by simp,λk c v b a=>?_⟩,λv a=>?_⟩
 .rw[AgQ] at b a;obtain⟨x,d,rfl⟩:=AdV.1 b;rw[d] at a;cases a;obtain⟨e,f,rfl⟩:=Adq (AfA d);exact .s _ (by have:=g e f;simp only[AG];omega)
 .obtain⟨x,_,rfl⟩:=AmO.1 a;rfl
theorem eP(m:Dq)(N:(m.map Prod.fst).Nodup)(j:m.length<=2^30)(C:∀e∈m,e.1.length<=2^40)(kid mid:Id)(O:kid≠mid) :
  IU Tryz.prog W0 51 [.fn P3 [] [.ref kid 0]] [(kid,.box (.arr mid)),(mid,.map (Di m))] (.arr 9 1 ((HC m).map V.s)) [(kid,.box (.arr mid)),(mid,.map (Di m))] where
 callable:=by kernel_rfl
 dom:=λ_ h=>h
 run:=by
  intro n w μ H vals hp hv;obtain⟨x,rfl⟩:∃x,vals=[x]:=by
   match vals,hv.len with
   | [x],_=>exact⟨x,rfl⟩
  have hx:=hv.at_ 0 _ _ rfl rfl;have L:lk [(kid,A5.box (.arr mid)),(mid,A5.map (Di m))] kid=some (.box (.arr mid)):=by simp[lk]
  have M:lk [(kid,A5.box (.arr mid)),(mid,A5.map (Di m))] mid=some (.map (Di m)):=by simp[lk,O]
  obtain⟨q,E,ct,k1,k2,k3,k4⟩:=hp.ents _ _ L;obtain⟨r,am,D,B,X,Y,G⟩:=hp.ents _ _ M;obtain⟨y,rfl,S⟩:∃y,x=.func (.func P3) #[] #[y]/\Ao μ H (.ref kid 0) y:=by
   cases hx with
   | fn _ _ _ bs fs B X Y G=>
    match bs,fs,B,X with
    | [],[y],_,_=>exact⟨y,rfl,G 0 _ _ rfl rfl⟩
  obtain⟨ad,I,rfl⟩:=S.ref_inv;rw[I] at k1;cases k1;obtain⟨Z,d⟩:μ mid=some (.map (some r))/\True:=⟨B,trivial⟩;have o:w.cell? ⟨q,0,none⟩=some (.map (some r)):=by have F:=k4.get (k:=0) (c:=.arr mid) rfl;obtain⟨z,hz,U⟩:=F;have:=U.arr_inv.1;rw[B] at this;cases this;simp[World.cell?,k3];simpa using hz
  have J:q<w.heap.size:=(Ath.1 k3).1;have t:=dN N j C Y G;have u:=AnyZ.keys_gives (ρ:=Tryz.keysA_ren) { Tryz.keysA with } Fence.wide 2 trivial rfl (by omega) q r m.length (QF m) w J o t;have hN:Maps.size (QF m)<=2^30:=by unfold QF;rw[Maps.size_eq,(AzB _).length_eq,AcG];exact j
  have cS:=AnyZ.sorted_in Tryz.sortedA Fence.wide 5 trivial trivial trivial trivial rfl (by omega) (Am4 _) (enters_of Tryz.func83 (by kernel_rfl) rfl) P3 #[.pointer (some ⟨q,0,none⟩)] trivial (enters_of Tryz.func84 (by kernel_rfl) rfl) _ _ (AmI hN (by decide)) (by omega) _ u;refine Axn ((callsIn_wide (n:=5)).1 cS) ?_;rintro e w' ⟨v,ss,rfl,hS,f,aa,i⟩;have a:μ (n,0)=none:=hp.bd _ (A0h _);have A:ss.mergeSort (λx y=>decide (x<=y))=HC m:=mergeSort_of_perm hS;have p:ss.length=(HC m).length:=by rw[<-A,Az1]
  rw[A,p] at f;have b:=f.2;have d:v.oneCell'=true:=by rcases b with⟨rfl,_⟩|⟨g,cap,cur,rfl,_⟩<;>rfl
  have l:=(hp.more (AmQ n)).new_ (n':=n+1) (R:=λ_=>False) (w':=w') ⟨i.os,i.tape,i.output,i.size,λk C _=>i.block k C⟩ (λ_ h=>h.elim) (σ1:=[(kid,.box (.arr mid)),(mid,.map (Di m))]) (λid e h=>⟨h,λ_ _ h=>h⟩) (id:=(n,0)) (e:=.arr 9 1 ((HC m).map V.s)) (val:=v) a (A0j _) (A0h _) (λq i=>by
    right;rcases b with⟨rfl,_⟩|⟨g,cap,cur,rfl,hg,_⟩
    .simp[BC] at i
    .simp[BC] at i;omega)
   ⟨v,(HC m).map encStr,Ap _ _ _,d,by rw[AcG];exact ownsRow_base_a f hp.base.size,by rw[AcG,UV];unfold AH;omega,by intro y S;obtain⟨x,_,rfl⟩:=AmO.1 S;rfl,Adm C⟩
  refine⟨v,_,H,n+1,(n,0),rfl,Ap _ _ _,d,a,by cases hq:lk [(kid,A5.box (V.arr mid)),(mid,A5.map (Di m))] (n,0) with|none=>rfl|some e=>exact absurd (hp.ents _ _ hq).named (by rw[a];rintro⟨_,h⟩;cases h),l.1,AmQ _,l.2,λid K F=>?_⟩;rw[Br _ _ (by rintro rfl;simp at K)];exact F
end Go.Ir

namespace Go.Ir
open Go.Proofs
variable(W0:World)
def JQ(m:Dq):Dq:=(HC m).map λn=>(n,(AU m n).getD 0)
theorem LF(m:Dq)(n:Aa)(k:Int):(Ep m n k).map Prod.fst=if n∈m.map Prod.fst then m.map Prod.fst else m.map Prod.fst++[n]:=by
 induction m with
 | nil=>rfl
 | cons e m d=>
  rw[Ep];by_cases h:e.1=n
  .have b:(e.1==n)=true:=by simpa using h
   rw[b,if_pos rfl,if_pos (by simp[h])];simp 
  .have b:(e.1==n)=false:=by simpa using h
   rw[b,if_neg (by simp),Ajf,d,Ajf];by_cases a:n∈m.map Prod.fst
   .rw[if_pos a,if_pos (A0i _ a)]
   .rw[if_neg a,if_neg (by simp only[AmR,not_or];exact⟨λc=>h c.symm,a⟩)];rfl
theorem r8(t:Dq×Bool)(u:Aa×Int):∃k,(Ee t u).1=Ep t.1 u.1 k:=by
 unfold Ee;split
 .exact⟨_,rfl⟩
 .exact⟨_,rfl⟩
theorem Z6(us:List (Aa×Int)):∀t:Dq×Bool,(t.1.map Prod.fst).Nodup->((us.foldl Ee t).1.map Prod.fst).Nodup/\(us.foldl Ee t).1.length<=t.1.length+us.length/\∀n∈(us.foldl Ee t).1.map Prod.fst,n∈t.1.map Prod.fst\/∃u∈us,u.1=n:=by
 induction us with
 | nil=>intro t h;exact⟨h,A0h _,λn d=>.inl d⟩
 | cons u us p=>
  intro t h;obtain⟨k,m⟩:=r8 t u;have hp:=LF t.1 u.1 k;rw[<-m] at hp;have f:(Ee t u).1.length<=t.1.length+1:=by
   have:=congrArg List.length hp;rw[AcG] at this;rw[this];split
   .simp
   .simp
  obtain⟨g,q,i⟩:=p (Ee t u) (by
   rw[hp];split
   .exact h
   .rename_i d;rw[A0d];refine⟨h,by simp,λa j b e l=>d ?_⟩;simp only[At5] at e;rw[<-e,<-l];exact j)
  refine⟨g,by rw[A0k];simp only[Awr];omega,λn d=>?_⟩;rcases i n d with c|⟨v,o,rfl⟩
  .rw[hp] at c;split at c
   .exact .inl c
   .rcases AmG.1 c with c|c
    .exact .inl c
    .simp only[At5] at c;exact .inr ⟨u,by simp,c.symm⟩
  .exact .inr ⟨v,by simp[o],rfl⟩
theorem AaX{m:Dq}{n:Aa}{x:Int}(h:AU m n=some x):∃e∈m,e.1=n:=by
 induction m with
 | nil=>cases h
 | cons e m f=>
  rw[AU] at h;split at h
  .rename_i d;exact⟨e,by simp,by simpa using d⟩
  .obtain⟨a,b,c⟩:=f h;exact⟨a,by simp[b],c⟩
theorem LY{W0:World}{nt n:Nat}{env:A9}{σ:Aj}{e:V}(b:get env 2=.nil)(c:get env 3=e):KE W0 nt [.t 2,.t 3] [.sl [],e] [] .ret ⟨env,σ,n⟩:=by
 refine⟨⟨[(2,.sl []),(3,e)],[],n⟩,Ak.weak (λ_=>none) (λ_ _ h=>by cases h) (λt=>?_) (λi d h=>by cases h) (A0h _),⟨by simp[Dn,get],by simp[Dn,get],trivial⟩,λ_ _ h=>by cases h⟩;by_cases h:2=t
 .subst h;rw[b];simp only[get];exact .nil
 .by_cases a:3=t
  .subst a;rw[c];simp only[get];simp;exact .refl _
  .simp only[get,if_neg h,if_neg a];exact .any _

theorem Ak.ownBox{W0:World}{nt n:Nat}{env:A9}{τ:Aj}{rid:Id}{A B:List V}(e sz k:Nat):Ak W0 nt ⟨env,(rid,.box (.agg (A++.nil::B)))::τ,n⟩ ⟨env,((n,k),.arr e sz [])::(rid,.box (.agg (A++.arr (n,k)::B)))::τ,n+1⟩:=by
 intro Y a w y;obtain⟨μ,H,I,hp,O,s,m,z⟩:=y;have b:μ (n,k)=none:=hp.bd _ (A0h _);have i:=Bh (v:=.slice none 0 0) b;have C:lk ((rid,A5.box (.agg (A++.nil::B)))::τ) rid=some (.box (.agg (A++.nil::B))):=by simp[lk]
 have r:((n,k):Id)≠rid:=by rintro rfl;obtain⟨_,G⟩:=(hp.ents _ _ C).named;rw[b] at G;cases G
 have d:=(hp.more (AmQ n)).new_ (n':=n+1) (w':=w) (R:=λ_=>False) ⟨rfl,rfl,rfl,A0h _,λ_ _ _=>rfl⟩ (λ_ h=>h.elim) (σ1:=(rid,.box (.agg (A++.nil::B)))::τ) (λid e h=>⟨h,λ_ _ h=>h⟩) (id:=(n,k)) (e:=.arr e sz []) (val:=.slice none 0 0) b (A0j _) (A0h _) (λE N=>by simp[BC] at N)
  ⟨.slice none 0 0,[],Ap _ _ _,rfl,Azj w _ e sz,ArD _,(λx U=>by cases U),AK.nil_⟩
 have p:lk (((n,k),A5.arr e sz [])::(rid,.box (.agg (A++.nil::B)))::τ) rid=some (.box (.agg (A++.nil::B))):=by simp[lk,r]
 have f:=d.1.set_ p (w':=w) (e:=.box (.agg (A++.arr (n,k)::B))) ⟨rfl,rfl,rfl,A0h _,λ_ _ _=>rfl⟩ (by
  obtain⟨E,vals,t,K,L,M,l⟩:=d.1.ents _ _ p;refine⟨E,vals,t,K,L,M,⟨⟨by have:=l.len;simpa[cells] using this,λj c v g D=>?_⟩,l.one⟩⟩;simp only[cells] at g;by_cases F:j<A.length
  .rw[AtT F] at g;exact l.at_ j c v (by simp only[cells];rw[AtT F];exact g) D
  .rw[Apb (by omega)] at g;cases u:j-A.length with
   | zero=>rw[u] at g;simp only[Aye,AmF] at g;subst g;have:=l.at_ j .nil v (by simp only[cells];rw[Apb (by omega),u];rfl) D;rw[this.nil_inv];exact .arr _ _ (Ap _ _ _) rfl
   | succ q=>rw[u] at g;simp only[Awx] at g;exact l.at_ j c v (by simp only[cells];rw[Apb (by omega),u];exact g) D)
 have S:upd (((n,k),A5.arr e sz [])::(rid,.box (.agg (A++.nil::B)))::τ) rid (.box (.agg (A++.arr (n,k)::B)))=((n,k),.arr e sz [])::(rid,.box (.agg (A++.arr (n,k)::B)))::τ:=by simp[upd,r]
 rw[S] at f;refine⟨_,H,⟨I.size,λX=>(I.at_ X).mono i (λ_ _ h=>h)⟩,f.1,O.trans (d.2.trans f.2),λid o J=>?_,AmI m (AmQ _),z⟩;simp only at m;rw[Br _ _ (by rintro rfl;simp at o;omega)];exact s id o J
end Go.Ir
section
namespace Go.Ir
open Go.RowKit Go.Proofs.YtalbicndcfmbnaaGreatDoor
def Nc(a:Bool)(c:List V):V:=if a then .agg c else c.headD .any
inductive Et (P:Program):TypeId->List V->Prop where
 | bool (t:TypeId) (b:Bool) (h:P.underlying t=some .bool):Et P t [.b b]
 | int (t:TypeId) (k:IntKind) (n:Int) (h:P.underlying t=some (.int k)) (hw:(Lit.int k n).wf=true):Et P t [.i k n]
 | str (t:TypeId) (l:List UInt8) (h:P.underlying t=some .string):Et P t [.s l]
 | sl (t e:TypeId) (es:List V) (h:P.underlying t=some (.slice e)) (he:∀el∈es,∃c,el=Nc ((CU P e).getD false) c/\cells el=c) (hc:∀el∈es,(cells el).length=P.cellsOf e) (hw:∀el∈es,Et P e (cells el)):Et P t [.sl es]
 | st (t:TypeId) (fs:Array Field) (vs:List V) (h:P.underlying t=some (.struct fs)) (hl:vs.length=P.cellsOf t) (hf:∀f∈fs.toList,Et P f.type ((vs.drop f.offset).take (P.cellsOf f.type))):Et P t vs
mutual
def BH:V->Nat
 | .s l=>l.length+1
 | .sl es=>A8 es+1
 | .agg cs=>A8 cs
 | _=>1
def A8:List V->Nat
 | []=>0
 | v::vs=>BH v+A8 vs
end
theorem Fq(a b:List V):A8 (a++b)=A8 a+A8 b:=by
 induction a with
 | nil=>simp[A8]
 | cons x a c=>simp[A8,c];omega
def fK(P:Program):List Field->Nat->Option Nat
 | [],off=>some off
 | f::a,off=>if f.offset=off then fK P a (off+P.cellsOf f.type) else none
def ApW(P:Program)(T:List TypeId):Bool:=T.all λt=>match P.underlying t with
 | some .bool|some (.int _)|some .string=>P.cellsOf t==1
 | some (.slice e)=>P.cellsOf t==1&&T.contains e&&decide (0<P.cellsOf e)
 | some (.struct a)=>a.toList.all (λf=>T.contains f.type)&&fK P a.toList 0==some (P.cellsOf t)
 | _=>false
section
variable{H:Type}{enc:TypeId×Value→H}{P:Program}{w:World}{base:Nat}{spare:Nat→Bool}{held:Bool}{T:List TypeId}
theorem Kn{d:DataW H}{a:List (DataW H)}(h:d∈a):Rows.uptoBulk d<=Rows.uptoBulkAll a:=by
 induction a with
 | nil=>cases h
 | cons x a b=>simp only[Rows.uptoBulkAll];grind
theorem K8{μ:Id->Option Value}{Hc:Addr->Option Value}{cs:List Value} :
  ∀(g:List Field) (off b:Nat) (c:List (DataW H)),fK P g off=some b->cs.length=b->c.length=g.length->
   (∀(i:Nat) (f:Field) (d:DataW H),g[i]?=some f->c[i]?=some d->∃vs,AK μ Hc vs ((cs.drop f.offset).take (P.cellsOf f.type))/\Et P f.type vs/\A8 vs<=Rows.uptoBulk d)->
   off<=b/\∃vs,AK μ Hc vs (cs.drop off)/\(∀pre:List V,pre.length=off->∀f∈g,Et P f.type (((pre++vs).drop f.offset).take (P.cellsOf f.type)))/\A8 vs<=Rows.uptoBulkAll c
 | [],off,b,c,a,j,e,h=>by simp only[fK,AmF] at a;subst a;refine⟨A0h _,[],?_,λ_ _ f m=>(by cases m),by simp[A8]⟩;rw[List.drop_of_length_le (by omega)];exact AK.nil_
 | f::g,off,b,c,a,j,e,h=>by
  simp only[fK] at a;split at a
  .rename_i u;cases c with
   | nil=>simp at e
   | cons d c=>
    obtain⟨t,vs,r,z,A⟩:=K8 g _ b c a j (by simpa using e) (λi o q m s=>h (i+1) o q (by simpa using m) (by simpa using s));obtain⟨us,l,x,y⟩:=h 0 f d rfl rfl;rw[u] at l;have v:us.length=P.cellsOf f.type:=by have:=l.len;grind
    refine⟨by omega,us++vs,?_,?_,?_⟩
    .have:=l.append r;rw[<-AzH,AyY] at this;exact this
    .intro pre p o k;rcases AmR.1 k with rfl|k
     .grind
     grind
    .rw[Fq];simp only[Rows.uptoBulkAll];omega
  .cases a
theorem SD{t:TypeId}{vs:List V}{a:Bool}(b:CU P t=some a)(h:Et P t vs):cells (Nc a vs)=vs:=by
 cases a with
 | true=>rfl
 | false=>
  cases h with
  | st t c vs h e d=>simp[CU,h,vA] at b
  | _=>rfl
theorem YN{t:TypeId}{vs:List V}{a:Bool}(b:CU P t=some a)(h:Et P t vs):BH (Nc a vs)=A8 vs:=by
 cases a with
 | true=>simp[Nc,BH]
 | false=>
  cases h with
  | st t c vs h e d=>simp[CU,h,vA] at b
  | _=>simp[Nc,A8]
theorem MK{μ:Id->Option Value}(hT:ApW P T=true):∀(n:Nat) (t:TypeId) (cs:List Value) (x:DataW H×List MemPlace),t∈T->DataW.trod enc P w base spare held n t cs=some x->Rows.uptoBulk x.1<=1048576->
  ∃vs,AK μ (λo=>w.cell? o) vs cs/\Et P t vs/\A8 vs<=Rows.uptoBulk x.1:=by
 intro n
 induction n with
 | zero=>intro t cs x _ h;simp[DataW.trod] at h
 | succ n Z=>
  intro t cs x ht h hb;have p:=AmH.1 hT t ht;have one:∀{c:V} {v:Value},Ao μ (λo=>w.cell? o) c v->v.oneCell'=true->AK μ (λo=>w.cell? o) [c] [v]:=λhv D=>
   ⟨VRels.cons hv VRels.nil_,λv' aL=>by grind⟩
  cases u:P.underlying t with
  | none=>simp[u] at p
  | some d=>
   cases d<;>simp only[u] at p<;>(try (cases p;done))
   case bool=>
    unfold DataW.trod at h;rw[u] at h
    match cs,h with
    | [.bool b],h=>cases h;exact⟨[.b b],one (.b b) rfl,.bool t b u,by simp[A8,BH,Rows.uptoBulk]⟩
   case int k=>
    unfold DataW.trod at h;rw[u] at h
    match cs,h with
    | [.int k' m],h=>
     simp only at h;split at h
     .rename_i G;obtain⟨rfl,hw⟩:=G;cases h;exact⟨[.i k' m],one (.i k' m) rfl,.int t k' m u hw,by simp[A8,BH,Rows.uptoBulk]⟩
     .cases h
   case string=>
    unfold DataW.trod at h;rw[u] at h
    match cs,h with
    | [.string s],h=>
     simp only at h;split at h
     .rename_i hs;cases h;simp only[Rows.uptoBulk] at hb;refine⟨[.s s.data.toList],one ?_ rfl,.str t _ u,by simp[A8,BH,Rows.uptoBulk]⟩;have:=Ao.s (μ:=μ) (H:=λo=>w.cell? o) s.data.toList (by unfold AG;omega);simpa using this
     .cases h
   case slice e=>
    simp only[A0g,beq_iff_eq,AzO,decide_eq_true_eq] at p;obtain⟨⟨aE,O⟩,az⟩:=p;rcases DataW.trod_slice u h with⟨rfl,rfl⟩|⟨a,len,cap,elems,rest,m,hm,rfl,rfl,hbase,hlc,hcm,hel,helem,_,_⟩
    .exact⟨[.sl []],one (.slE none 0) rfl,.sl t e [] u (λ_ h=>by cases h) (λ_ h=>by cases h) (λ_ h=>by cases h),by simp[A8,BH,Rows.uptoBulk]⟩
    .cases hm;simp only[Rows.uptoBulk] at hb;have R:=AmH.1 hT e O;obtain⟨I,E⟩:∃I,CU P e=some I:=by
      unfold CU;cases ak:P.underlying e with
      | none=>simp[ak] at R
      | some d=>exact⟨_,rfl⟩
     have L:∀i,i<len->∃(vs:List V) (g:List Value) (y:DataW H×List MemPlace),elems[i]?=some y/\g.length=P.cellsOf e/\(∀k,k<P.cellsOf e->w.cell? (a.add (i*P.cellsOf e+k))=g[k]?)/\AK μ (λo=>w.cell? o) vs g/\Et P e vs/\A8 vs<=Rows.uptoBulk y.1:=by
      intro i hi;have D:=helem i hi;have C:i<elems.length:=by omega
      rw[Ae8 C] at D;cases r:w.cells? base (a.add (i*P.cellsOf e)) (P.cellsOf e) with
      | none=>rw[r] at D;cases D
      | some g=>
       rw[r] at D;obtain⟨_,hl,F⟩:=World.cells?_some r;have B:elems[i].1∈elems.map (·.1):=AmO.2 ⟨_,Az4 C,rfl⟩;have:=Kn B;obtain⟨vs,Y,r2,r3⟩:=Z e g elems[i] O D (by omega);refine⟨vs,g,elems[i],Ae8 C,hl,λk G=>?_,Y,r2,r3⟩;have:=F k G
       rwa [show(a.add (i*P.cellsOf e)).add k=a.add (i*P.cellsOf e+k) from by unfold Addr.add;by_cases hi:i*P.cellsOf e=0<;>by_cases hj:k=0<;>simp[hi,AyH]] at this
     have all:∀j,j<=len->∃(es:List V) (vals:List Value),es.length=j/\vals.length=j*P.cellsOf e/\(∀q∈es,(∃c,q=Nc I c/\cells q=c)/\(cells q).length=P.cellsOf e/\Et P e (cells q))/\AK μ (λo=>w.cell? o) (AD es) vals/\
       (∀(k:Nat) (v:Value),vals[k]?=some v->w.cell? (a.add k)=some v)/\A8 es<=Rows.uptoBulkAll ((elems.map (·.1)).take j):=by
      intro j
      induction j with
      | zero=>intro _;exact⟨[],[],rfl,by simp,λ_ h=>(by cases h),AK.nil_,λk v h=>(by simp at h),by simp[A8]⟩
      | succ j an=>
       intro hj;obtain⟨es,vals,g1,g2,J,M,g5,g6⟩:=an (by omega);obtain⟨vs,g,y,e1,e2,e3,e4,e5,e6⟩:=L j (by omega);have N:cells (Nc I vs)=vs:=SD E e5;refine⟨es++[Nc I vs],vals++g,by simp[g1],by grind,?_,?_,?_,?_⟩
       .intro q A;rcases AmG.1 A with h'|h'
        .exact J q h'
        .rw[At5.1 h',N];exact⟨⟨vs,rfl,rfl⟩,by rw[e4.len,e2],e5⟩
       .rw[Fh];refine M.append ?_;have:AD [Nc I vs]=vs:=by simp[AD,N]
        rw[this];exact e4
       .intro k v G;rcases AwA k vals.length with C|af
        .grind
        .rw[Apb af] at G;have ay:k-vals.length<g.length:=(Afk.1 G).1;have:=e3 (k-vals.length) (by omega);rw[G,g2,show j*P.cellsOf e+(k-j*P.cellsOf e)=k by omega] at this;exact this
       .rw[Fq];have ht:(elems.map (·.1)).take (j+1)=(elems.map (·.1)).take j++[y.1]:=by rw[List.take_add_one,AgQ,e1];rfl
        have ad:∀(a b:List (DataW H)),Rows.uptoBulkAll (a++b)=Rows.uptoBulkAll a+Rows.uptoBulkAll b:=by
         intro a b
         induction a with
         | nil=>simp[Rows.uptoBulkAll]
         | cons x a Z=>simp[Rows.uptoBulkAll,Z];omega
        rw[ht,ad];have:=YN E e5;simp only[A8,Rows.uptoBulkAll];omega
     obtain⟨es,vals,g1,g2,J,M,g5,g6⟩:=all len (A0h _);have X:∀(K:List (DataW H)),K.length<=Rows.uptoBulkAll K:=by
      intro K
      induction K with
      | nil=>simp 
      | cons d K Z=>
       have:1<=Rows.uptoBulk d:=by
        cases d<;>(try simp only[Rows.uptoBulk])<;>(try omega)
        rename_i l;cases l<;>simp[Rows.uptoBulk]
       simp only[Rows.uptoBulkAll,A0k];omega
     have ah:=X (elems.map (·.1));rw[AcG,hel] at ah;refine⟨[.sl es],one ?_ rfl,.sl t e es u (by rw[E];exact λq h=>(J q h).1) (λq h=>(J q h).2.1) (λq h=>(J q h).2.2),?_⟩
     .have:=Ao.slC (μ:=μ) (H:=λo=>w.cell? o) es a cap (P.cellsOf e) vals (by omega) (by unfold AH;omega) (λq A=>(J q A).2.1) M.len M.one g5 M.at_;grind
     .rw[Azy (by simp;omega)] at g6;simp only[A8,BH,Rows.uptoBulk];omega
   case struct fs=>
    simp only[A0g,beq_iff_eq] at p;obtain⟨aG,U⟩:=p;obtain⟨xs,m,hm,rfl,r,am,hf⟩:=DataW.trod_struct u h;cases hm;simp only[Rows.uptoBulk] at hb;obtain⟨_,vs,Y,r2,r3⟩:=K8 (P:=P) (μ:=μ) (Hc:=λo=>w.cell? o) (cs:=cs) fs.toList 0 (P.cellsOf t) (xs.map (·.1)) U r (by simp[am]) (λi f d aH z=>by
     have S:fs[i]?=some f:=by grind
     have D:=hf i f S;rw[AgQ] at z;cases hx:xs[i]? with
     | none=>rw[hx] at z;cases z
     | some y=>rw[hx] at z D;cases z;have B:y.1∈xs.map (·.1):=AmO.2 ⟨y,AfA hx,rfl⟩;have:=Kn B;grind
)
    rw[Aw4] at Y;refine⟨vs,Y,.st t fs vs u (by rw[Y.len,r]) (λf ae=>by simpa using r2 [] rfl f ae),?_⟩;simp only[Rows.uptoBulk];omega
end
end Go.Ir
end
section
namespace Go.Ir
open Go.RowKit Go.ChangeShapes Go.WideShapes
variable[F4]
section
variable{H:Type}{enc:TypeId×Value→H}{P:Program}{W W':World}
theorem HN(o:laidOutB P=true)(m:Below W.heap.size W W'){r:Nat->Bool}:∀(g:List TypeId) (vs:List Value) (i:List (DataW H)) (ps:List MemPlace),(∀t∈g,P.readableRec t=true/\t<P.types.size)->
  DataW.TrodAll enc P W 0 (λ_=>true) true g vs i ps->(∀x∈ps,x.block<W.heap.size)->(∀x∈ps,r x.block=true)->DataW.TrodAll enc P W' 0 r true g vs i ps
 | [],vs,i,ps,_,h,_,_=>by obtain⟨rfl,rfl,rfl⟩:=trodAll_nil h;exact trodAll_mk0
 | t::g,vs,i,ps,f,h,b,e=>by obtain⟨v,l,d,j,p,q,rfl,rfl,rfl,s,u⟩:=trodAll_cons h;obtain⟨y,c⟩:=f t (by simp);refine trodAll_cons_mk (WideElems.Trod_stays o y c s (λx a=>m.same (b x (by simp[a]))) (λx a=>e x (by simp[a]))) (HN o m g l j q (λz k=>f z (by simp[k])) u (λx a=>b x (by simp[a])) (λx a=>e x (by simp[a])))
theorem ZF{f:Func}{s:ChangeSpec}{c g d e:Bool}{args:Array Value}{l D:List (DataW H)}{a:List MemPlace}{tb:TypeId}
  (L:laidOutB P=true)(B:∀t∈f.params.toList,P.readableRec t=true/\t<P.types.size)(j:f.resultTypes=#[tb])(k:P.underlying tb=some .bool)(C:s.vars=[])
  (y:s.fn H (l++D)={ results:=[.lit (.bool true)],args:=l })
  (r:DataW.Whole enc P f.params.toList s.vars c W args.toList l D a)(v:Below W.heap.size W W'):s.post enc P f c g d e W args (.bool true) W':=by
 have i:∀p∈a,p.block<W.heap.size:=λp hp=>r.lt p hp;have u:=r;obtain⟨p,q,J,E,rfl,N,M⟩:=r;rw[C] at E;obtain⟨rfl,rfl⟩:=trodVars_none E;simp only[AoG] at *;have G:∀x∈p,(λb=>decide (b<W.heap.size)) x.block=true:=λx m=>by simpa using i x m
 have h:∀o:Nat->Bool,(∀x∈p,o x.block=true)->DataW.TrodAll enc P W' 0 o true f.params.toList args.toList l p:=λo A=>HN L v _ _ _ _ B J i A;have I:∀(b:Nat) (o:Nat->Bool) (F:Bool),DataW.TrodAll enc P W' b o F f.resultTypes.toList ((Value.bool true).resultList f.resultTypes.size) [.lit (.bool true)] []:=by intro b o F;rw[j];exact trodAll_cons_mk (p:=[]) (p':=[]) (shut_bool k _) trodAll_mk0
 refine⟨l,[],p,[],p,[],u,?_,?_,?_,World.keptBut_mono (λx m=>⟨m,.inr (.inl m)⟩) (v.frame _),λ_=>?_⟩
 .grind
 .grind
 .rw[C,AoG,y];rfl
 .refine⟨ok_one j rfl (okWide_bool_mk k _),.lit (.bool true)::l,[],p,⟨p,[],?_,by rw[C];rfl,by simp,?_,?_⟩,λx m _=>m⟩
  .rw[j];exact trodAll_cons_mk (p:=[]) (shut_bool k _) (h _ (λ_ _=>rfl))
  .intro b off hp;have:=i _ hp;have z:=v.frozen (p:=⟨b,off,none⟩) this;rw[z];exact N b off (by simpa using hp)
  .intro K;exact M K
theorem Hp.start(W:World)(n:Nat):Hp W [] n (λ_=>none) (λa=>W.cell? a) W where
 base:=Aw0 _ _
 pins _ _ h:=h
 ents _ _ h:=by simp[lk] at h
 unp bk ho:=by obtain⟨id,e,h,_⟩:=ho;simp[lk] at h
 sep _ _ _ _ _ h:=by simp[lk] at h
 bd _ _:=rfl
theorem SS{f:FuncId}{args:List V}{vals:List Value}(h:Al P W f args [] (.b true) [])(g:VRels (λ_=>none) (λa=>W.cell? a) args vals) :
  Calls P f vals.toArray W λe W'=>e=.returned (.bool true)/\Below W.heap.size W W':=
 (h.run 0 W _ _ vals (Hp.start W 0) g).mono λe W' ⟨val,i,j,n',c,d,hp,_⟩=>⟨by rw[c,d.b_inv],hp.base⟩
end
end Go.Ir
end
section
namespace Go.Ir
open Go.Proofs
section
variable{P:Program}
theorem Et.int_inv{t:TypeId}{k:IntKind}{v:V}(h:Et P t [v])(a:P.underlying t=some (.int k)):∃n,v=.i k n/\(Lit.int k n).wf=true:=by
 cases h with
 | int _ f n h d=>grind
 | bool _ b h=>rw[a] at h;cases h
 | str _ l h=>rw[a] at h;cases h
 | sl _ e es h _ _ _=>rw[a] at h;cases h
 | st _ c vs h _ _=>rw[a] at h;cases h
theorem Et.str_inv{t:TypeId}{v:V}(h:Et P t [v])(a:P.underlying t=some .string):∃l,v=.s l:=by
 cases h with
 | int _ f n h d=>rw[a] at h;cases h
 | bool _ b h=>rw[a] at h;cases h
 | str _ l h=>exact⟨l,rfl⟩
 | sl _ e es h _ _ _=>rw[a] at h;cases h
 | st _ c vs h _ _=>rw[a] at h;cases h
theorem Et.sl_inv{t e:TypeId}{v:V}(h:Et P t [v])(d:P.underlying t=some (.slice e)):∃es,v=.sl es/\(∀a∈es,∃c,a=Nc ((CU P e).getD false) c/\cells a=c)/\(∀a∈es,(cells a).length=P.cellsOf e)/\(∀a∈es,Et P e (cells a)):=by
 cases h with
 | int _ o n h m=>rw[d] at h;cases h
 | bool _ b h=>rw[d] at h;cases h
 | str _ l h=>rw[d] at h;cases h
 | sl _ f es h i j k=>grind
 | st _ g vs h _ _=>rw[d] at h;cases h
theorem Et.st_inv{t:TypeId}{c:Array Field}{vs:List V}(h:Et P t vs)(a:P.underlying t=some (.struct c)):vs.length=P.cellsOf t/\∀f∈c.toList,Et P f.type ((vs.drop f.offset).take (P.cellsOf f.type)):=by
 cases h with
 | int _ m n h k=>rw[a] at h;cases h
 | bool _ b h=>rw[a] at h;cases h
 | str _ l h=>rw[a] at h;cases h
 | sl _ i es h e g j=>rw[a] at h;cases h
 | st _ d vs h e g=>grind
end
theorem kS{l:List V}(h:l.length=2):∃a b,l=[a,b]:=by
 match l,h with
 | [a,b],_=>exact⟨a,b,rfl⟩
theorem c9:π.cellsOf 9=1:=by kernel_rfl
theorem c3:π.cellsOf 3=1:=by kernel_rfl
end Go.Ir
end
section
namespace Go.Ir
open Go.Proofs
def De{a:Type}(w:a->Nat):List a->Nat
 | []=>0
 | x::xs=>w x+De w xs
theorem P8{c:Type}{G:V->Prop}(enc:c->V)(w:c->Nat)(b:∀a,G a->∃x,a=enc x/\w x<=BH a):∀es,(∀a∈es,G a)->∃xs,es=xs.map enc/\De w xs<=A8 es:=by
 intro es
 induction es with
 | nil=>intro _;exact⟨[],rfl,by simp[De]⟩
 | cons e es i=>intro h;obtain⟨xs,d,j⟩:=i λx g=>h x (by simp[g]);obtain⟨x,f,k⟩:=b e (h e (by simp));exact⟨x::xs,by rw[d,f];rfl,by simp only[De,A8];omega⟩
section
variable{P:Program}
theorem Dg{k:Type}{t e:TypeId}{v:V}(h:Et P t [v])(q:P.underlying t=some (.slice e))(p:CU P e=some true)(enc:k->V)(w:k->Nat)(f:∀c,Et P e c->∃x,V.agg c=enc x/\w x<=A8 c) :
  ∃xs:List k,v=.sl (xs.map enc)/\De w xs+1<=BH v:=by
 obtain⟨es,rfl,l,r,o⟩:=h.sl_inv q;rw[p] at l;obtain⟨xs,j,s⟩:=P8 (G:=λa=>∃c,a=V.agg c/\Et P e c) enc w (λa ⟨c,b,g⟩=>by
  subst b;obtain⟨x,j,i⟩:=f c g;exact⟨x,j,by simpa[BH] using i⟩) es λa m=>by
  obtain⟨c,b,d⟩:=l a m;have:=o a m;rw[d] at this;exact⟨c,b,this⟩
 exact⟨xs,by rw[j],by simp only[BH];omega⟩
theorem ZP{j:Type}{t e m:TypeId}{v:V}(h:Et P t [v])(s:P.underlying t=some (.slice e))(y:P.underlying e=some (.slice m))(q:CU P e=some false)(d:P.cellsOf e=1)(enc:j->V)(w:j->Nat)(g:∀v,Et P e [v]->∃x,v=enc x/\w x<=BH v) :
  ∃xs:List j,v=.sl (xs.map enc)/\De w xs+1<=BH v:=by
 obtain⟨es,rfl,k,o,p⟩:=h.sl_inv s;rw[q] at k;obtain⟨xs,u,z⟩:=P8 (G:=λa=>Et P e [a]) enc w g es λa i=>by
  obtain⟨c,r,f⟩:=k a i;have l:=p a i;have b:=o a i;rw[f] at l b;rw[d] at b
  match c,b with
  | [x],_=>have:a=x:=r;rw[this];exact l
 exact⟨xs,by rw[u],by simp only[BH];omega⟩
theorem Et.bool_inv{t:TypeId}{v:V}(h:Et P t [v])(a:P.underlying t=some .bool):∃b,v=.b b:=by
 cases h with
 | int _ f n h d=>rw[a] at h;cases h
 | bool _ b h=>exact⟨b,rfl⟩
 | str _ l h=>rw[a] at h;cases h
 | sl _ e es h _ _ _=>rw[a] at h;cases h
 | st _ c vs h _ _=>rw[a] at h;cases h
end
theorem Arn{l:List V}(h:l.length=4):∃a b c d,l=[a,b,c,d]:=by
 match l,h with
 | [a,b,c,d],_=>exact⟨a,b,c,d,rfl⟩
theorem AuL{b:Type}(xs:List b):De (λ_=>1) xs=xs.length:=by
 induction xs with
 | nil=>rfl
 | cons x xs a=>simp only[De,a,A0k];omega
theorem AnY:π.cellsOf 337=2:=by kernel_rfl
theorem AtZ:π.cellsOf 175=4:=by kernel_rfl
theorem AmW:π.cellsOf 139=2:=by kernel_rfl
theorem AoP:π.cellsOf 172=1:=by kernel_rfl
theorem Aic:π.cellsOf 173=1:=by kernel_rfl
theorem Aow:π.cellsOf 137=1:=by kernel_rfl
theorem Ail:π.cellsOf 22=1:=by kernel_rfl
theorem AfV:π.cellsOf 4=1:=by kernel_rfl
theorem Aqh:π.cellsOf 30=16:=by kernel_rfl
theorem ApK:CU π 337=some true:=by kernel_rfl
theorem AtJ:CU π 175=some true:=by kernel_rfl
theorem ApN:CU π 172=some false:=by kernel_rfl
theorem Afo:CU π 139=some true:=by kernel_rfl
theorem AcI(c:List V)(h:Et π 337 c):∃x:Gk,V.agg c=x.enc/\1<=A8 c:=by obtain⟨g,f⟩:=h.st_inv Tryz.underlying337;rw[AnY] at g;obtain⟨i,j,rfl⟩:=kS g;have d:=f _ (by exact Aft);have e:=f _ (by exact A0i _ Aft);simp only[c3,Aw4,AuN,AuA,Awu] at d e;obtain⟨a,rfl,_⟩:=d.int_inv Tryz.underlying3;obtain⟨b,rfl,_⟩:=e.int_inv Tryz.underlying3;exact⟨⟨a,b⟩,rfl,by simp[A8,BH]⟩
theorem Ahg(c:List V)(h:Et π 175 c):∃x:CJ,V.agg c=x.enc/\x.wt<=A8 c:=by obtain⟨j,d⟩:=h.st_inv Tryz.underlying175;rw[AtZ] at j;obtain⟨l,m,o,p,rfl⟩:=Arn j;have e:=d _ (by exact Aft);have f:=d _ (by exact A0i _ Aft);have g:=d _ (by exact A0i _ (A0i _ Aft));have i:=d _ (by exact A0i _ (A0i _ (A0i _ Aft)));simp only[c3,AfV,Aic,Aw4,AuN,AuA,Awu] at e f g i;obtain⟨a,rfl,_⟩:=e.int_inv Tryz.underlying3;obtain⟨b,rfl,_⟩:=f.int_inv Tryz.underlying3;obtain⟨n,rfl⟩:=g.bool_inv Tryz.underlying4;obtain⟨xs,rfl,k⟩:=Dg i Tryz.underlying173 ApK Gk.enc (λ_=>1) AcI;rw[AuL] at k;refine⟨⟨a,b,n,xs⟩,rfl,?_⟩;simp only[A8,BH] at k⊢;unfold CJ.wt;simp only;omega
theorem rO(xs:List CJ):C4 xs=De CJ.wt xs+1:=by
 induction xs with
 | nil=>rfl
 | cons x xs a=>simp only[De,C4,a];omega
theorem tZ(xs:List (List CJ)):Dc xs=De C4 xs:=by
 induction xs with
 | nil=>rfl
 | cons x xs a=>simp only[De,Dc,a]
theorem ZU(xs:List AB):A7 xs=De AB.wt xs:=by
 induction xs with
 | nil=>rfl
 | cons x xs a=>simp only[De,A7,a]
theorem y9(v:V)(h:Et π 172 [v]):∃x:List CJ,v=EH x/\C4 x<=BH v:=by obtain⟨xs,rfl,a⟩:=Dg h Tryz.underlying172 AtJ CJ.enc CJ.wt Ahg;exact⟨xs,rfl,by rw[rO];exact a⟩
theorem Ww(c:List V)(h:Et π 139 c):∃x:AB,V.agg c=x.enc/\x.wt<=A8 c:=by obtain⟨f,e⟩:=h.st_inv Tryz.underlying139;rw[AmW] at f;obtain⟨i,j,rfl⟩:=kS f;have b:=e _ (by exact Aft);have d:=e _ (by exact A0i _ Aft);simp only[c9,Aow,Aw4,AuN,AuA,Awu] at b d;obtain⟨a,rfl⟩:=b.str_inv Tryz.underlying9;obtain⟨xs,rfl,g⟩:=ZP d Tryz.underlying137 Tryz.underlying172 ApN AoP EH C4 y9;refine⟨⟨a,xs⟩,rfl,?_⟩;unfold AB.wt;rw[tZ];simp only[A8,BH] at g⊢;omega
end Go.Ir
end
namespace Go.Ir
open Go.Proofs
def bw(s:Aa):Nat:=s.length+1
theorem Auo:CU π 9=some false:=by kernel_rfl
theorem KP(v:V)(h:Et π 28 [v]):∃l:List Aa,v=.sl (l.map V.s)/\De bw l+1<=BH v:=by
 obtain⟨es,rfl,f,i,j⟩:=h.sl_inv Tryz.underlying28;rw[Auo] at f;obtain⟨xs,m,o⟩:=P8 (G:=λa=>Et π 9 [a]) V.s bw (λa h=>by
  obtain⟨s,rfl⟩:=h.str_inv Tryz.underlying9;exact⟨s,rfl,by unfold bw;simp[BH]⟩) es λa e=>by
  obtain⟨c,k,d⟩:=f a e;have g:=j a e;have b:=i a e;rw[d] at g b;rw[c9] at b
  match c,b with
  | [x],_=>have:a=x:=k;rw[this];exact g
 exact⟨xs,by rw[m],by simp only[BH];omega⟩
theorem Jw{a:Type}{w:a->Nat}{l:List a}{x:a}(h:x∈l):w x<=De w l:=by
 induction l with
 | nil=>cases h
 | cons y l b=>
  simp only[De];rcases AmR.1 h with rfl|h
  .omega
  .have:=b h;omega
theorem F9{a:Type}{w:a->Nat}{l:List a}(h:∀x,1<=w x):l.length<=De w l:=by
 induction l with
 | nil=>simp 
 | cons y l b=>simp only[De,A0k];have:=h y;omega
theorem Av5{l:List V}(h:l.length=3):∃a b c,l=[a,b,c]:=by
 match l,h with
 | [a,b,c],_=>exact⟨a,b,c,rfl⟩
theorem Anm{l:List V}(h:l.length=5):∃a b c d e,l=[a,b,c,d,e]:=by
 match l,h with
 | [a,b,c,d,e],_=>exact⟨a,b,c,d,e,rfl⟩
theorem jW:π.cellsOf 28=1:=by kernel_rfl
theorem Avu:π.cellsOf 62=5:=by kernel_rfl
theorem AvF:CU π 62=some true:=by kernel_rfl
theorem AiG(c:List V)(h:Et π 62 c):∃x:B4,V.agg c=x.enc/\x.wt<=A8 c:=by obtain⟨j,a⟩:=h.st_inv Tryz.underlying62;rw[Avu] at j;obtain⟨o,p,q,r,m,rfl⟩:=Anm j;have b:=a _ (by exact Aft);have e:=a _ (by exact A0i _ Aft);have f:=a _ (by exact A0i _ (A0i _ Aft));have g:=a _ (by exact A0i _ (A0i _ (A0i _ Aft)));have i:=a _ (by exact A0i _ (A0i _ (A0i _ (A0i _ Aft))));simp only[c9,c3,jW,Aw4,AuN,AuA,Awu] at b e f g i;obtain⟨n,rfl⟩:=b.str_inv Tryz.underlying9;obtain⟨t,rfl,_⟩:=e.int_inv Tryz.underlying3;obtain⟨x,rfl⟩:=f.str_inv Tryz.underlying9;obtain⟨d,rfl,_⟩:=g.int_inv Tryz.underlying3;obtain⟨xs,rfl,k⟩:=KP m i;refine⟨⟨n,t,x,d,xs⟩,rfl,?_⟩;have:=F9 (w:=bw) (l:=xs) (λ_=>by unfold bw;omega);simp only[A8,BH] at k⊢;unfold B4.wt;simp only;omega
theorem Ach(v:V)(h:Et π 32 [v]):∃l:List B4,v=.sl (l.map B4.enc)/\De B4.wt l<=BH v:=by obtain⟨xs,rfl,a⟩:=Dg h Tryz.underlying32 AvF B4.enc B4.wt AiG;exact⟨xs,rfl,by omega⟩
theorem AcQ{l:List B4}{n:Nat}(h:De B4.wt l<=n):l.length<=n/\∀v∈l,v.text.length<=n/\v.list.length<=n:=by have:=F9 (w:=B4.wt) (l:=l) (λx=>by unfold B4.wt;omega);refine⟨by omega,λv a=>?_⟩;have b:=Jw (w:=B4.wt) a;have c:v.wt=1+v.name.length+v.text.length+v.list.length:=rfl;exact⟨by omega,by omega⟩
theorem Aum:π.cellsOf 178=5:=by kernel_rfl
theorem Avi:π.cellsOf 180=3:=by kernel_rfl
theorem AuU:π.cellsOf 182=2:=by kernel_rfl
theorem Av3:π.cellsOf 24=6:=by kernel_rfl
theorem AnF:π.cellsOf 25=1:=by kernel_rfl
theorem Ar5:π.cellsOf 26=1:=by kernel_rfl
theorem Asd:π.cellsOf 27=1:=by kernel_rfl
theorem Aop:π.cellsOf 32=1:=by kernel_rfl
theorem Auw:CU π 178=some true:=by kernel_rfl
theorem Aup:CU π 180=some true:=by kernel_rfl
theorem Avy:CU π 182=some true:=by kernel_rfl
def i7(x:CA):Nat:=bw x.style+bw x.two+bw x.start+bw x.mid+bw x.fin
def uY(x:Dd):Nat:=bw x.unit+bw x.cls+bw x.pat
def oK(x:CG):Nat:=bw x.skel+bw x.pat
theorem AlT(c:List V)(h:Et π 178 c):∃x:CA,V.agg c=x.enc/\i7 x<=A8 c:=by obtain⟨i,a⟩:=h.st_inv Tryz.underlying178;rw[Aum] at i;obtain⟨p,q,r,s,t,rfl⟩:=Anm i;have b:=a _ (by exact Aft);have d:=a _ (by exact A0i _ Aft);have e:=a _ (by exact A0i _ (A0i _ Aft));have f:=a _ (by exact A0i _ (A0i _ (A0i _ Aft)));have g:=a _ (by exact A0i _ (A0i _ (A0i _ (A0i _ Aft))));simp only[c9,Aw4,AuN,AuA,Awu] at b d e f g;obtain⟨j,rfl⟩:=b.str_inv Tryz.underlying9;obtain⟨k,rfl⟩:=d.str_inv Tryz.underlying9;obtain⟨l,rfl⟩:=e.str_inv Tryz.underlying9;obtain⟨m,rfl⟩:=f.str_inv Tryz.underlying9;obtain⟨o,rfl⟩:=g.str_inv Tryz.underlying9;exact⟨⟨j,k,l,m,o⟩,rfl,by simp only[i7,bw,A8,BH];omega⟩
theorem Ak1(c:List V)(h:Et π 180 c):∃x:Dd,V.agg c=x.enc/\uY x<=A8 c:=by obtain⟨f,a⟩:=h.st_inv Tryz.underlying180;rw[Avi] at f;obtain⟨k,l,m,rfl⟩:=Av5 f;have b:=a _ (by exact Aft);have d:=a _ (by exact A0i _ Aft);have e:=a _ (by exact A0i _ (A0i _ Aft));simp only[c9,Aw4,AuN,AuA,Awu] at b d e;obtain⟨g,rfl⟩:=b.str_inv Tryz.underlying9;obtain⟨i,rfl⟩:=d.str_inv Tryz.underlying9;obtain⟨j,rfl⟩:=e.str_inv Tryz.underlying9;exact⟨⟨g,i,j⟩,rfl,by simp only[uY,bw,A8,BH];omega⟩
theorem AgF(c:List V)(h:Et π 182 c):∃x:CG,V.agg c=x.enc/\oK x<=A8 c:=by obtain⟨e,d⟩:=h.st_inv Tryz.underlying182;rw[AuU] at e;obtain⟨i,j,rfl⟩:=kS e;have a:=d _ (by exact Aft);have b:=d _ (by exact A0i _ Aft);simp only[c9,Aw4,AuN,AuA,Awu] at a b;obtain⟨f,rfl⟩:=a.str_inv Tryz.underlying9;obtain⟨g,rfl⟩:=b.str_inv Tryz.underlying9;exact⟨⟨f,g⟩,rfl,by simp only[oK,bw,A8,BH];omega⟩
theorem AjY{l:List V}(h:l.length=16):∃a b c d e m o p q r s f g i j k,l=[a,b,c,d,e,m,o,p,q,r,s,f,g,i,j,k]:=by
 match l,h with
 | [a,b,c,d,e,m,o,p,q,r,s,f,g,i,j,k],_=>grind
theorem As5{n:Int}(h:(Lit.int .i64 n).wf=true):-9223372036854775808<=n/\n<9223372036854775808:=by
 simp only[Lit.wf,A0g,decide_eq_true_eq] at h;have a:IntKind.i64.min=-9223372036854775808:=by decide
 have b:IntKind.i64.max=9223372036854775807:=by decide
 omega
theorem T0(l:List Aa):DU l<=30*De bw l:=by
 induction l with
 | nil=>simp[DU,B6]
 | cons x l a=>unfold DU at *;simp only[B6,De,Hu,bw] at *;omega
theorem Ps{a:Type}{f g:a->Nat}(h:∀x,f x<=30*g x)(l:List a):B6 f l<=30*De g l:=by
 induction l with
 | nil=>simp[B6]
 | cons x l b=>simp only[B6,De];have:=h x;omega
set_option maxHeartbeats 2000000 in
theorem Ajp(c:List V)(h:Et π 30 c):∃l:BV,V.agg c=l.enc/\Na l<=200*A8 c/\A7 l.card+A7 l.ord<=A8 c/\-9223372036854775808<=l.prim/\l.sec<9223372036854775808:=by
 obtain⟨J,a⟩:=h.st_inv Tryz.underlying30;rw[Aqh] at J;obtain⟨x0,x1,x2,x3,x4,y0,y1,y2,y3,y4,y5,x6,x7,x8,x9,s,rfl⟩:=AjY J;have v:=a _ (by exact Aft);have y:=a _ (by exact A0i _ Aft);have z:=a _ (by exact A0i _ (A0i _ Aft));have A:=a _ (by exact A0i _ (A0i _ (A0i _ Aft)));have B:=a _ (by exact A0i _ (A0i _ (A0i _ (A0i _ Aft))));have m:=a _ (by exact A0i _ (A0i _ (A0i _ (A0i _ (A0i _ Aft)))));have f6:=a _ (by exact A0i _ (A0i _ (A0i _ (A0i _ (A0i _ (A0i _ Aft))))));have f7:=a _ (by exact A0i _ (A0i _ (A0i _ (A0i _ (A0i _ (A0i _ (A0i _ Aft)))))));have f8:=a _ (by exact A0i _ (A0i _ (A0i _ (A0i _ (A0i _ (A0i _ (A0i _ (A0i _ Aft))))))));have f9:=a _ (by exact A0i _ (A0i _ (A0i _ (A0i _ (A0i _ (A0i _ (A0i _ (A0i _ (A0i _ Aft)))))))));have f10:=a _ (by exact A0i _ (A0i _ (A0i _ (A0i _ (A0i _ (A0i _ (A0i _ (A0i _ (A0i _ (A0i _ Aft))))))))));clear a;simp only[c9,Ail,Av3,AnF,Ar5,Asd,jW,Aw4,AuN,AuA,Awu] at v y z A B m f6 f7 f8 f9 f10;obtain⟨k,rfl⟩:=v.str_inv Tryz.underlying9;obtain⟨j,rfl⟩:=y.str_inv Tryz.underlying9;obtain⟨d,rfl⟩:=z.str_inv Tryz.underlying9;obtain⟨xs,rfl,K⟩:=Dg A Tryz.underlying22 Afo AB.enc AB.wt Ww;obtain⟨ys,rfl,i⟩:=Dg B Tryz.underlying22 Afo AB.enc AB.wt Ww;obtain⟨_,b⟩:=m.st_inv Tryz.underlying24;have C:=b _ (by exact Aft);have D:=b _ (by exact A0i _ Aft);have E:=b _ (by exact A0i _ (A0i _ Aft));have F:=b _ (by exact A0i _ (A0i _ (A0i _ Aft)));have G:=b _ (by exact A0i _ (A0i _ (A0i _ (A0i _ Aft))));have I:=b _ (by exact A0i _ (A0i _ (A0i _ (A0i _ (A0i _ Aft)))));clear b m;simp only[c9,c3,Aw4,AuN,AuA,Awu] at C D E F G I;obtain⟨M,rfl⟩:=C.str_inv Tryz.underlying9;obtain⟨N,rfl⟩:=D.str_inv Tryz.underlying9;obtain⟨O,rfl⟩:=E.str_inv Tryz.underlying9;obtain⟨R,rfl⟩:=F.str_inv Tryz.underlying9;obtain⟨U,rfl,Y⟩:=G.int_inv Tryz.underlying3;obtain⟨X,rfl,Z⟩:=I.int_inv Tryz.underlying3;obtain⟨L,rfl,o⟩:=Dg f6 Tryz.underlying25 Auw CA.enc i7 AlT;obtain⟨us,rfl,p⟩:=Dg f7 Tryz.underlying26 Aup Dd.enc uY Ak1;obtain⟨t,rfl,q⟩:=Dg f8 Tryz.underlying27 Avy CG.enc oK AgF;obtain⟨ms,rfl,r⟩:=KP x9 f9;obtain⟨u,rfl,e⟩:=KP s f10;refine⟨⟨k,j,d,xs,ys,M,N,O,R,U,X,L,us,t,ms,u⟩,rfl,?_,?_,(As5 Y).1,(As5 Z).2⟩
 .have S:=T0 [k,j,d,M,N,O,R];have h2:=T0 u;have h3:=T0 ms;have h4:=Ps (f:=CA.sz) (g:=i7) (λx=>by simp only[CA.sz,DU,B6,Hu,i7,bw];omega) L;have h5:=Ps (f:=Dd.sz) (g:=uY) (λx=>by simp only[Dd.sz,DU,B6,Hu,uY,bw];omega) us;have h6:=Ps (f:=CG.sz) (g:=oK) (λx=>by simp only[CG.sz,DU,B6,Hu,oK,bw];omega) t;have h7:=F9 (w:=AB.wt) (l:=xs) (λ_=>by unfold AB.wt;omega);have h8:=F9 (w:=AB.wt) (l:=ys) (λ_=>by unfold AB.wt;omega);simp only[De,bw] at S;unfold Na;simp only[A8,BH] at K i o p q r e⊢;omega
 .simp only[ZU];simp only[A8,BH] at K i⊢;omega
end Go.Ir

namespace Go.Ir
open Go.Proofs
variable{P:Program}{W0:World}{nt n:Nat}{Q:Exit→St→Prop}{env:A9}{σ:Aj}
def nM:IC:=sQ (.block 1 (oS [fA 12 1 0,l1 13 12,m1 14 3,iA 15 13 14 9 1,l1 16 15,nS 17 16,bZ 18 .gtr 17 100] [1,3,18] (cD 18 (oR [mC 2 (.b false)] [2]) .skip))) (oP [m1 10 3,bZ 11 .add 10 1,m1 3 11] [1,3])
def jF:IC:=sQ (.block 3 (oS [fA 26 1 1,l1 27 26,m1 28 4,iA 29 27 28 57 4,fA 30 29 3,l1 31 30,nS 32 31,bZ 33 .gtr 32 300] [1,4,33] (cD 33 (oR [mC 2 (.b false)] [2]) .skip))) (oP [m1 24 4,bZ 25 .add 24 1,m1 4 25] [1,4])
def tN:IC:=oR [fA 34 1 0,l1 35 34,nL 36 35,bZ 37 .leq 36 30,m1 38 37,Dr 39 38 1 1,Dp 40 38 39,gT 41 38 (.lenL (.t 40)),CH 42 38 .leq 41 400,pA 43 38 42,m1 2 43] [2]
def Afs:IC:=sQ (oS [mZ 3 0] [1,3] (.block 0 (.loop (sQ (oS [m1 5 3,fA 6 1 0,l1 7 6,nL 8 7,bT 9 .lss 5 8] [1,3,9] (cD 9 .skip (.exit 0))) nM)))) (sQ (oS [mZ 4 0] [1,4] (.block 2 (.loop (sQ (oS [m1 19 4,fA 20 1 1,l1 21 20,nL 22 21,bT 23 .lss 19 22] [1,4,23] (cD 23 .skip (.exit 2))) jF)))) tN)
def Aet:IC:=oS [bX 1 0,mC 2 (.b false)] [1] Afs
@[push_cast]def AvM:List R:=[.t 2]
@[push_cast]def AyE:=Aq nM.eq_1<|Aq jF.eq_1<|Aq tN.eq_1<|Aq Afs.eq_1<|AM Aet.eq_1
theorem ApL:Au π 12 44 Aet AvM=true:=by kernel_rfl
def uA:IC:=sQ (.block 1 (.ops [fA 15 3 1,l1 16 15,fA 17 1 1,l1 18 17,m1 19 4,iA 20 18 19 57 4,lA 21 20 4,o1 22 (.msl false 54 4 [.t 21]),o1 23 (.app (.t 16) (.t 22) 54 4),fA 24 3 1,sT 24 23 1] [1,2,3,4] [[0,1],[2,3],[3,5],[4,5],[5,6],[6,7],[1,8],[3,5,6,7,8],[5,6,7,8],[6,7,8],[7,8],[1,10],[3,10],[5,10],[6,10],[8,10],[9,10]])) (oP [m1 13 4,bZ 14 .add 13 1,m1 4 14] [1,2,3,4])
def Aer:IC:=sQ (oS [mZ 4 0] [1,2,3,4] (.block 0 (.loop (sQ (oS [m1 8 4,fA 9 1 1,l1 10 9,nL 11 10,bT 12 .lss 8 11] [1,2,3,4,12] (cD 12 .skip (.exit 0))) uA)))) (oR [lA 25 3 2,sT 2 25 2] [2])
def AdN:IC:=oS [bX 1 0,o1 2 (.alloc (.agg [.nil,.nil]))] [1,2] (oS [fA 5 1 0,l1 6 5,o1 7 (.build [.nil,.nil] [(0,1,.t 6)]),o1 3 (.alloc (.agg [.nil,.nil])),sT 3 7 2] [1,2,3] Aer)
@[push_cast]def AtR:List R:=[.c 2 2 true]
@[push_cast]def Ay7:=Aq uA.eq_1<|Aq Aer.eq_1<|AM AdN.eq_1
theorem Asi:Au π 14 26 AdN AtR=true:=by kernel_rfl
def tM:IC:=sQ (oS [m1 13 5,q1 14 62 13,nT 15 14,m1 16 15,Bu 17 16 3,Bu 18 16 5,gF 19 16 (.rdm (.mget .str (.b false) false) (.t 17) [.t 18]),pO 20 16 19] [0,3,5,7,8,9,20] (cD 20 (oR [mC 2 (.b false)] [2]) .skip)) (oP [m1 21 3,m1 22 5,o0 (.wrm (.mput .str) (.t 21) [.t 22,.c (.b true)])] [0,3,7,8,9])
def Afi:IC:=oS [bT 10 .lss 9 8] [0,3,7,8,9,10] (sQ (cD 10 .skip (.exit 0)) (sQ (.block 1 (oS [iA 11 7 9 9 1,l1 12 11,m1 5 12] [0,3,5,7,8,9] tM)) (oP [bZ 23 .add 9 1,m1 9 23] [0,3,7,8,9])))
def AeP:IC:=oS [mC 2 (.b false)] [0] (oS [o1 6 (.mkm .mkmap []),m1 3 6] [0,3] (sQ (oS [m1 7 0,nL 8 7,mZ 9 0] [0,3,7,8,9] (.block 0 (.loop Afi))) (oR [m1 24 0,nL 25 24,bZ 26 .leq 25 20,m1 2 26] [2])))
@[push_cast]def AuG:List R:=[.t 2]
@[push_cast]def Azd:=Aq tM.eq_1<|Aq Afi.eq_1<|AM AeP.eq_1
theorem An0:Au π 56 27 AeP AuG=true:=by kernel_rfl
def rD:IC:=oR [o1 3 (.msl false 9 1 [.c (.s [122,101,114,111]),.c (.s [111,110,101]),.c (.s [116,119,111]),.c (.s [102,101,119]),.c (.s [109,97,110,121]),.c (.s [111,116,104,101,114])]),m1 4 0,q2 5 241 3 4,m1 2 5] [2]
def kH:IC:=oS [mC 2 (.b false)] [0] rD
@[push_cast]def Asn:List R:=[.t 2]
@[push_cast]def Axp:=Aq rD.eq_1<|AM kH.eq_1
theorem Ai8:Au π 183 6 kH Asn=true:=by kernel_rfl
def XU:IC:=oR [m1 16 1,q1 17 183 16,m1 18 17,Bu 19 18 6,Bu 20 18 19,B3 21 20 5,gT 22 20 (.call 67 [.t 21]),gF 23 18 (.pick (.t 20) (.t 22) (.c (.b false))),pO 24 18 23,m1 4 24] [4]
def iH:IC:=sQ (oS [m1 7 0,bZ 8 .eql 7 9] [1,8] (cD 8 (oR [m1 9 1,q1 10 62 9,m1 4 10] [4]) .skip)) (oS [m1 12 1,o1 13 (.call 135 [.t 12,.c (.s [61])]),m1 11 13,xT 14 11 0,xT 15 11 1,m1 5 14,m1 6 15] [1,5,6] XU)
def wP:IC:=oS [mC 4 (.b false)] [0,1] iH
@[push_cast]def Anu:List R:=[.t 4]
@[push_cast]def AwY:=Aq XU.eq_1<|Aq iH.eq_1<|AM wP.eq_1
theorem Tw:Au π 129 25 wP Anu=true:=by kernel_rfl
def nX:IC:=oS [m1 14 4,bC 15 .lss 14 (.i .u8 97),m1 16 15,Bu 17 16 4,gF 18 16 (.bin .gtr (.t 17) (.c (.i .u8 122))),pO 19 16 18] [0,6,7,19] (cD 19 (oR [mC 2 (.b false)] [2]) .skip)
def b8:IC:=sQ (.block 1 (oS [m1 9 7,m1 3 9] [0,3,6,7] (oS [m1 10 0,m1 11 3,o1 12 (.idx (.t 10) (.t 11)),o1 13 (.pu (.bit .or) [.t 12,.c (.i .u8 32)]),m1 4 13] [0,4,6,7] nX))) (oP [bZ 20 .add 7 1,m1 7 20] [0,6,7])
def Agq:IC:=sQ (oS [m1 5 0,nS 6 5,mZ 7 0] [0,6,7] (.block 0 (.loop (oS [bT 8 .lss 7 6] [0,6,7,8] (sQ (cD 8 .skip (.exit 0)) b8))))) (oR [m1 21 0,bC 22 .neq 21 (.s []),m1 23 22,B3 24 23 0,gT 25 23 (.lenS (.t 24)),CH 26 23 .leq 25 40,pA 27 23 26,m1 2 27] [2])
def AdW:IC:=oS [mC 2 (.b false)] [0] Agq
@[push_cast]def AuX:List R:=[.t 2]
@[push_cast]def Ayc:=Aq nX.eq_1<|Aq b8.eq_1<|Aq Agq.eq_1<|AM AdW.eq_1
theorem Anw:Au π 90 28 AdW AuX=true:=by kernel_rfl
def Ae5:IC:=sQ (oS [m1 8 5,fA 9 2 1,l1 10 9,nL 11 10,bT 12 .lss 8 11,m1 13 12,Dr 14 13 2 1,Dp 15 13 14,B3 16 13 5,gT 17 13 (.iaddr (.t 15) (.t 16) 54 4),Dr 18 13 17 0,Dp 19 13 18,CH 20 13 .eql 19 11,pA 21 13 20] [1,2,5,21] (cD 21 .skip (.exit 0))) (.block 1 (oP [m1 22 5,bZ 23 .add 22 1,m1 5 23] [1,2,5]))
def AdH:IC:=oS [m1 6 1,bZ 7 .add 6 1,m1 5 7] [1,2,5] (sQ (.block 0 (.loop Ae5)) (oR [fA 24 2 1,l1 25 24,m1 26 1,bZ 27 .add 26 1,m1 28 5,o1 29 (.slL (.t 25) (some (.t 27)) (some (.t 28)) 4),m1 4 29] [4]))
def Agd:IC:=oS [bX 2 0,mC 4 .nil] [1,2] AdH
@[push_cast]def Au7:List R:=[.t 4]
@[push_cast]def AyM:=Aq Ae5.eq_1<|Aq AdH.eq_1<|AM Agd.eq_1
theorem Aoc:Au π 94 30 Agd Au7=true:=by kernel_rfl
def sN:IC:=sQ (sQ (.ops [fA 19 2 1,l1 20 19,m1 21 1,iA 22 20 21 54 4,fA 23 22 2,l1 24 23,fA 25 8 3,l1 26 25,q2 27 129 24 26,nT 28 27,m1 29 28,Bu 30 29 6,DP 31 29 8 3,Dy 32 29 31,gF 33 29 (.rdm (.mget .str (.b false) false) (.t 30) [.t 32]),pO 34 29 33] [1,2,5,6,8,13,14,15,34] [[0,1],[1,3],[2,3],[3,4],[4,5],[6,7],[5,8],[7,8],[8,9],[9,10],[10,11],[10,12],[10,13],[12,13],[10,14],[11,14],[13,14],[10,15],[14,15]]) (cD 34 (oR [mC 4 (.b false)] [4]) .skip)) (oP [m1 35 6,fA 36 8 3,l1 37 36,o0 (.wrm (.mput .str) (.t 35) [.t 37,.c (.b true)])] [1,2,5,6,13,14,15])
def wM:IC:=sQ (.block 1 (oS [iA 17 13 15 54 4,lA 18 17 4,o1 8 (.alloc (.agg [.i .i64 0,.i .i64 0,.i .i64 0,.s []])),sT 8 18 4] [1,2,5,6,8,13,14,15] sN)) (oP [bZ 38 .add 15 1,m1 15 38] [1,2,5,6,13,14,15])
def lL:IC:=oR [fA 39 2 1,l1 40 39,m1 41 1,iA 42 40 41 54 4,fA 43 42 2,l1 44 43,q1 45 79 44,m1 46 45,B3 47 46 5,gT 48 46 (.lenL (.t 47)),CH 49 46 .geq 48 1,pA 50 46 49,m1 51 50,B3 52 51 5,gT 53 51 (.lenL (.t 52)),CH 54 51 .leq 53 20,pA 55 51 54,m1 56 55,B3 57 56 6,gT 58 56 (.rdm (.mget .str (.b false) false) (.t 57) [.c (.s [111,116,104,101,114])]),pA 59 56 58,m1 4 59] [4]
def AeT:IC:=sQ (oS [m1 13 5,nL 14 13,mZ 15 0] [1,2,5,6,13,14,15] (.block 0 (.loop (oS [bT 16 .lss 15 14] [1,2,5,6,13,14,15,16] (sQ (cD 16 .skip (.exit 0)) wM))))) lL
def Adv:IC:=oS [bX 2 0,mC 4 (.b false)] [1,2] (oS [lA 9 2 2,m1 10 1,q2 11 94 9 10,m1 5 11] [1,2,5] (oS [o1 12 (.mkm .mkmap []),m1 6 12] [1,2,5,6] AeT))
@[push_cast]def Auz:List R:=[.t 4]
@[push_cast]def Azl:=Aq sN.eq_1<|Aq wM.eq_1<|Aq lL.eq_1<|Aq AeT.eq_1<|AM Adv.eq_1
theorem AsA:Au π 91 60 Adv Auz=true:=by kernel_rfl
def Agj:IC:=oR [m1 7 2,m1 8 1,bT 9 .gtr 7 8,m1 10 9,B3 11 10 2,Dr 12 10 3 1,Dp 13 10 12,gT 14 10 (.lenL (.t 13)),gT 15 10 (.bin .lss (.t 11) (.t 14)),pA 16 10 15,m1 17 16,Dr 18 17 3 1,Dp 19 17 18,B3 20 17 2,gT 21 17 (.iaddr (.t 19) (.t 20) 54 4),Dr 22 17 21 0,Dp 23 17 22,CH 24 17 .neq 23 11,pA 25 17 24,m1 6 25] [6]
def Af6:IC:=oS [bX 3 0,mC 6 (.b false)] [1,2,3] Agj
@[push_cast]def AuW:List R:=[.t 6]
@[push_cast]def AxZ:=Aq Agj.eq_1<|AM Af6.eq_1
theorem lU:Au π 92 26 Af6 AuW=true:=by kernel_rfl
def Agc:IC:=sQ (oS [m1 19 0,bZ 20 .lss 19 1,m1 21 20,Bu 22 21 0,D7 23 21 .gtr 22 13,pO 24 21 23] [0,2,4,24] (cD 24 (oR [o1 25 (.build [.b false,.b false,.b false] []),sT 2 25 3,mC 3 (.b false)] [2,3]) .skip)) (oR [m1 26 0,o1 27 (.pu (.aidx 14 3) [.t 4,.t 26]),lA 28 27 3,sT 2 28 3,mC 3 (.b true)] [2,3])
def Aex:IC:=oS [o1 5 (.build [.b false,.b false,.b false] [(2,1,.c (.b true))]),o1 6 (.build [.b false,.b false,.b false] [(2,1,.c (.b true))]),o1 7 (.build [.b false,.b false,.b false] [(2,1,.c (.b true))]),o1 8 (.build [.b false,.b false,.b false] [(2,1,.c (.b true))]),o1 9 (.build [.b false,.b false,.b false] [(0,1,.c (.b true))]),o1 10 (.build [.b false,.b false,.b false] [(0,1,.c (.b true)),(2,1,.c (.b true))]),o1 11 (.build [.b false,.b false,.b false] [(0,1,.c (.b true)),(2,1,.c (.b true))]),o1 12 (.build [.b false,.b false,.b false] [(0,1,.c (.b true)),(2,1,.c (.b true))]),o1 13 (.build [.b false,.b false,.b false] [(0,1,.c (.b true)),(2,1,.c (.b true))]),o1 14 (.build [.b false,.b false,.b false] [(0,1,.c (.b true)),(1,1,.c (.b true))]),o1 15 (.build [.b false,.b false,.b false] [(0,1,.c (.b true)),(2,1,.c (.b true))]),o1 16 (.build [.b false,.b false,.b false] [(0,1,.c (.b true))]),o1 17 (.build [.b false,.b false,.b false] []),o1 18 (.build [.b false,.b false,.b false,.b false,.b false,.b false,.b false,.b false,.b false,.b false,.b false,.b false,.b false,.b false,.b false,.b false,.b false,.b false,.b false,.b false,.b false,.b false,.b false,.b false,.b false,.b false,.b false,.b false,.b false,.b false,.b false,.b false,.b false,.b false,.b false,.b false,.b false,.b false,.b false,.b false,.b false,.b false] [(3,3,.t 5),(6,3,.t 6),(9,3,.t 7),(12,3,.t 8),(15,3,.t 9),(18,3,.t 10),(21,3,.t 11),(24,3,.t 12),(27,3,.t 13),(30,3,.t 14),(33,3,.t 15),(36,3,.t 16),(39,3,.t 17)]),o1 4 (.alloc (.agg [.b false,.b false,.b false,.b false,.b false,.b false,.b false,.b false,.b false,.b false,.b false,.b false,.b false,.b false,.b false,.b false,.b false,.b false,.b false,.b false,.b false,.b false,.b false,.b false,.b false,.b false,.b false,.b false,.b false,.b false,.b false,.b false,.b false,.b false,.b false,.b false,.b false,.b false,.b false,.b false,.b false,.b false])),sT 4 18 42] [0,2,4] Agc
def Aeg:IC:=oS [o1 2 (.alloc (.agg [.b false,.b false,.b false])),mC 3 (.b false)] [0,2] Aex
@[push_cast]def AvY:List R:=[.c 2 3 true,.t 3]
@[push_cast]def Ayo:=Aq Agc.eq_1<|Aq Aex.eq_1<|AM Aeg.eq_1
theorem EM:Au π 89 29 Aeg AvY=true:=by kernel_rfl
def mY:IC:=oS [bZ 91 .eql 82 4,m1 88 91] [1,2,5,82,88] (cD 88 .skip (oS [bZ 92 .eql 82 7,m1 88 92] [1,2,5,82,88] (cD 88 .skip (oP [bZ 93 .eql 82 9,m1 88 93] [1,2,5,82,88]))))
def lX:IC:=oR [fA 99 5 3,l1 100 99,bC 101 .eql 100 (.s []),m1 102 101,DP 103 102 5 3,Dy 104 102 103,gF 105 102 (.bin .eql (.t 104) (.c (.s [105,110,116,101,103,101,114]))),pO 106 102 105,m1 107 106,DP 108 107 5 3,Dy 109 107 108,gF 110 107 (.bin .eql (.t 109) (.c (.s [112,101,114,99,101,110,116]))),pO 111 107 110,m1 4 111] [4]
def iY:IC:=oR [m1 124 1,bZ 125 .gtr 124 0,m1 126 125,Dr 127 126 2 1,Dp 128 126 127,B3 129 126 1,CH 130 126 .sub 129 1,gT 131 126 (.iaddr (.t 128) (.t 130) 54 4),Dr 132 126 131 0,Dp 133 126 132,CH 134 126 .eql 133 10,B3 135 126 134,DP 136 135 2 1,Dy 137 135 136,Bu 138 135 1,D7 139 135 .sub 138 1,gF 140 135 (.iaddr (.t 137) (.t 139) 54 4),DP 141 135 140 0,Dy 142 135 141,D7 143 135 .eql 142 11,gT 144 126 (.pick (.t 135) (.c (.b true)) (.t 143)),pA 145 126 144,m1 146 145,gT 147 146 (.load (.t 2) 2 true),B3 148 146 1,Dr 149 146 5 1,Dp 150 146 149,gT 151 146 (.call 92 [.t 147,.t 148,.t 150]),pA 152 146 151,m1 4 152] [4]
def eN:IC:=oS [bZ 161 .eql 82 13,m1 160 161] [1,2,160] (cD 160 (oR [m1 162 1,fA 163 2 1,l1 164 163,nL 165 164,bZ 166 .sub 165 1,bT 167 .eql 162 166,m1 4 167] [4]) .skip)
def yL:IC:=oS [bZ 154 .eql 82 12,m1 153 154] [1,2,5,82,153] (cD 153 (oR [lA 155 2 2,m1 156 1,fA 157 5 1,l1 158 157,q3 159 92 155 156 158,m1 4 159] [4]) eN)
def eL:IC:=oS [bZ 118 .eql 82 10,m1 117 118] [1,2,5,82,117] (cD 117 (oR [lA 119 2 2,m1 120 1,q2 121 91 119 120,m1 4 121] [4]) (oS [bZ 123 .eql 82 11,m1 122 123] [1,2,5,82,122] (cD 122 iY yL)))
def pN:IC:=oS [bZ 98 .eql 82 6,m1 97 98] [1,2,5,82,97] (cD 97 lX (oS [bZ 113 .eql 82 8,m1 112 113] [1,2,5,82,112] (cD 112 (oR [fA 114 5 3,l1 115 114,q1 116 90 115,m1 4 116] [4]) eL)))
def lP:IC:=sQ (oS [bZ 89 .eql 82 2,m1 88 89] [1,2,5,82,88] (cD 88 .skip (oS [bZ 90 .eql 82 3,m1 88 90] [1,2,5,82,88] (cD 88 .skip mY)))) (cD 88 (oR [fA 94 5 3,l1 95 94,q1 96 62 95,m1 4 96] [4]) pN)
def fJ:IC:=sQ (oS [fA 81 5 0,l1 82 81] [1,2,5,82] (.block 0 (oS [bZ 84 .eql 82 1,m1 83 84] [1,2,5,82,83] (cD 83 (oR [fA 85 5 3,l1 86 85,bC 87 .neq 86 (.s []),m1 4 87] [4]) lP)))) (oR [mC 4 (.b true)] [4])
def dA:IC:=sQ (oS [fA 60 5 0,l1 61 60,bZ 62 .geq 61 5,m1 63 62,Dr 64 63 5 0,Dp 65 63 64,CH 66 63 .leq 65 10,pA 67 63 66,m1 68 67,Dr 69 68 5 1,Dp 70 68 69,CH 71 68 .lss 70 0,B3 72 68 71,DP 73 72 5 1,Dy 74 72 73,DP 75 72 2 0,Dy 76 72 75,gF 77 72 (.lenL (.t 76)),gF 78 72 (.bin .geq (.t 74) (.t 77)),gT 79 68 (.pick (.t 72) (.c (.b true)) (.t 78)),pA 80 68 79] [1,2,5,80] (cD 80 (oR [mC 4 (.b false)] [4]) .skip)) fJ
def pU:IC:=sQ (oS [m1 28 7,nT 29 28,m1 30 29,DP 31 30 6 0,Dy 32 30 31,gF 33 30 (.not (.t 32)),Bu 34 30 33,Dr 35 34 5 1,Dp 36 34 35,CH 37 34 .neq 36 0,gF 38 30 (.pick (.t 34) (.t 37) (.c (.b false))),pO 39 30 38,m1 40 39,DP 41 40 6 1,Dy 42 40 41,gF 43 40 (.not (.t 42)),Bu 44 40 43,Dr 45 44 5 2,Dp 46 44 45,CH 47 44 .neq 46 0,gF 48 40 (.pick (.t 44) (.t 47) (.c (.b false))),pO 49 40 48,m1 50 49,DP 51 50 6 2,Dy 52 50 51,gF 53 50 (.not (.t 52)),Bu 54 50 53,Dr 55 54 5 3,Dp 56 54 55,gT 57 54 (.bin .neq (.t 56) (.c (.s []))),gF 58 50 (.pick (.t 54) (.t 57) (.c (.b false))),pO 59 50 58] [1,2,5,59] (cD 59 (oR [mC 4 (.b false)] [4]) .skip)) dA
def eW:IC:=oS [fA 23 5 0,l1 24 23,q1 25 89 24,m1 22 25,xT 26 22 0,xT 27 22 1,o1 6 (.alloc (.agg [.b false,.b false,.b false])),sT 6 26 3,m1 7 27] [1,2,5,6,7] pU
def AdF:IC:=oS [fA 17 2 1,l1 18 17,m1 19 1,iA 20 18 19 54 4,lA 21 20 4,o1 5 (.alloc (.agg [.i .i64 0,.i .i64 0,.i .i64 0,.s []])),sT 5 21 4] [1,2,5] eW
def Agk:IC:=sQ (oS [m1 8 1,bZ 9 .lss 8 0,m1 10 9,Bu 11 10 1,DP 12 10 2 1,Dy 13 10 12,gF 14 10 (.lenL (.t 13)),gF 15 10 (.bin .geq (.t 11) (.t 14)),pO 16 10 15] [1,2,16] (cD 16 (oR [mC 4 (.b false)] [4]) .skip)) AdF
def Ae1:IC:=oS [bX 2 0,mC 4 (.b false)] [1,2] Agk
@[push_cast]def AvH:List R:=[.t 4]
@[push_cast]def AyQ:=Aq mY.eq_1<|Aq lX.eq_1<|Aq iY.eq_1<|Aq eN.eq_1<|Aq yL.eq_1<|Aq eL.eq_1<|Aq pN.eq_1<|Aq lP.eq_1<|Aq fJ.eq_1<|Aq dA.eq_1<|Aq pU.eq_1<|Aq eW.eq_1<|Aq AdF.eq_1<|Aq Agk.eq_1<|AM Ae1.eq_1
theorem EE:Au π 57 168 Ae1 AvH=true:=by kernel_rfl
def Vs:IC:=.ops [m1 25 0,nC 26 25,fA 27 26 1,l1 28 27,m1 29 1,nC 30 29,fA 31 30 1,l1 32 31,m1 0 28,m1 1 32] [0,1] [[0,1],[1,2],[2,3],[4,5],[5,6],[6,7],[0,8],[3,8],[4,9],[7,9]]
def nN:IC:=.block 1 (sQ (sQ (.ops [m1 16 0,nC 17 16,fA 18 17 0,l1 19 18,m1 20 1,nC 21 20,fA 22 21 0,l1 23 22,bT 24 .neq 19 23] [0,1,24] [[0,1],[1,2],[2,3],[4,5],[5,6],[6,7],[3,8],[7,8]]) (cD 24 (oR [mC 4 (.b false)] [4]) .skip)) Vs)
def qF:IC:=sQ (oS [m1 5 0,o1 6 (.pu (.nilq .p true) [.t 5]),m1 7 6,B3 8 7 1,gT 9 7 (.pu (.nilq .p true) [.t 8]),pA 10 7 9,m1 11 10,B3 12 11 0,B3 13 11 1,gT 14 11 (.eqr true (.t 12) (.t 13)),pA 15 11 14] [0,1,15] (cD 15 .skip (.exit 0))) nN
def uB:IC:=oS [mC 4 (.b false)] [0,1] (sQ (.block 0 (.loop qF)) (oR [m1 33 0,m1 34 1,o1 35 (.eqr false (.t 33) (.t 34)),m1 4 35] [4]))
@[push_cast]def AqY:List R:=[.t 4]
@[push_cast]def AwI:=Aq Vs.eq_1<|Aq nN.eq_1<|Aq qF.eq_1<|AM uB.eq_1
theorem Alz:Au π 130 36 uB AqY=true:=by kernel_rfl
def Afl:IC:=sQ (.ops [m1 13 0,nC 14 13,fA 15 14 4,l1 16 15,m1 17 1,m1 18 0,nC 19 18,fA 20 19 4,l1 21 20,m1 22 1,iA 23 21 22 4 1,l1 24 23,m1 25 24,Bu 26 25 0,gF 27 25 (.nilck (.t 26)),DP 28 25 27 2,Dy 29 25 28,Bu 30 25 1,gF 31 25 (.iaddr (.t 29) (.t 30) 195 1),Dy 32 25 31,Bu 33 25 2,gF 34 25 (.callr 130 [.t 32,.t 33]),gF 35 25 (.not (.t 34)),pO 36 25 35,iA 37 16 17 4 1,sT 37 36 1] [] [[0,1],[1,2],[2,3],[5,6],[6,7],[7,8],[8,10],[9,10],[10,11],[11,12],[12,13],[12,14],[13,14],[12,15],[14,15],[12,16],[15,16],[12,17],[12,18],[16,18],[17,18],[12,19],[18,19],[12,20],[12,21],[19,21],[20,21],[12,22],[21,22],[12,23],[22,23],[3,24],[4,24],[3,25],[8,25],[10,25],[11,25],[16,25],[18,25],[19,25],[21,25],[23,25],[24,25]]) .ret
def AdG:IC:=.ops [m1 38 0,nC 39 38,fA 40 39 3,l1 41 40,m1 42 1,m1 43 0,nC 44 43,fA 45 44 2,l1 46 45,m1 47 1,m1 48 2,iA 49 41 42 4 1,o0 (.store (.t 49) (.c (.b true)) 1),iA 50 46 47 195 1,sT 50 48 1] [] [[0,1],[1,2],[2,3],[5,6],[6,7],[7,8],[3,11],[4,11],[3,12],[8,12],[11,12],[8,13],[9,13],[12,13],[3,14],[8,14],[10,14],[11,14],[12,14],[13,14]]
def AfY:IC:=sQ (oS [m1 6 0,nC 7 6,fA 8 7 3,l1 9 8,m1 10 1,iA 11 9 10 4 1,l1 12 11] [0,1,2,12] (cD 12 Afl .skip)) AdG
@[push_cast]def AvL:List R:=[]
@[push_cast]def AxQ:=Aq Afl.eq_1<|Aq AdG.eq_1<|AM AfY.eq_1
theorem AnM:Au π 93 51 AfY AvL=true:=by kernel_rfl
def uV:IC:=sQ (.block 2 (oS [iA 60 56 58 54 4,lA 61 60 4,o1 8 (.alloc (.agg [.i .i64 0,.i .i64 0,.i .i64 0,.s []])),sT 8 61 4] [0,5,8,56,57,58] (oP [m1 62 0,fA 63 8 1,l1 64 63,m1 65 5,o1 66 (.calls 93 [.t 62,.t 64,.t 65])] [0,5,56,57,58]))) (oP [bZ 67 .add 58 1,m1 58 67] [0,5,56,57,58])
def gR:IC:=oS [m1 51 0,nC 52 51,fA 53 52 0,lA 54 53 2,m1 55 1,q2 56 94 54 55,nL 57 56,mZ 58 0] [0,5,56,57,58] (.block 1 (.loop (oS [bT 59 .lss 58 57] [0,5,56,57,58,59] (sQ (cD 59 .skip (.exit 1)) uV))))
def fC:IC:=oP [m1 70 0,m1 71 1,bZ 72 .add 71 1,fA 73 6 3,l1 74 73,m1 75 5,o1 76 (.build [.s [],.np] [(0,1,.t 74),(1,1,.t 75)]),bX 77 76,o1 78 (.calls 93 [.t 70,.t 72,.t 77])] []
def qS:IC:=sQ (sQ (.ops [m1 81 5,o1 82 (.pu (.nilq .p false) [.t 81]),m1 83 82,Bu 84 83 5,gF 85 83 (.nilck (.t 84)),DP 86 83 85 0,Dy 87 83 86,DP 88 83 6 3,Dy 89 83 88,gF 90 83 (.bin .neq (.t 87) (.t 89)),pO 91 83 90] [0,1,5,91] [[0,1],[1,2],[2,3],[2,4],[3,4],[2,5],[4,5],[2,6],[5,6],[2,7],[2,8],[7,8],[2,9],[6,9],[8,9],[2,10],[9,10]]) (cD 91 (oR [mC 4 (.b false)] [4]) .skip)) (oP [m1 92 0,m1 93 1,bZ 94 .add 93 1,m1 95 5,nC 96 95,fA 97 96 1,l1 98 97,o1 99 (.calls 93 [.t 92,.t 94,.t 98])] [])
def mI:IC:=oS [bZ 80 .eql 32 3,m1 79 80] [0,1,5,6,79] (cD 79 qS (oP [m1 33 0,m1 34 1,bZ 35 .add 34 1,m1 36 5,o1 37 (.calls 93 [.t 33,.t 35,.t 36])] []))
def qO:IC:=oS [bZ 43 .eql 32 12,m1 42 43] [0,1,5,6,32,42] (cD 42 (oP [m1 44 0,fA 45 6 1,l1 46 45,m1 47 5,o1 48 (.calls 93 [.t 44,.t 46,.t 47])] []) (oS [bZ 50 .eql 32 10,m1 49 50] [0,1,5,6,32,49] (cD 49 gR (oS [bZ 69 .eql 32 2,m1 68 69] [0,1,5,6,32,68] (cD 68 fC mI)))))
def uS:IC:=sQ (oS [m1 23 0,nC 24 23,fA 25 24 0,fA 26 25 1,l1 27 26,m1 28 1,iA 29 27 28 54 4,lA 30 29 4,o1 6 (.alloc (.agg [.i .i64 0,.i .i64 0,.i .i64 0,.s []])),sT 6 30 4] [0,1,5,6] (oS [fA 31 6 0,l1 32 31] [0,1,5,6,32] (.block 0 (oS [bZ 39 .eql 32 13,m1 38 39] [0,1,5,6,32,38] (cD 38 (oR [m1 40 5,o1 41 (.pu (.nilq .p false) [.t 40]),m1 4 41] [4]) qO))))) (oR [mC 4 (.b true)] [4])
def AeX:IC:=sQ (oS [m1 9 0,nC 10 9,fA 11 10 4,l1 12 11,m1 13 1,iA 14 12 13 4 1,l1 15 14] [0,1,15] (cD 15 (oR [mC 4 (.b false)] [4]) .skip)) (oS [m1 16 0,nC 17 16,fA 18 17 2,l1 19 18,m1 20 1,iA 21 19 20 195 1,l1 22 21,m1 5 22] [0,1,5] uS)
def AfH:IC:=oS [mC 4 (.b false)] [0,1] AeX
@[push_cast]def AuE:List R:=[.t 4]
@[push_cast]def Azm:=Aq uV.eq_1<|Aq gR.eq_1<|Aq fC.eq_1<|Aq qS.eq_1<|Aq mI.eq_1<|Aq qO.eq_1<|Aq uS.eq_1<|Aq AeX.eq_1<|AM AfH.eq_1
theorem Arq:Au π 58 100 AfH AuE=true:=by kernel_rfl
def iP:IC:=sQ (.block 1 (oS [m1 23 21,m1 6 23] [1,5,6,20,21] (oS [lA 24 1 2,m1 25 6,q2 26 57 24 25,nT 27 26] [1,5,6,20,21,27] (cD 27 (oR [m1 28 6,mC 2 .np,m1 3 28,mZ 4 4] [2,3,4]) .skip)))) (oP [bZ 29 .add 21 1,m1 21 29] [1,5,20,21])
def jL:IC:=sQ (.opxq [m1 61 7,nC 62 61,fA 63 62 3,l1 64 63,m1 65 8,iA 66 64 65 4 1,l1 67 66,m1 68 67,B3 69 68 7,B3 70 68 8] [7,8,57,58,68,69,70] 71 68 true 58 [.t 69,.t 70] [gT 72 68 (.not (.t 71)),pA 73 68 72] [7,8,57,58,73]) (cD 73 (oR [m1 74 8,mC 2 .np,m1 3 74,mZ 4 7] [2,3,4]) .skip)
def fY:IC:=oS [bT 59 .lss 58 57] [7,57,58,59] (sQ (cD 59 .skip (.exit 2)) (sQ (.block 3 (oS [m1 60 58,m1 8 60] [7,8,57,58] jL)) (oP [bZ 75 .add 58 1,m1 58 75] [7,57,58])))
def yA:IC:=oS [m1 52 7,nC 53 52,fA 54 53 3,l1 55 54,o1 56 (.iaddr (.t 55) (ci 0) 4 1),o0 (.store (.t 56) (.c (.b true)) 1)] [5,7] (sQ (oS [m1 57 5,mZ 58 0] [7,57,58] (.block 2 (.loop fY))) (oR [m1 76 7,m1 2 76,mZ 3 0,mZ 4 0] [2,3,4]))
def lF:IC:=sQ (.ops [lA 43 1 2,m1 44 5,o1 45 (.mksl (.t 44) (.t 44) .np 195 1),m1 46 5,o1 47 (.mksl (.t 46) (.t 46) (.b false) 4 1),m1 48 5,o1 49 (.mksl (.t 48) (.t 48) (.b false) 4 1),o1 50 (.build [.nil,.nil,.nil,.nil,.nil] [(0,2,.t 43),(2,1,.t 45),(3,1,.t 47),(4,1,.t 49)]),bX 51 50,m1 7 51] [5,7] [[1,2],[3,4],[5,6],[0,7],[2,7],[4,7],[6,7],[7,8],[8,9]]) yA
def dK:IC:=sQ (oS [m1 30 5,bZ 31 .eql 30 0,m1 32 31,DP 33 32 1 1,Dy 34 32 33,Bu 35 32 5,D7 36 32 .sub 35 1,gF 37 32 (.iaddr (.t 34) (.t 36) 54 4),DP 38 32 37 0,Dy 39 32 38,D7 40 32 .neq 39 13,pO 41 32 40] [1,5,41] (cD 41 (oR [m1 42 5,mC 2 .np,m1 3 42,mZ 4 4] [2,3,4]) .skip)) lF
def iF:IC:=sQ (oS [fA 18 1 1,l1 19 18,nL 20 19,mZ 21 0] [1,5,20,21] (.block 0 (.loop (oS [bT 22 .lss 21 20] [1,5,20,21,22] (sQ (cD 22 .skip (.exit 0)) iP))))) dK
def Aew:IC:=oS [fA 13 1 1,l1 14 13,nL 15 14,m1 5 15] [1,5] (sQ (oS [m1 16 5,bZ 17 .gtr 16 10000] [1,5,17] (cD 17 (oR [mC 2 .np,mZ 3 0,mZ 4 6] [2,3,4]) .skip)) iF)
def AeU:IC:=oS [bX 1 0,mC 2 .np,mZ 3 0,mZ 4 0] [1] (sQ (oS [fA 9 1 0,l1 10 9,q1 11 56 10,nT 12 11] [1,12] (cD 12 (oR [mC 2 .np,mZ 3 0,mZ 4 1] [2,3,4]) .skip)) Aew)
@[push_cast]def Au0:List R:=[.t 2,.t 3,.t 4]
@[push_cast]def AyO:=Aq iP.eq_1<|Aq jL.eq_1<|Aq fY.eq_1<|Aq yA.eq_1<|Aq lF.eq_1<|Aq dK.eq_1<|Aq iF.eq_1<|Aq Aew.eq_1<|AM AeU.eq_1
theorem Aq4:Au π 34 77 AeU Au0=true:=by kernel_rfl
def AeG:IC:=oS [bX 1 0,mZ 2 0,mZ 3 0] [1] (oS [lA 5 1 2,q1 6 34 5,m1 4 6,xT 7 4 0,xT 8 4 1,xT 9 4 2,m1 2 8,m1 3 9] [2,3] (oR [m1 10 2,m1 11 3,m1 2 10,m1 3 11] [2,3]))
@[push_cast]def Av1:List R:=[.t 2,.t 3]
@[push_cast]def AxR:=AM AeG.eq_1
theorem AsK:Au π 17 12 AeG Av1=true:=by kernel_rfl
def pG:IC:=oS [bZ 16 .eql 5 10,m1 15 16] [1,15] (cD 15 (sQ (oS [fA 17 1 2,l1 18 17,bZ 19 .eql 18 9] [19] (cD 19 (oR [mZ 2 1,mC 3 (.b true)] [2,3]) .skip)) (oR [mZ 2 2,mC 3 (.b true)] [2,3])) .skip)
def nG:IC:=cD 8 (oR [mZ 2 2,mC 3 (.b true)] [2,3]) (oS [bZ 12 .eql 5 8,m1 11 12] [1,5,11] (cD 11 (oR [mZ 2 3,mC 3 (.b true)] [2,3]) (oS [bZ 14 .eql 5 9,m1 13 14] [1,5,13] (cD 13 (oR [mZ 2 4,mC 3 (.b true)] [2,3]) pG))))
def Afm:IC:=sQ (oS [fA 4 1 0,l1 5 4] [1,5] (.block 0 (oS [bZ 7 .eql 5 5,m1 6 7] [1,5,6] (cD 6 (oR [mZ 2 0,mC 3 (.b true)] [2,3]) (sQ (oS [bZ 9 .eql 5 6,m1 8 9] [1,5,8] (cD 8 .skip (oP [bZ 10 .eql 5 7,m1 8 10] [1,5,8]))) nG))))) (oR [mZ 2 0,mC 3 (.b false)] [2,3])
def Af5:IC:=oS [bX 1 0,mZ 2 0,mC 3 (.b false)] [1] Afm
@[push_cast]def Au9:List R:=[.t 2,.t 3]
@[push_cast]def Ay4:=Aq pG.eq_1<|Aq nG.eq_1<|Aq Afm.eq_1<|AM Af5.eq_1
theorem Aem:Au π 49 20 Af5 Au9=true:=by kernel_rfl
def tU:IC:=oS [m1 56 13,m1 57 10,q2 58 50 56 57,m1 55 58,xT 59 55 0,xT 60 55 1,m1 15 59,m1 16 60] [1,6,7,12,15,16,29,30,31] (oP [m1 61 15,m1 62 7,m1 63 62,Bu 64 63 16,gF 65 63 (.not (.t 64)),pO 66 63 65,m1 10 61,m1 7 66] [1,6,7,10,12,29,30,31])
def tT:IC:=sQ (oS [m1 49 6,m1 50 12,o1 51 (.rdm (.mget .str (.i .i64 0) true) (.t 49) [.t 50]),m1 48 51,xT 52 48 0,xT 53 48 1,m1 13 52,m1 14 53] [1,6,7,10,12,13,14,29,30,31] (oS [m1 54 14] [1,6,7,10,12,13,29,30,31,54] (cD 54 tU .skip))) (oP [m1 67 6,m1 68 12,m1 69 10,o0 (.wrm (.mput .str) (.t 67) [.t 68,.t 69])] [1,6,7,29,30,31])
def vX:IC:=sQ (oS [m1 40 11,nT 41 40] [1,6,7,9,10,29,30,31,41] (cD 41 (.exit 1) .skip)) (oS [fA 42 1 0,l1 43 42,fA 44 9 1,l1 45 44,iA 46 43 45 9 1,l1 47 46,m1 12 47] [1,6,7,10,12,29,30,31] tT)
def qB:IC:=sQ (.block 1 (oS [iA 33 29 31 54 4,lA 34 33 4,o1 9 (.alloc (.agg [.i .i64 0,.i .i64 0,.i .i64 0,.s []])),sT 9 34 4] [1,6,7,9,29,30,31] (oS [lA 36 9 4,q1 37 49 36,m1 35 37,xT 38 35 0,xT 39 35 1,m1 10 38,m1 11 39] [1,6,7,9,10,11,29,30,31] vX))) (oP [bZ 70 .add 31 1,m1 31 70] [1,6,7,29,30,31])
def xI:IC:=oP [m1 80 17,m1 81 19,m1 82 6,m1 83 19,o1 84 (.rdm (.mget .str (.i .i64 0) false) (.t 82) [.t 83]),o1 85 (.build [.s [],.i .i64 0] [(0,1,.t 81),(1,1,.t 84)]),o1 86 (.msl false 86 2 [.t 85]),o1 87 (.app (.t 80) (.t 86) 86 2),m1 17 87] [6,17,74,75,76]
def cW:IC:=oS [bT 77 .lss 76 75] [6,17,74,75,76,77] (sQ (cD 77 .skip (.exit 2)) (sQ (.block 3 (oS [iA 78 74 76 9 1,l1 79 78,m1 19 79] [6,17,19,74,75,76] xI)) (oP [bZ 88 .add 76 1,m1 76 88] [6,17,74,75,76])))
def mG:IC:=sQ (sQ (.opx [m1 72 6] [6,17,72] 73 52 [.t 72] [o1 74 (.calln 51 [.t 73]),nL 75 74,mZ 76 0] [6,17,74,75,76]) (.block 2 (.loop cW))) (oR [m1 89 17,m1 2 89,mZ 3 0] [2,3])
def xP:IC:=sQ (oS [fA 28 1 1,l1 29 28,nL 30 29,mZ 31 0] [1,6,7,29,30,31] (.block 0 (.loop (oS [bT 32 .lss 31 30] [1,6,7,29,30,31,32] (sQ (cD 32 .skip (.exit 0)) qB))))) (sQ (oS [m1 71 7] [6,71] (cD 71 (oR [mC 2 .nil,mZ 3 11] [2,3]) .skip)) (oS [mC 17 .nil] [6,17] mG))
def AeO:IC:=sQ (oS [lA 21 1 2,q1 22 17 21,m1 20 22,xT 23 20 0,xT 24 20 1,m1 4 23,m1 5 24] [1,5] (oS [m1 25 5,bZ 26 .neq 25 0] [1,26] (cD 26 (oR [mC 2 .nil,mZ 3 1] [2,3]) .skip))) (oS [o1 27 (.mkm .mkmap []),m1 6 27] [1,6] (oS [mC 7 (.b false)] [1,6,7] xP))
def Aeb:IC:=oS [bX 1 0,mC 2 .nil,mZ 3 0] [1] AeO
@[push_cast]def AvT:List R:=[.t 2,.t 3]
@[push_cast]def AyB:=Aq tU.eq_1<|Aq tT.eq_1<|Aq vX.eq_1<|Aq qB.eq_1<|Aq xI.eq_1<|Aq cW.eq_1<|Aq mG.eq_1<|Aq xP.eq_1<|Aq AeO.eq_1<|AM Aeb.eq_1
theorem Ad2:Au π 30 90 Aeb AvT=true:=by kernel_rfl
end Go.Ir

namespace Go.Ir
structure Az where
 op:Int
 a:Int
 b:Int
 s:Aa
def Az.enc(x:Az):V:=.agg [.i .i64 x.op,.i .i64 x.a,.i .i64 x.b,.s x.s]
theorem Az.enc_eq(x:Az):x.enc=.agg [.i .i64 x.op,.i .i64 x.a,.i .i64 x.b,.s x.s]:=rfl
def AJ(names:List Aa)(ins:List Az):V:=.agg [.sl (names.map V.s),.sl (ins.map Az.enc)]
def Fl(seen:List Aa):List Aa->Bool
 | []=>true
 | x::r=>if !Cy x||seen.contains x then false else Fl (seen++[x]) r
def EJ(l:List Aa):Bool:=Fl [] l&&decide ((l.length:Int)<=20)
def BG:List Az->List Az
 | []=>[]
 | x::r=>if x.op==11 then x::BG r else[]
def LJ(a:Int)(seen:List Aa):List Az->Bool
 | []=>true
 | x::r=>if !Rz a x.s||seen.contains x.s then false else LJ a (seen++[x.s]) r
def eK(a:Int)(l:List Az):Bool:=LJ a [] l&&(decide ((l.length:Int)<=20)&&(l.map (·.s)).contains CO)
def Eg(ins:List Az)(k:Nat):Int:=match ins[k]? with
 | some x=>x.op
 | none=>0
def Li(ins:List Az)(i:Nat)(a:Int):Bool:=!decide (a<=(i:Int))&&(!decide (a>=(ins.length:Int))&&!(Eg ins a.toNat==11))
def IM(nn:Nat)(a:Int):Bool:=!decide (a<0)&&!decide (a>=(nn:Int))
def AI(nn:Nat)(ins:List Az)(i:Nat)(x:Az):Bool:=
 if x.op==1 then !(x.a !=0)&&(!(x.b !=0)&&!(x.s==[]))
 else if x.op==2||(x.op==3||x.op==4) then !(x.a !=0)&&(!(x.b !=0)&&Cy x.s)
 else if x.op==5 then IM nn x.a&&(!(x.b !=0)&&x.s==[])
 else if x.op==6 then IM nn x.a&&(!(x.b !=0)&&(x.s==[]||(x.s==[105,110,116,101,103,101,114]||x.s==[112,101,114,99,101,110,116])))
 else if x.op==7||x.op==9 then IM nn x.a&&(!(x.b !=0)&&Cy x.s)
 else if x.op==8 then IM nn x.a&&(!(x.b !=0)&&E6 x.s)
 else if x.op==10 then IM nn x.a&&(x.s==[]&&(Dm x.b&&eK x.b (BG (ins.drop (i+1)))))
 else if x.op==11 then Li ins i x.a&&(!(x.b !=0)&&(decide ((i:Int)>0)&&(Eg ins (i-1)==10||Eg ins (i-1)==11)))
 else if x.op==12 then Li ins i x.a&&(!(x.b !=0)&&x.s==[])
 else if x.op==13 then !(x.a !=0)&&(!(x.b !=0)&&(x.s==[]&&(i:Int)==(ins.length:Int)-1))
 else false
def Ci(nn:Nat)(ins:List Az):Nat->List Az->Int
 | _,[]=>-1
 | i,x::r=>if AI nn ins i x then Ci nn ins (i+1) r else i
abbrev Ro:=List (Bool×List Aa)×List Bool
def UG(st:Ro)(o:List Aa)(j:Int):Ro:=
 (st.1.set j.toNat (true,o),st.2.set j.toNat (st.2.getD j.toNat false||((st.1.getD j.toNat (false,[])).1&&!((st.1.getD j.toNat (false,[])).2==o))))
def EI(ins:List Az)(i:Nat)(x:Az):List Int:=
 if x.op==10 then(BG (ins.drop (i+1))).map (·.a) else if x.op==12 then[x.a] else if x.op==13 then[] else[(i:Int)+1]
def eH(x:Az)(o:List Aa):Option (List Aa):=
 if x.op==2 then some (o++[x.s])
 else if x.op==3 then(if o.isEmpty then none else if o.getLastD []==x.s then some o.dropLast else none)
 else if x.op==13 then(if o.isEmpty then some o else none)
 else some o
def NH(ins:List Az):Nat->List Az->Ro->Int
 | _,[],_=>-1
 | i,x::r,st=>if(st.1.getD i (false,[])).1 then(if st.2.getD i false then i else match eH x (st.1.getD i (false,[])).2 with
  | none=>i
  | some o=>NH ins (i+1) r ((EI ins i x).foldl (λst j=>UG st o j) st)) else NH ins (i+1) r st
structure Ef where
 op:List (List Aa)
 re:List Bool
 cl:List Bool
def HM(st:Ef)(o:List Aa)(j:Int):Ef:=
 if st.re.getD j.toNat false then{ st with cl:=st.cl.set j.toNat (st.cl.getD j.toNat false||!(st.op.getD j.toNat []==o)) }
 else{ st with re:=st.re.set j.toNat true,op:=st.op.set j.toNat o }
def Du(x:Az)(o:List Aa):Option (List Aa):=
 if x.op==2 then some (x.s::o)
 else if x.op==3 then(match o with
  | []=>none
  | t::r=>if t==x.s then some r else none)
 else if x.op==13 then(if o.isEmpty then some o else none)
 else some o
def Qm(ins:List Az)(i:Nat)(x:Az)(st:Ef):Option Ef:=
 if st.cl.getD i false then none else match Du x (st.op.getD i []) with
  | none=>none
  | some o=>some ((EI ins i x).foldl (λst j=>HM st o j) st)
def Gy(ins:List Az):Nat->List Az->Ef->Int
 | _,[],_=>-1
 | i,x::r,st=>if st.re.getD i false then(match Qm ins i x st with
  | none=>i
  | some a=>Gy ins (i+1) r a) else Gy ins (i+1) r st
structure ZY (n:Nat) (s:Ro) (p:Ef):Prop where
 l1:s.1.length=n
 l2:s.2.length=n
 l3:p.op.length=n
 l4:p.re.length=n
 l5:p.cl.length=n
 re:∀j,j<n->(s.1.getD j (false,[])).1=p.re.getD j false
 cl:∀j,j<n->s.2.getD j false=p.cl.getD j false
 op:∀j,j<n->p.re.getD j false=true->p.cl.getD j false=false->(s.1.getD j (false,[])).2=(p.op.getD j []).reverse
theorem BR{b:Type}(l:List b)(i j:Nat)(x d:b)(h:i<l.length):(l.set i x).getD j d=if i=j then x else l.getD j d:=by
 rw[Atj,List.getElem?_set,Atj];by_cases a:i=j
 .subst a;rw[if_pos rfl,if_pos h,if_pos rfl];rfl
 .rw[if_neg a,if_neg a]
theorem AbA(a b:List Aa):(a.reverse==b.reverse)=(a==b):=by rw[AtV];simp
theorem aI{n:Nat}{s:Ro}{p:Ef}(h:ZY n s p)(o:List Aa)(j:Int)(f:j.toNat<n):ZY n (UG s o.reverse j) (HM p o j):=by
 obtain⟨l1,t,u,v,x,m,cl,op⟩:=h;generalize y:j.toNat=k at f;have g:=m k f;have q:=cl k f;have r:=op k f;unfold UG HM;rw[y];cases e:p.re.getD k false with
 | true=>
  rw[e] at g r;rw[if_pos rfl];refine⟨by simp[l1],by simp[t],u,v,by simp[x],λi b=>?_,λi b=>?_,λi b d c=>?_⟩
  .simp only;rw[BR _ _ _ _ _ (by omega)];by_cases a:k=i
   .subst a;rw[if_pos rfl];exact e.symm
   .rw[if_neg a];exact m i b
  .simp only;rw[BR _ _ _ _ _ (by omega),BR _ _ _ _ _ (by omega)];by_cases a:k=i
   .subst a;rw[if_pos rfl,if_pos rfl,q,g];cases l:p.cl.getD k false with
    | true=>rfl
    | false=>rw[r rfl l,AbA];rfl
   .rw[if_neg a,if_neg a];exact cl i b
  .simp only at d c⊢;rw[BR _ _ _ _ _ (by omega)] at c⊢;by_cases a:k=i
   .subst a;rw[if_pos rfl] at c⊢;simp only[Ayv,A0b,beq_iff_eq] at c;rw[c.2]
   .rw[if_neg a] at c⊢;exact op i b d c
 | false=>
  rw[e] at g;rw[if_neg (by simp)];refine⟨by simp[l1],by simp[t],by simp[u],by simp[v],x,λi b=>?_,λi b=>?_,λi b d c=>?_⟩
  .simp only;rw[BR _ _ _ _ _ (by omega),BR _ _ _ _ _ (by omega)];by_cases a:k=i
   .subst a;rw[if_pos rfl,if_pos rfl]
   .rw[if_neg a,if_neg a];exact m i b
  .simp only;rw[BR _ _ _ _ _ (by omega)];by_cases a:k=i
   .subst a;rw[if_pos rfl,g,q];simp
   .rw[if_neg a];exact cl i b
  .simp only at d c⊢;rw[BR _ _ _ _ _ (by omega)] at d⊢;rw[BR _ _ _ _ _ (by omega)];by_cases a:k=i
   .subst a;rw[if_pos rfl,if_pos rfl]
   .rw[if_neg a] at d⊢;rw[if_neg a];exact op i b d c
theorem TX{n:Nat}(o:List Aa):∀(a:List Int) (s:Ro) (p:Ef),ZY n s p->(∀j∈a,j.toNat<n)->ZY n (a.foldl (λst j=>UG st o.reverse j) s) (a.foldl (λst j=>HM st o j) p):=by
 intro a
 induction a with
 | nil=>intro s p h _;exact h
 | cons j a d=>intro s p h b;exact d _ _ (aI h o j (b j (by simp))) λk c=>b k (by simp[c])
theorem a8(x:Az)(o:List Aa):eH x o.reverse=(Du x o).map List.reverse:=by
 unfold eH Du;by_cases b:(x.op==2)=true
 .rw[if_pos b,if_pos b];simp
 .rw[if_neg b,if_neg b];by_cases c:(x.op==3)=true
  .rw[if_pos c,if_pos c];cases o with
   | nil=>rfl
   | cons t r=>
    have d:(t::r).reverse.isEmpty=false:=by cases h:(t::r).reverse.isEmpty with
     | false=>rfl
     | true=>simp at h
    have e:(t::r).reverse.getLastD []=t:=by simp 
    have f:(t::r).reverse.dropLast=r.reverse:=by simp
    rw[d,e,f];simp only[AcJ];cases(t==x.s)<;>rfl
  .rw[if_neg c,if_neg c];by_cases a:(x.op==13)=true
   .rw[if_pos a,if_pos a];cases o with
    | nil=>rfl
    | cons t r=>
     have d:(t::r).reverse.isEmpty=false:=by cases h:(t::r).reverse.isEmpty with
      | false=>rfl
      | true=>simp at h
     rw[d];rfl
   .rw[if_neg a,if_neg a];rfl
def Xr(ins:List Az):Prop:=∀i x,ins[i]?=some x->∀j∈EI ins i x,j.toNat<ins.length
theorem ZO(ins:List Az)(j:Xr ins):∀(r:List Az) (i:Nat) (s:Ro) (p:Ef),ins.drop i=r->ZY ins.length s p->NH ins i r s=Gy ins i r p:=by
 intro r
 induction r with
 | nil=>intro i s p _ _;rfl
 | cons x r g=>
  intro i s p e h;have f:ins[i]?=some x:=by have:=congrArg (λl=>l[0]?) e;simpa using this
  have c:i<ins.length:=(Afk.1 f).1;have a:ins.drop (i+1)=r:=by have:=congrArg List.tail e;simpa using this
  rw[NH,Gy,h.re i c];cases d:p.re.getD i false with
  | false=>simp only[AcJ];exact g _ _ _ a h
  | true=>
   simp only ;unfold Qm;rw[h.cl i c];cases b:p.cl.getD i false with
   | true=>simp
   | false=>
    simp only[AcJ];rw[h.op i c d b,a8];cases Du x (p.op.getD i []) with
    | none=>rfl
    | some o=>exact g _ _ _ a (TX o _ s p h (j i x f))
def KC(n:Nat):Ro:=((List.replicate n (false,[])).set 0 (true,[]),List.replicate n false)
def Ce(n:Nat):Ef:=⟨List.replicate n [],(List.replicate n false).set 0 true,List.replicate n false⟩
theorem bH(n:Nat)(c:0<n):ZY n (KC n) (Ce n):=by
 have b:∀{d:Type} (j:Nat) (x:d),j<n->(List.replicate n x).getD j x=x:=λj x h=>by rw[Atj,Azu,if_pos h];rfl
 refine⟨by simp[KC],by simp[KC],by simp[Ce],by simp[Ce],by simp[Ce],λj a=>?_,λj a=>?_,λj a e f=>?_⟩
 .simp only[KC,Ce];rw[BR _ _ _ _ _ (by simpa using c),BR _ _ _ _ _ (by simpa using c)];by_cases h:0=j
  .rw[if_pos h,if_pos h]
  .rw[if_neg h,if_neg h,b _ _ a,b _ _ a]
 .simp only[KC,Ce]
 .simp only[KC,Ce];rw[BR _ _ _ _ _ (by simpa using c),b _ _ a];by_cases h:0=j
  .rw[if_pos h,b _ _ a];rfl
  .rw[if_neg h,b _ _ a];rfl
def Cc(names:List Aa)(ins:List Az):Int×Int:=
 if !EJ names then(0,1)
 else if decide ((ins.length:Int)>10000) then(0,6)
 else if Ci names.length ins 0 ins>=0 then(Ci names.length ins 0 ins,4)
 else if ins.isEmpty||!(Eg ins (ins.length-1)==13) then(ins.length,4)
 else if Gy ins 0 ins (Ce ins.length)>=0 then(Gy ins 0 ins (Ce ins.length),7)
 else(0,0)
theorem KR(nn:Nat)(ins:List Az):∀(r:List Az) (i:Nat),¬Ci nn ins i r>=0->∀k x,r[k]?=some x->AI nn ins (i+k) x=true:=by
 intro r
 induction r with
 | nil=>intro i _ k x h;simp at h
 | cons y r b=>
  intro i h k x a;rw[Ci] at h;cases hp:AI nn ins i y with
  | false=>rw[hp] at h;simp at h
  | true=>
   rw[hp,if_pos rfl] at h;cases k with
   | zero=>simp at a;subst a;exact hp
   | succ k=>have:=b (i+1) h k x (by simpa using a);rwa [AyH,Nat.add_comm 1 k] at this
theorem Oe{l:List Az}:∀{y:Az},y∈BG l->∃k,k<(BG l).length/\l[k]?=some y/\y.op=11:=by
 induction l with
 | nil=>intro y h;cases h
 | cons x r e=>
  intro y h;rw[BG] at h⊢;split at h
  .rename_i a;rw[if_pos a];rcases AmR.1 h with rfl|h
   .exact⟨0,by simp,by simp,by simpa using a⟩
   .obtain⟨k,b,c,d⟩:=e h;exact⟨k+1,by simpa using b,by simpa using c,d⟩
  .cases h
theorem Kc{ins:List Az}{i:Nat}{a:Int}(h:Li ins i a=true):(i:Int)<a/\a<(ins.length:Int):=by unfold Li at h;simp only[A0g,AsJ,decide_eq_false_iff_not] at h;exact⟨by omega,by omega⟩
theorem fM(nn:Nat)(ins:List Az)(hp:¬Ci nn ins 0 ins>=0)(h:Eg ins (ins.length-1)=13):Xr ins:=by
 intro i x f j c;have o:i<ins.length:=(Afk.1 f).1;have a:=KR nn ins ins 0 hp i x f;rw[AwQ] at a;unfold EI at c;split at c
 .obtain⟨y,m,rfl⟩:=AmO.1 c;obtain⟨k,_,g,l⟩:=Oe m;rw[AxW] at g;have b:=KR nn ins ins 0 hp _ y g;rw[AwQ] at b;unfold AI at b;rw[l] at b;simp  at b;have:=Kc b.1;omega
 .split at c
  .rename_i d;simp only[At5] at c;subst c;unfold AI at a;rw[show x.op=12 by simpa using d] at a;simp  at a;have:=Kc a.1;omega
  .split at c
   .cases c
   .rename_i e;simp only[At5] at c;subst c;have:i≠ins.length-1:=by rintro rfl;rw[Eg,f] at h;exact e (by simpa using h)
    omega
def Tu(names:List Aa)(ins:List Az):Int×Int:=
 if !EJ names then(0,1)
 else if decide ((ins.length:Int)>10000) then(0,6)
 else if Ci names.length ins 0 ins>=0 then(Ci names.length ins 0 ins,4)
 else if ins.isEmpty||!(Eg ins (ins.length-1)==13) then(ins.length,4)
 else if NH ins 0 ins (KC ins.length)>=0 then(NH ins 0 ins (KC ins.length),7)
 else(0,0)
theorem Ti(names:List Aa)(ins:List Az):Tu names ins=Cc names ins:=by
 unfold Tu Cc;split
 .rfl
 .split
  .rfl
  .split
   .rfl
   .rename_i hp;split
    .rfl
    .rename_i a;simp only[AxS,not_or,AsJ,A0e,beq_iff_eq] at a;have b:Eg ins (ins.length-1)=13:=by simpa using a.2
     have c:0<ins.length:=by
      cases ins with
      | nil=>simp at a
      | cons y r=>simp
     rw[ZO ins (fM _ ins hp b) ins 0 _ _ rfl (bH _ c)]
end Go.Ir

namespace Go.Ir
open Go Go.Proofs Go.Maps Go.Sort Go.Shelf Go.WideElems
def Ff(x:Az):Int:=if x.op==6||x.op==7 then 2 else if x.op==8 then 3 else if x.op==9 then 4 else if x.op==10 then(if x.b==9 then 1 else 2) else 0
def H8(x:Az):Bool:=decide (x.op>=5)&&decide (x.op<=10)
def BM(names:List Aa)(k:Int):Aa:=names.getD k.toNat []
def Es(names:List Aa):List Az->List (Aa×Int)
 | []=>[]
 | x::r=>if H8 x then(BM names x.a,Ff x)::Es names r else Es names r
def U2(names:List Aa)(ins:List Az):Dq×Bool:=(Es names ins).foldl Ee ([],false)
def Lk(names:List Aa)(ins:List Az):Dq×Int:=
 if !((Cc names ins).2==0) then([],1) else if(U2 names ins).2 then([],11) else(JQ (U2 names ins).1,0)
def Io:Dq->Aa×Int->Dq×Bool
 | [],x=>([x],true)
 | e::l,x=>if e.1==x.1 then((e.1,(GJ e.2 x.2).1)::l,(GJ e.2 x.2).2) else if !(Op.bytesLess e.1 x.1||e.1==x.1) then(x::e::l,true) else(e::(Io l x).1,(Io l x).2)
def Rq:Dq->List (Aa×Int)->Option Dq
 | l,[]=>some l
 | l,u::us=>if(Io l u).2 then Rq (Io l u).1 us else none
def PO(names:List Aa)(ins:List Az):Dq×Int:=
 if !((Tu names ins).2==0) then([],1) else match Rq [] (Es names ins) with
  | none=>([],11)
  | some l=>(l,0)
theorem IY{m:Dq}{n:Aa}:AU m n=none↔n∉m.map Prod.fst:=by
 induction m with
 | nil=>simp[AU]
 | cons e m a=>
  rw[AU,Ajf,AmR,not_or];by_cases h:e.1=n
  .rw[if_pos (by simpa using h)];simp[h]
  .rw[if_neg (by simpa using h),a];simp[Ae2 h]
theorem iJ{m:Dq}(b:(m.map Prod.fst).Nodup){e:Aa×Int}(h:e∈m):AU m e.1=some e.2:=by
 induction m with
 | nil=>cases h
 | cons a m d=>
  rw[Ajf,Awp] at b;rw[AU];rcases AmR.1 h with rfl|h
  .simp
  .rw[if_neg (by simp only[beq_iff_eq];rintro c;exact b.1 (c ▸ AmO.2 ⟨e,h,rfl⟩))];exact d b.2 h
abbrev W1(l:Dq):Prop:=l.Pairwise λa b=>a.1<b.1
theorem aP{l:Dq}(h:W1 l):(l.map Prod.fst).Nodup:=by rw[List.Nodup,A0f];exact h.imp fun{a b} hab he=>by rw[he] at hab;exact List.lt_irrefl _ hab
theorem Adf(x:Aa×Int):∀l:Dq,W1 l->AU l x.1=none->
  (Io l x).2=true/\W1 (Io l x).1/\((Io l x).1.map Prod.fst).Perm (x.1::l.map Prod.fst)/\∀n,AU (Io l x).1 n=if n=x.1 then some x.2 else AU l n:=by
 intro l
 induction l with
 | nil=>intro _ _;exact⟨rfl,by simp[Io],.refl _,λn=>by
  simp only[Io,AU,beq_iff_eq];by_cases h:x.1=n
  .rw[if_pos h,if_pos h.symm]
  .rw[if_neg h,if_neg (Ae2 h)]⟩
 | cons e l r=>
  intro i g;rw[W1,Axw] at i;rw[IY,Ajf,AmR,not_or] at g;have m:(e.1==x.1)=false:=by simpa using Ae2 g.1
  obtain⟨q,i2,i3,i4⟩:=r i.2 (IY.2 g.2);rw[Io,m];simp only[AcJ,if_false,AuK,bytesLess_eq];by_cases a:e.1<x.1
  .simp only[a,decide_true,AuF,AcJ,if_false];refine⟨q,?_,?_,λn=>?_⟩
   .rw[W1,Axw];refine⟨λb d=>?_,i2⟩;have j:b.1∈x.1::l.map Prod.fst:=i3.mem_iff.1 (AmO.2 ⟨b,d,rfl⟩);rcases AmR.1 j with h|h
    .rw[h];exact a
    .obtain⟨c,o,k⟩:=AmO.1 h;rw[<-k];exact i.1 c o
   .rw[Ajf,Ajf];exact(i3.cons _).trans (.swap _ _ _)
   .simp only[AU,i4,beq_iff_eq];by_cases h:e.1=n
    .rw[if_pos h,if_pos h,if_neg (by rintro rfl;exact g.1 h.symm)]
    .rw[if_neg h,if_neg h]
  .simp only[a,decide_false,Ave,if_true];have f:x.1<e.1:=Classical.byContradiction λp=>g.1 (List.le_antisymm (List.not_lt.1 a) (List.not_lt.1 p));refine⟨trivial,?_,.refl _,λn=>?_⟩
   .rw[W1,Axw,Axw];refine⟨λb d=>?_,i⟩;rcases AmR.1 d with rfl|d
    .exact f
    .exact List.lt_trans f (i.1 b d)
   .simp only[AU,beq_iff_eq];by_cases h:x.1=n
    .rw[if_pos h,if_pos h.symm]
    .rw[if_neg h,if_neg (Ae2 h)]
theorem AbF(x:Aa×Int)(d:Int):∀l:Dq,W1 l->AU l x.1=some d->
  (Io l x).2=(GJ d x.2).2/\(Io l x).1.map Prod.fst=l.map Prod.fst/\∀n,AU (Io l x).1 n=if n=x.1 then some (GJ d x.2).1 else AU l n:=by
 intro l
 induction l with
 | nil=>intro _ h;cases h
 | cons e l p=>
  intro k c;rw[W1,Axw] at k;rw[AU] at c;rw[Io];by_cases h:e.1=x.1
  .have i:(e.1==x.1)=true:=by simpa using h
   rw[i] at c⊢;simp only[if_true] at c⊢;cases c;refine⟨rfl,rfl,λn=>?_⟩;simp only[AU,beq_iff_eq];by_cases b:e.1=n
   .rw[if_pos b,if_pos (b.symm.trans h)]
   .rw[if_neg b,if_neg (λf=>b (h.trans f.symm)),if_neg b]
  .have i:(e.1==x.1)=false:=by simpa using h
   rw[i] at c⊢;simp only[AcJ,if_false,AuK,bytesLess_eq] at c⊢;obtain⟨o,i2,i3⟩:=p k.2 c;have j:e.1<x.1:=by obtain⟨a,m,g⟩:=AaX c;rw[<-g];exact k.1 a m
   simp only[j,decide_true,AuF,AcJ,if_false];refine⟨o,by rw[Ajf,i2,Ajf],λn=>?_⟩;simp only[AU,i3,beq_iff_eq];by_cases b:e.1=n
   .rw[if_pos b,if_pos b,if_neg (λf=>h (b.trans f))]
   .rw[if_neg b,if_neg b]
theorem sZ{l m:Dq}(h:l.map Prod.fst=m.map Prod.fst)(c:W1 l):W1 m:=by
 rw[W1,<-A0f (f:=Prod.fst) (R:=λa b:Aa=>a<b)] at c⊢
 rwa [<-h]
theorem Zp:∀(us:List (Aa×Int)) (l m:Dq),W1 l->(l.map Prod.fst).Perm (m.map Prod.fst)->(∀n,AU l n=AU m n)->
  (match Rq l us with
  | none=>(us.foldl Ee (m,false)).2=true
  | some j=>(us.foldl Ee (m,false)).2=false/\W1 j/\(j.map Prod.fst).Perm ((us.foldl Ee (m,false)).1.map Prod.fst)/\∀n,AU j n=AU (us.foldl Ee (m,false)).1 n):=by
 intro us
 induction us with
 | nil=>intro l m d f e;exact⟨rfl,d,f,e⟩
 | cons u us p=>
  intro l m d f e;rw[Rq,Awr];have c:=e u.1;cases b:AU l u.1 with
  | none=>
   obtain⟨k,g,o,r⟩:=Adf u l d b;rw[b] at c;have i:Ee (m,false) u=(Ep m u.1 u.2,false):=by unfold Ee;simp only[<-c]
   rw[k,if_pos rfl,i];refine p _ _ g ?_ λn=>by rw[r,Sk,e]
   rw[LF,if_neg (IY.1 c.symm)];exact o.trans ((f.cons _).trans (List.perm_append_singleton _ _).symm)
  | some a=>
   obtain⟨k,g,o⟩:=AbF u a l d b;rw[b] at c;have i:Ee (m,false) u=(Ep m u.1 (GJ a u.2).1,!(GJ a u.2).2):=by unfold Ee;simp only[<-c,Ayh]
   rw[k,i];cases s:(GJ a u.2).2 with
   | false=>
    simp only[AcJ,Ave];cases q:(us.foldl Ee (Ep m u.1 (GJ a u.2).1,true)).2 with
    | true=>rfl
    | false=>exact absurd (Ux us _ q) (by simp)
   | true=>
    simp only[AuF];refine p _ _ (sZ g.symm d) ?_ λn=>by rw[o,Sk,e]
    rw[g,LF,if_pos]
    .exact f
    .have:u.1∉m.map Prod.fst->False:=λh=>by rw[IY.2 h] at c;cases c
     exact Classical.not_not.1 this
theorem zP{l m:Dq}(d:W1 l)(hp:(l.map Prod.fst).Perm (m.map Prod.fst))(h:∀n,AU l n=AU m n):JQ m=l:=by
 have c:HC m=l.map Prod.fst:=by
  have f:HC m=(l.map Prod.fst).mergeSort (λx y=>decide (x<=y)):=by
   unfold HC QF strKeys;refine mergeSort_of_perm (List.Perm.trans ?_ hp.symm);have:=(AzB (m.map λe=>(Lit.string e.1,(DataW.nil:DataW Unit)))).map (λe:Lit×DataW Unit=>strOf e.1);have g:(m.map λe=>(Lit.string e.1,(DataW.nil:DataW Unit))).map (λe:Lit×DataW Unit=>strOf e.1)=m.map Prod.fst:=by rw[Azs];rfl
   rw[g] at this;exact this
  rw[f];refine List.mergeSort_of_pairwise ?_;rw[A0f];exact d.imp fun{a b} hab=>by simpa using List.le_of_lt hab
 unfold JQ;rw[c,Azs]
 conv=>rhs;rw[<-List.map_id l]
 refine AxO λe i=>?_;have:=iJ (aP d) i;simp only[Function.comp,id];rw[<-h,this];rfl
theorem Up(names:List Aa)(ins:List Az):PO names ins=Lk names ins:=by
 unfold PO Lk;rw[Ti];split
 .rfl
 .have h:=Zp (Es names ins) [] [] (by simp) (.refl _) (λ_=>rfl);unfold U2;cases hp:Rq [] (Es names ins) with
  | none=>rw[hp] at h;simp only at h;rw[h];rfl
  | some l=>rw[hp] at h;simp only at h;rw[h.1];simp only[AcJ,if_false];rw[zP h.2.1 h.2.2.1 h.2.2.2]
end Go.Ir

namespace Go.Ir
open Go.Proofs
variable(W0:World)
def R9:List Aa->Bool
 | []=>true
 | x::r=>if decide ((x.length:Int)>100) then false else R9 r
def NB:List Az->Bool
 | []=>true
 | x::r=>if decide ((x.s.length:Int)>300) then false else NB r
def XG(names:List Aa)(ins:List Az):Bool:=R9 names&&(NB ins&&(decide ((names.length:Int)<=30)&&decide ((ins.length:Int)<=400)))
theorem SZ{x:Az}{dn c L:List Az}(h:L=dn++x::c):(L.map Az.enc)[dn.length]?=some (.agg [.i .i64 x.op,.i .i64 x.a,.i .i64 x.b,.s x.s]):=by rw[h];simp[Az.enc]
theorem X4{x:Aa}{dn a L:List Aa}(h:L=dn++x::a):(L.map V.s)[dn.length]?=some (.s x):=by rw[h];simp
theorem F6{b:Type}{x:b}{dn a L:List b}(h:L=dn++x::a):decide ((dn.length:Int)<(L.length:Int))=true:=by rw[h];simp;omega
theorem Aij(names:List Aa)(ins:List Az)(q:names.length<=2^40)(r:ins.length<=2^40):Al π W0 12 [AJ names ins] [] (.b (XG names ins)) []:=by
 generalize hS:XG names ins=S;unfold XG at hS;unfold AJ;refine Ae (vs:=[.b S]) ApL (by simp) (by simp) λn0 p=>?_;clear p;simp only[push_cast,seval,reduceEqDiff];intros;rename_i k1;refine Am names.length (Inv:=λm st=>∃dn a n b,names=dn++a/\m=a.length/\(R9 a&&(NB ins&&(decide ((names.length:Int)<=30)&&decide ((ins.length:Int)<=400))))=S/\st=⟨[(1,.ref b 0),(3,.i .i64 dn.length)],[(b,.box (.agg [.sl (names.map V.s),.sl (ins.map Az.enc)]))],n⟩) ⟨_,Ak.refl,[],names,_,_,rfl,rfl,hS,rfl⟩ ?_;clear hS;rintro m _ ⟨dn,a,n,b,f,rfl,c,rfl⟩;cases a with
 | cons x a=>
  have o:=AL f;have e:=X4 f;have j:=F6 f;have k:dn.length<names.length:=by omega
  have l:=Ai x (dn:=dn) (by omega);rw[R9] at c;simp only[push_cast,seval,reduceEqDiff,e,j,k,l];cases h:decide ((x.length:Int)>100) with
  | true=>rw[h] at c;simp only[bq,if_true,if_false,Int.reduceBEq,reduceCtorEq] at c;subst c;simp only[push_cast,seval,reduceEqDiff,e,j,k,l,h];intros;exact Af (by simp[get])
  | false=>rw[h] at c;simp only[bq,if_true,if_false,Int.reduceBEq,reduceCtorEq] at c;simp only[push_cast,seval,reduceEqDiff,e,j,k,l,h];intros;exact⟨_,_,A0j _,Ak.refl,dn++[x],a,_,_,by rw[f];simp,rfl,c,rfl⟩
 | nil=>
  rw[R9,AuB] at c;have e:decide ((dn.length:Int)<(names.length:Int))=false:=by rw[f];simp
  simp only[push_cast,seval,reduceEqDiff,e];intros;refine Am ins.length (Inv:=λm st=>∃g d n',ins=g++d/\m=d.length/\(NB d&&(decide ((names.length:Int)<=30)&&decide ((ins.length:Int)<=400)))=S/\st=⟨[(1,.ref b 0),(4,.i .i64 g.length)],[(b,.box (.agg [.sl (names.map V.s),.sl (ins.map Az.enc)]))],n'⟩) ⟨_,Ak.refl,[],ins,_,rfl,rfl,c,rfl⟩ ?_;clear c f e;rintro m _ ⟨dn,a,n,f,rfl,c,rfl⟩;cases a with
  | cons x a=>
   have o:=AL f;have e:=SZ f;have j:=F6 f;have k:dn.length<ins.length:=by omega
   have l:=Ai x (dn:=dn) (by omega);rw[NB] at c;simp only[push_cast,seval,reduceEqDiff,e,j,k,l];cases h:decide ((x.s.length:Int)>300) with
   | true=>rw[h] at c;simp only[bq,if_true,if_false,Int.reduceBEq,reduceCtorEq] at c;subst c;simp only[push_cast,seval,reduceEqDiff,e,j,k,l,h];intros;exact Af (by simp[get])
   | false=>rw[h] at c;simp only[bq,if_true,if_false,Int.reduceBEq,reduceCtorEq] at c;simp only[push_cast,seval,reduceEqDiff,e,j,k,l,h];intros;exact⟨_,_,A0j _,Ak.refl,dn++[x],a,_,by rw[f];simp,rfl,c,rfl⟩
  | nil=>
   rw[NB,AuB] at c;have e:decide ((dn.length:Int)<(ins.length:Int))=false:=by rw[f];simp
   simp only[push_cast,seval,reduceEqDiff,e]
   repeat' (first|(((first|apply Ab|apply Ag|apply Ah)<;>intro _h)<;>simp only[push_cast,seval,reduceEqDiff,_h])|intro _)
   all_goals (subst c;refine Af ?_;simp[get, *];done)
theorem Ak.ownBoxM{W0:World}{nt n:Nat}{env:A9}{τ:Aj}{rid:Id}{A B:List V}(e sz k:Nat):Ak W0 nt ⟨env,(rid,.box (.agg (A++.nil::B)))::τ,n⟩ ⟨env,((n,k),.arr e sz [])::(rid,.box (.agg (A++.arr (n,k)::B)))::τ,n+1⟩:=by
 intro Y a w y;obtain⟨μ,H,I,hp,O,s,m,z⟩:=y;have b:μ (n,k)=none:=hp.bd _ (A0h _);have i:=Bh (v:=.slice none 0 0) b;have C:lk ((rid,A5.box (.agg (A++.nil::B)))::τ) rid=some (.box (.agg (A++.nil::B))):=by simp[lk]
 have r:((n,k):Id)≠rid:=by rintro rfl;obtain⟨_,G⟩:=(hp.ents _ _ C).named;rw[b] at G;cases G
 have d:=(hp.more (AmQ n)).new_ (n':=n+1) (w':=w) (R:=λ_=>False) ⟨rfl,rfl,rfl,A0h _,λ_ _ _=>rfl⟩ (λ_ h=>h.elim) (σ1:=(rid,.box (.agg (A++.nil::B)))::τ) (λid e h=>⟨h,λ_ _ h=>h⟩) (id:=(n,k)) (e:=.arr e sz []) (val:=.slice none 0 0) b (A0j _) (A0h _) (λE N=>by simp[BC] at N)
  ⟨.slice none 0 0,[],Ap _ _ _,rfl,Azj w _ e sz,ArD _,(λx U=>by cases U),AK.nil_⟩
 have p:lk (((n,k),A5.arr e sz [])::(rid,.box (.agg (A++.nil::B)))::τ) rid=some (.box (.agg (A++.nil::B))):=by simp[lk,r]
 have f:=d.1.set_ p (w':=w) (e:=.box (.agg (A++.arr (n,k)::B))) ⟨rfl,rfl,rfl,A0h _,λ_ _ _=>rfl⟩ (by
  obtain⟨E,vals,t,K,L,M,l⟩:=d.1.ents _ _ p;refine⟨E,vals,t,K,L,M,⟨⟨by have:=l.len;simpa[cells] using this,λj c v g D=>?_⟩,l.one⟩⟩;simp only[cells] at g;by_cases F:j<A.length
  .rw[AtT F] at g;exact l.at_ j c v (by simp only[cells];rw[AtT F];exact g) D
  .rw[Apb (by omega)] at g;cases u:j-A.length with
   | zero=>rw[u] at g;simp only[Aye,AmF] at g;subst g;have:=l.at_ j .nil v (by simp only[cells];rw[Apb (by omega),u];rfl) D;rw[this.nil_inv];exact .arr _ _ (Ap _ _ _) rfl
   | succ q=>rw[u] at g;simp only[Awx] at g;exact l.at_ j c v (by simp only[cells];rw[Apb (by omega),u];exact g) D)
 have S:upd (((n,k),A5.arr e sz [])::(rid,.box (.agg (A++.nil::B)))::τ) rid (.box (.agg (A++.arr (n,k)::B)))=((n,k),.arr e sz [])::(rid,.box (.agg (A++.arr (n,k)::B)))::τ:=by simp[upd,r]
 rw[S] at f;refine⟨_,H,⟨I.size,λX=>(I.at_ X).mono i (λ_ _ h=>h)⟩,f.1,O.trans (d.2.trans f.2),λid o J=>?_,AmI m (AmQ _),z⟩;simp only at m;rw[Br _ _ (by rintro rfl;simp at o;omega)];exact s id o J
theorem zC{W0:World}{nt n s k:Nat}{j:Bool}{env:A9}{σ:Aj}{id:Id}{u v:V}(m:get env s=.ref id 0)(r:lk σ id=some (.box u))(φ:Id->Option (List V))(g:∀i es,φ i=some es->(∃e sz,lk σ i=some (.arr e sz es))/\i≠id)
  (x:J2 φ u v)(o:(cells v).length=(cells u).length)(p:u.ok=true)(f:v.ok=true)(q:sub v 0 k j=some v):KE W0 nt [.c s k j] [v] [] .ret ⟨env,σ,n⟩:=by
 refine⟨⟨[(s,.ref id 0)],[(id,.box v)],n⟩,Ak.weak φ (λi es h=>?_) (λt=>?_) (λi y h=>?_) (A0h _),⟨⟨id,0,v,by simp[get],by simp[lk],q⟩,trivial⟩,λ_ _ h=>by cases h⟩
 .obtain⟨a,b⟩:=g i es h;exact⟨a,by simp only[lk];rw[if_neg (λd=>b d.symm)]⟩
 .by_cases l:s=t
  .subst l;rw[m];simp only[get];exact .refl _
  .simp only[get,if_neg l];exact .any _
 .simp only[lk] at h;split at h
  .rename_i d;subst d;cases h;exact⟨_,r,.box _ _ x o p f⟩
  .cases h
theorem cQ(names:List Aa)(es:List V)(id:Id)(φ:Id->Option (List V))(h:φ id=some es)(d:∀y∈es,y.ok=true):J2 φ (.agg [.sl (names.map V.s),.arr id]) (.agg [.sl (names.map V.s),.sl es]):=by
 refine .agg _ _ rfl λk c e a b=>?_
 match k with
 | 0=>simp at a b;subst a b;exact .refl _
 | 1=>
  simp at a b;subst a b;refine .arr id _ _ h rfl (λk c e a b=>?_) (λk c e a b=>?_)
  .rw[a] at b;cases b;exact .refl _
  .rw[a] at b;cases b;have:=d c (AfA a);exact⟨rfl,this,this⟩
 | k+2=>simp at a
theorem An1(l:List Az):∀y∈l.map Az.enc,y.ok=true:=by intro y a;obtain⟨z,_,rfl⟩:=AmO.1 a;rfl
set_option maxHeartbeats 4000000 in
theorem AjR(names:List Aa)(ins:List Az)(v:ins.length<=2^30):Al π W0 14 [AJ names ins] [] (AJ names ins) []:=by
 unfold AJ;refine Ae (vs:=[.agg [.sl (names.map V.s),.sl (ins.map Az.enc)]]) Asi (by simp) (by simp) λn0 C=>?_;clear C;simp only[push_cast,seval,reduceEqDiff];intro k1 k2 k3;generalize S:n0+1+k1=m1;have U:n0<m1:=by omega
 have f:∀q j:Nat,((m1,j)=(n0,q))=False:=λq j=>eq_false λc=>by injection c with G v;omega
 have o:∀q j:Nat,((n0,q)=(m1,j))=False:=λq j=>eq_false λc=>of_eq_false (f q j) c.symm;refine Am ins.length (Inv:=λm st=>∃dn d n id,ins=dn++d/\m=d.length/\m1<id.1/\id.1<n/\st=⟨[(1,.ref (n0,1) 0),(2,.ref (n0,2) 0),(3,.ref (m1,3) 0),(4,.i .i64 dn.length)],[((m1,3),.box (.agg [.sl (names.map V.s),.arr id])),(id,.arr 54 4 (dn.map Az.enc)),((n0,2),.box (.agg [.nil,.nil])),((n0,1),.box (.agg [.sl (names.map V.s),.sl (ins.map Az.enc)]))],n⟩) ⟨_,(Ak.ownBoxM (A:=[.sl (names.map V.s)]) (B:=[]) 54 4 99).trans (Ak.sub (σ':=[((m1,3),.box (.agg [.sl (names.map V.s),.arr (m1+1+k2+1+k3,99)])),((m1+1+k2+1+k3,99),.arr 54 4 []),((n0,2),.box (.agg [.nil,.nil])),((n0,1),.box (.agg [.sl (names.map V.s),.sl (ins.map Az.enc)]))]) ?_ ?_ (A0h _)),[],ins,m1+1+k2+1+k3+1,(m1+1+k2+1+k3,99),rfl,rfl,by simp only;omega,by simp only;omega,rfl⟩ ?_
 .simp[f]<;>omega
 .intro p hp;simp at hp⊢;rcases hp with h|h|h|h<;>simp[h]
 rintro m _ ⟨dn,d,n,id,g,rfl,R,r,rfl⟩;have t:∀j:Nat,((m1,j)=id)=False:=λj=>eq_false λc=>(by have:=congrArg Prod.fst c;(try simp only at this);omega);have l:∀j:Nat,(id=(m1,j))=False:=λj=>eq_false λc=>of_eq_false (t j) c.symm;have u:∀j:Nat,((n0,j)=id)=False:=λj=>eq_false λc=>(by have:=congrArg Prod.fst c;(try simp only at this);omega);have e:∀j:Nat,(id=(n0,j))=False:=λj=>eq_false λc=>of_eq_false (u j) c.symm;cases d with
 | nil=>
  rw[AoG] at g;subst g;simp only[push_cast,seval,reduceEqDiff,f,o,t,l,u,e,Atl];intros;refine zC (id:=(n0,2)) rfl (by simp[lk,f,u,e]) (λj=>if j=id then some (ins.map Az.enc) else none) (λj es h=>?_) (cQ names (ins.map Az.enc) id _ (by simp) (An1 ins)) rfl rfl rfl rfl;split at h
  .rename_i c;subst c;cases h;exact⟨⟨54,4,by simp[lk,t]⟩,λc=>of_eq_false (e _) c⟩
  .cases h
 | cons x d=>
  have O:=AL g;have I:=SZ g;have J:=F6 g;have K:dn.length<ins.length:=by omega
  have L:=Ai x (dn:=dn) (by omega);have M:∀j q:Nat,((n,j)=(n0,q))=False:=λj q=>eq_false λc=>(by have:=congrArg Prod.fst c;(try simp only at this);omega)
  have N:∀j q:Nat,((n0,q)=(n,j))=False:=λj q=>eq_false λc=>of_eq_false (M j q) c.symm;have q1:∀k j q:Nat,((n+1+k,j)=(n0,q))=False:=λk j q=>eq_false λc=>by injection c with G v;omega
  have D:∀k j q:Nat,((n0,q)=(n+1+k,j))=False:=λk j q=>eq_false λc=>of_eq_false (q1 k j q) c.symm;have q2:∀k j q:Nat,((n+1+k,j)=(m1,q))=False:=λk j q=>eq_false λc=>by injection c with G v;omega
  have E:∀k j q:Nat,((m1,q)=(n+1+k,j))=False:=λk j q=>eq_false λc=>of_eq_false (q2 k j q) c.symm;have q3:∀k j:Nat,((n+1+k,j)=id)=False:=λk j=>eq_false λc=>by rw[<-c] at r;simp at r;omega
  have F:∀k j:Nat,(id=(n+1+k,j))=False:=λk j=>eq_false λc=>of_eq_false (q3 k j) c.symm;have z:dn.length+1<=AH:=by unfold AH;omega
  have y:List.map Az.enc dn++[.agg [.i .i64 x.op,.i .i64 x.a,.i .i64 x.b,.s x.s]]=(dn++[x]).map Az.enc:=by simp[Az.enc_eq]
  simp only[push_cast,seval,reduceEqDiff,I,J,K,L,AcG,f,o,t,l,u,e,q1,D,q2,E,q3,F,eq_true z,y];intros;rename_i k3 X Y;refine⟨_,⟨_,[((m1,3),.box (.agg [.sl (names.map V.s),.arr (n+1+k3,23)])),((n+1+k3,23),.arr 54 4 ((dn++[x]).map Az.enc)),((n0,2),.box (.agg [.nil,.nil])),((n0,1),.box (.agg [.sl (names.map V.s),.sl (ins.map Az.enc)]))],_⟩,A0j _,Ak.sub ?_ ?_ (A0h _),(dn++[x]),d,_,(n+1+k3,23),by rw[g];simp,rfl,?_,?_,rfl⟩
  .simp[q1,q2,f]
  .intro p hp;simp at hp⊢;rcases hp with h|h|h|h<;>simp[h]
  .simp only;omega
  .simp only;omega
def I7(b:Int)(a:List Aa)(l:List Az):Bool:=LJ b a l&&(decide (((a.length+l.length:Nat):Int)<=20)&&(a++l.map (·.s)).contains CO)
theorem Zg(b:Int)(a:List Aa):I7 b a []=(decide ((a.length:Int)<=20)&&a.contains CO):=by unfold I7;rw[LJ];simp
theorem SA(b:Int)(a:List Aa)(x:Az)(l:List Az):I7 b a (x::l)=if !Rz b x.s||a.contains x.s then false else I7 b (a++[x.s]) l:=by
 unfold I7;rw[LJ];split
 .rfl
 .have c:a.length+(x::l).length=(a++[x.s]).length+l.length:=by simp;omega
  have d:a++(x::l).map (·.s)=(a++[x.s])++l.map (·.s):=by simp
  rw[c,d]
theorem zT(a:Int)(l:List Az):eK a l=I7 a [] l:=by unfold eK I7;simp

theorem lW(ins:List Az)(i:Nat)(x:Az)(h:(x.op==10)=true):EI ins i x=(BG (ins.drop (i+1))).map (·.a):=by unfold EI;rw[if_pos h]
def Cn:TypeId:=4
theorem getD_some{a:Type}{l:List a}{k:Nat}(d:a)(h:k<l.length):l[k]?=some (l.getD k d):=by rw[Atj,Ae8 h];rfl
theorem dB{nn:Nat}(ins:List Az)(i:Nat)(x:Az)(l:Xr ins)(g:ins[i]?=some x)(hp:∀k y,ins[k]?=some y->AI nn ins k y=true):∀j∈EI ins i x,0<=j:=by
 intro j a;have b:=hp i x g;unfold EI at a;split at a
 .obtain⟨y,h,rfl⟩:=AmO.1 a;obtain⟨k,_,e,f⟩:=Oe h;rw[AxW] at e;have c:=hp _ y e;unfold AI at c;rw[f] at c;simp  at c;have:=Kc c.1;omega
 .split at a
  .rename_i d;simp only[At5] at a;subst a;unfold AI at b;rw[show x.op=12 by simpa using d] at b;simp  at b;have:=Kc b.1;omega
  .split at a
   .cases a
   .simp only[At5] at a;subst a;omega
theorem Zt(l:List Az):(BG l).length<=l.length:=by
 obtain⟨q,a⟩:∃r,l=BG l++r:=by
  induction l with
  | nil=>exact⟨[],rfl⟩
  | cons x r b=>
   rw[BG];split
   .obtain⟨q,a⟩:=b;exact⟨q,by rw[AtN,<-a]⟩
   .exact⟨x::r,rfl⟩
 have:=congrArg List.length a;simp at this;omega
theorem So{nn:Nat}{ins:List Az}(h:¬Ci nn ins 0 ins>=0):∀k y,ins[k]?=some y->AI nn ins k y=true:=by
 intro k y a;have:=KR nn ins ins 0 h k y a
 rwa [AwQ] at this
theorem d7(s:Aa):Al π W0 183 [.s s] [] (.b (J4 s)) []:=by
 have a:=GS W0 [[122,101,114,111],[111,110,101],[116,119,111],[102,101,119],[109,97,110,121],[111,116,104,101,114]] s (by simp);have d:([[122,101,114,111],[111,110,101],[116,119,111],[102,101,119],[109,97,110,121],[111,116,104,101,114]]:List Aa).contains s=J4 s:=by unfold J4;rw[AtV];simp[or_assoc]
 rw[d] at a;simp only[Ajf,Ast] at a;generalize J4 s=S at *;refine Ae (vs:=[.b S]) Ai8 (by simp) (by simp) λn0 c=>?_;clear c;simp only[push_cast]
 repeat' (first|(((first|apply Ab|apply Ag|apply Ah)<;>intro _h)<;>simp only[push_cast])|(refine Ac (by exact a) ?_;simp only[push_cast])|intro _)
 all_goals exact Af (by simp[get])
theorem AjE(d:Int)(s:Aa)(l:s.length<=2^30):Al π W0 129 [.i .i64 d,.s s] [] (.b (Rz d s)) []:=by
 generalize hS:Rz d s=S;unfold Rz at hS;have f:=Gl W0 s (by unfold AG;omega);have g:=d7 W0 s;have e:=Ed W0 s [61];cases s with
 | nil=>
  have h:=G6 W0 [] (by simp);refine Ae (vs:=[.b S]) Tw (by simp) (by simp) λn0 a=>?_;clear a;simp only[push_cast,reduceEqDiff]
  repeat' (first|(((first|apply Ab|apply Ag|apply Ah)<;>intro _h)<;>(simp only[push_cast,reduceEqDiff,_h];try (have _g:=_h;simp at _g)))|((first|refine Ac (by exact f) ?_|refine Ac (by exact g) ?_|refine Ac (by exact e) ?_|refine Ac (by exact h) ?_);simp only[push_cast,reduceEqDiff])|intro _)
  all_goals subst hS
  all_goals (first|(refine Af ?_;simp[zV,QY, *]<;>(intros;omega);done)|(refine Ad ?_;simp[push_cast,zV,QY, *];done)|skip)
 | cons c t=>
  have hp:Lib.hasPrefix (c::t) [61]=((c.toNat:Int)==61):=by unfold Lib.hasPrefix;simp only[List.isPrefixOf,AwW];rw[AtV];simp[<-AzR];omega
  have k:Lib.trimPrefix (c::t) [61]=if((c.toNat:Int)==61)=true then t else c::t:=by unfold Lib.trimPrefix;rw[hp];rfl
  rw[hp,k] at e;generalize Cy (c::t)=N at f hS;generalize J4 (c::t)=C at g hS;rw[zV] at hS;have h:=G6 W0 t (by simp at l;omega);rcases AyD ((c.toNat:Int)==61) with j|j
  all_goals (rw[j] at e hS;simp only[AuB,AxP,AcJ] at e hS)
  .skip;refine Ae (vs:=[.b S]) Tw (by simp) (by simp) λn0 a=>?_;clear a;simp only[push_cast,reduceEqDiff]
   repeat' (first|(((first|apply Ab|apply Ag|apply Ah)<;>intro _h)<;>(simp only[push_cast,reduceEqDiff,_h];try (have _g:=_h;simp at _g)))|((first|refine Ac (by exact f) ?_|refine Ac (by exact g) ?_|refine Ac (by exact e) ?_|refine Ac (by exact h) ?_);simp only[push_cast,reduceEqDiff])|intro _)
   all_goals subst hS
   all_goals (first|(refine Af ?_;simp[ *]<;>(intros;omega);done)|(refine Ad ?_;simp[push_cast, *];done)|skip)
  .skip;refine Ae (vs:=[.b S]) Tw (by simp) (by simp) λn0 a=>?_;clear a;simp only[push_cast,reduceEqDiff]
   repeat' (first|(((first|apply Ab|apply Ag|apply Ah)<;>intro _h)<;>(simp only[push_cast,reduceEqDiff,_h];try (have _g:=_h;simp at _g)))|((first|refine Ac (by exact f) ?_|refine Ac (by exact g) ?_|refine Ac (by exact e) ?_);simp only[push_cast,reduceEqDiff])|intro _)
   all_goals subst hS
   all_goals (first|(refine Af ?_;simp[ *]<;>(intros;omega);done)|(refine Ad ?_;simp[push_cast, *];done)|skip)
theorem AcF:∀n:_root_.Fin 256,((decide (IntKind.u8.wrap ((BitVec.ofInt 8 (n.val:Int) ||| BitVec.ofInt 8 32).toNat)<97)||decide (IntKind.u8.wrap ((BitVec.ofInt 8 (n.val:Int) ||| BitVec.ofInt 8 32).toNat)>122))==!Sl (n.val:Int))=true:=by decide +kernel
theorem orL(c:UInt8):∃m,F2 (.bit .or) [.i .u8 (c.toNat:Int),.i .u8 32]=some (.i .u8 m)/\(decide (m<97)||decide (m>122))=!Sl (c.toNat:Int):=
 ⟨_,rfl,eq_of_beq (AcF ⟨c.toNat,c.toNat_lt⟩)⟩
theorem RE(s:Aa)(q:s.length<AG):Al π W0 90 [.s s] [] (.b (E6 s)) []:=by
 generalize hS:E6 s=S;unfold E6 at hS;generalize f:(decide ((s.length:Int)>=1)&&decide ((s.length:Int)<=40))=T at hS;refine Ae (vs:=[.b S]) Anw (by simp) (by simp) λn0 k=>?_;clear k;simp only[push_cast,reduceEqDiff];intro _ _;refine Am s.length (Inv:=λm st=>∃dn a n,s=dn++a/\m=a.length/\(KH Sl a&&T)=S/\st=⟨[(0,.s s),(6,.i .i64 s.length),(7,.i .i64 dn.length)],[],n⟩) ⟨_,Ak.refl,[],_,_,rfl,rfl,hS,rfl⟩ ?_;clear hS;rintro m _ ⟨dn,a,n,g,rfl,d,rfl⟩;cases a with
 | nil=>
  have d:T=S:=by rw[<-d];rfl
  rw[AoG] at g;subst g;cases s with
  | nil=>
   simp only[push_cast,reduceEqDiff]
   repeat' (first|(((first|apply Ab|apply Ag|apply Ah)<;>intro _h)<;>(simp only[push_cast,reduceEqDiff,_h];try (have _g:=_h;simp at _g)))|intro _)
   all_goals (first|(refine Af ?_;simp[get,<-d,<-f]<;>(intros;omega);done)|(refine Ad ?_;simp[push_cast,get,<-d,<-f, *];done)|skip)
  | cons o r=>
   simp only[push_cast,reduceEqDiff]
   repeat' (first|(((first|apply Ab|apply Ag|apply Ah)<;>intro _h)<;>(simp only[push_cast,reduceEqDiff,_h];try (have _g:=_h;simp at _g)))|intro _)
   all_goals (first|(refine Af ?_;simp[get,<-d,<-f]<;>(intros;omega);done)|(refine Ad ?_;simp[push_cast,get,<-d,<-f, *];done)|skip)
 | cons c a=>
  have p:=AL g;obtain⟨m,j,e⟩:=orL c;rw[KH] at d;generalize Sl (c.toNat:Int)=h at *;simp only[push_cast,reduceEqDiff,g,j]
  repeat' (first|(((first|apply Ab|apply Ag|apply Ah)<;>intro _h)<;>simp only[push_cast,reduceEqDiff,_h,Kd c (dn:=dn) (by omega)])|intro _)
  all_goals (simp only[*,bq] at e)
  all_goals (have l:h=!(!h):=(AzS h).symm;rw[<-e] at l;subst l;simp only[AuF,Ave,AuB,AxP] at d)
  all_goals (first|(subst d;exact Af (by simp[get]))|exact⟨_,_,A0j _,Ak.refl,dn++[c],a,_,by simp,rfl,d,rfl⟩)
def Gx(l:List Aa):List (V×V):=l.map λn=>(.s n,.b true)
theorem JN(x:Aa)(l:List Aa):∀n,(l.contains x=true/\∃i,Bs .str (.s x) (Gx l) n=some (some (i,.b true)))\/(l.contains x=false/\Bs .str (.s x) (Gx l) n=some none):=by
 induction l with
 | nil=>intro n;exact .inr ⟨rfl,rfl⟩
 | cons e l d=>
  intro n;have c:Bs .str (.s x) (Gx (e::l)) n=(match DX .str (.s x) (.s e) with
   | some true=>some (some (n,.b true))
   | some false=>Bs .str (.s x) (Gx l) (n+1)
   | none=>none):=rfl
  have a:DX .str (.s x) (.s e)=some (x==e):=rfl;rw[c,a,A0c];cases f:(x==e) with
  | true=>exact .inl ⟨rfl,n,rfl⟩
  | false=>simp only[Ayh];exact d (n+1)
theorem kP(names:List Aa)(t:names.length<=2^40)(q:∀s∈names,s.length<AG):Al π W0 56 [.sl (names.map V.s)] [] (.b (EJ names)) []:=by
 generalize hS:EJ names=S;unfold EJ at hS;refine Ae (vs:=[.b S]) An0 (by simp) (by simp) λn0 h=>?_;clear h;simp only[push_cast,reduceEqDiff];intros;rename_i k1 k2 k3;refine Am names.length (Inv:=λm st=>∃dn a n j,names=dn++a/\m=a.length/\(Fl dn a&&decide ((names.length:Int)<=20))=S/\st=⟨[(0,.sl (names.map V.s)),(3,.arr (j,6)),(7,.sl (names.map V.s)),(8,.i .i64 names.length),(9,.i .i64 dn.length)],[((j,6),.map (Gx dn))],n⟩) ⟨_,Ak.refl,[],names,_,_,rfl,rfl,hS,rfl⟩ ?_;clear hS;rintro m _ ⟨dn,a,n,j,d,rfl,c,rfl⟩;cases a with
 | nil=>
  rw[Fl,AuB] at c;subst c;have e:decide ((dn.length:Int)<(names.length:Int))=false:=by rw[d];simp
  simp only[push_cast,reduceEqDiff,e];intros;exact Af (by simp[get])
 | cons x a=>
  have p:=AL d;have e:=X4 d;have l:=F6 d;have r:dn.length<names.length:=by omega
  have o:=Ai x (dn:=dn) (by omega);have g:=Gl W0 x (q x (by rw[d];simp));have f:Gx dn++[(V.s x,V.b true)]=Gx (dn++[x]):=by simp[Gx]
  rw[Fl] at c;generalize Cy x=k at *;rcases JN x dn 0 with⟨hc,i,hf⟩|⟨hc,hf⟩
  all_goals rw[hc] at c
  all_goals cases k
  all_goals simp only[bq] at c
  all_goals simp only[push_cast,reduceEqDiff,e,l]
  all_goals (repeat' (first|(refine Ac (by exact g) ?_;simp only[push_cast,reduceEqDiff,o,hf,f])|intro _))
  all_goals (first|(subst c;exact Af (by simp[get]))|exact⟨_,_,A0j _,Ak.refl,dn++[x],a,_,_,by rw[d];simp,rfl,c,rfl⟩)
theorem ND(l:List Az):∃r,l=BG l++r:=by
 induction l with
 | nil=>exact⟨[],rfl⟩
 | cons x r b=>
  rw[BG];split
  .obtain⟨q,a⟩:=b;exact⟨q,by rw[AtN,<-a]⟩
  .exact⟨x::r,rfl⟩
set_option maxHeartbeats 4000000 in
theorem Sj(names:List Aa)(ins:List Az)(i:Nat)(E:i<ins.length)(F:ins.length<=2^30):Al π W0 94 [AJ names ins,.i .i64 i] [] (.sl ((BG (ins.drop (i+1))).map Az.enc)) []:=by
 have p:IntKind.i64.wrap ((i:Int)+1)=((ins.take (i+1)).length:Int):=by rw[wrap64 (by omega) (by omega),Ayq,Aza (by omega)];simp
 have e:∀y∈ins.map Az.enc,(cells y).length=4:=λy C=>by obtain⟨z,_,rfl⟩:=AmO.1 C;rfl
 unfold AJ;generalize hS:BG (ins.drop (i+1))=S;refine Ae (vs:=[.sl (S.map Az.enc)]) Aoc (by simp) (by simp) λn0 q=>?_;clear q;simp only[push_cast,reduceEqDiff,p];intros;refine Am (ins.drop (i+1)).length (Inv:=λm st=>∃c a dn n o,dn=ins.take (i+1)++c/\ins=dn++a/\m=a.length/\c++BG a=S/\st=⟨[(1,.i .i64 i),(2,.ref (o,2) 0),(5,.i .i64 dn.length)],[((o,2),.box (.agg [.sl (names.map V.s),.sl (ins.map Az.enc)]))],n⟩) ⟨_,Ak.refl,[],ins.drop (i+1),ins.take (i+1),_,_,by simp,(AyY _ _).symm,rfl,hS,rfl⟩ ?_;clear hS;rintro m _ ⟨c,a,dn,n,o,h,j,rfl,b,rfl⟩;have B:(ins.take (i+1)).length=i+1:=by rw[Ayq,Aza (by omega)]
 have k:dn.length<=ins.length:=by rw[j];simp
 have g:(ins.take (i+1)).length<=dn.length:=by rw[h];simp
 have f:(if(ins.take (i+1)).length<=dn.length/\dn.length<=ins.length then some (V.sl (List.drop (ins.take (i+1)).length (List.take dn.length (ins.map Az.enc)))) else none)=some (V.sl (c.map Az.enc)):=by
  rw[if_pos ⟨g,k⟩];have u:List.take dn.length (ins.map Az.enc)=dn.map Az.enc:=by
   conv=>lhs;rw[j]
   simp
  rw[u,h,Azb,List.drop_append_of_le_length (by simp)];simp
 have A:((ins.take (i+1)).length<=dn.length/\dn.length<=ins.length)=True:=eq_true ⟨g,k⟩;cases a with
 | nil=>
  have l:decide ((dn.length:Int)<(ins.length:Int))=false:=by rw[j];simp
  rw[BG,AoG] at b;subst b;simp only[push_cast,reduceEqDiff,l,p,eq_true e,f];intros;exact Af (by simp[get])
 | cons x a=>
  have v:=AL j;have l:=SZ j;have r:=F6 j;have D:dn.length<ins.length:=by omega
  have t:=Ai x (dn:=dn) (by omega);rw[BG] at b;cases d:(x.op==11) with
  | false=>rw[d] at b;simp only[AcJ,AoG] at b;subst b;simp only[push_cast,reduceEqDiff,l,r,d,p,eq_true e,f];intros;exact Af (by simp[get])
  | true=>rw[d] at b;simp only  at b;simp only[push_cast,reduceEqDiff,l,r,t,d];intros;exact⟨_,_,A0j _,Ak.refl,c++[x],a,dn++[x],_,_,by rw[h];simp,by rw[j];simp,rfl,by rw[<-b];simp,rfl⟩
set_option maxHeartbeats 4000000 in
theorem L8(names:List Aa)(ins:List Az)(i:Nat)(d:Az)(o:ins[i]?=some d)(U:ins.length<=2^30)(X:∀x∈ins,x.s.length<=2^30) :
  Al π W0 91 [AJ names ins,.i .i64 i] [] (.b (Dm d.b&&eK d.b (BG (ins.drop (i+1))))) []:=by
 have R:i<ins.length:=(Afk.1 o).1;have k:(ins.map Az.enc)[i]?=some (.agg [.i .i64 d.op,.i .i64 d.a,.i .i64 d.b,.s d.s]):=by rw[AgQ,o];rfl
 have A:=Sj W0 names ins i R U;have g:=TO W0 d.b;obtain⟨q,F⟩:=ND (ins.drop (i+1));have N:(BG (ins.drop (i+1))).length<=ins.length:=by have:=congrArg List.length F;simp at this;omega
 have v:∀x∈BG (ins.drop (i+1)),x∈ins:=λx Y=>Ay9 (by rw[F];exact Awy _ Y);rw[zT];generalize BG (ins.drop (i+1))=L at *;generalize hS:(Dm d.b&&I7 d.b [] L)=S;generalize Dm d.b=G at *;unfold AJ at *;refine Ae (vs:=[.b S]) AsA (by simp) (by simp) λn0 D=>?_;clear D;simp only[push_cast,reduceEqDiff]
 repeat' (first|(((first|apply Ab|apply Ag|apply Ah)<;>intro _h)<;>simp only[push_cast,reduceEqDiff,_h])|(refine Ac (by exact A) ?_;simp only[push_cast,reduceEqDiff])|intro _)
 refine Am L.length (Inv:=λm st=>∃dn c n E u,L=dn++c/\m=c.length/\(G&&I7 d.b (dn.map (·.s)) c)=S/\st=⟨[(1,.i .i64 i),(2,.ref (u,2) 0),(5,.sl (L.map Az.enc)),(6,.arr (E,12)),(13,.sl (L.map Az.enc)),(14,.i .i64 L.length),(15,.i .i64 dn.length)],[((E,12),.map (Gx (dn.map (·.s)))),((u,2),.box (.agg [.sl (names.map V.s),.sl (ins.map Az.enc)]))],n⟩) ⟨_,Ak.refl,[],L,_,_,_,rfl,rfl,hS,rfl⟩ ?_;clear hS;rintro m _ ⟨dn,c,n,E,u,f,rfl,e,rfl⟩;cases c with
 | nil=>
  have t:decide ((dn.length:Int)<(L.length:Int))=false:=by rw[f];simp
  have B:(dn.map (·.s)).length=L.length:=by rw[f];simp
  rw[Zg,B] at e;rcases JN CO (dn.map (·.s)) 0 with⟨hc,j,hf⟩|⟨hc,hf⟩
  .rw[hc] at e;have M:decide ((L.length:Int)>=1)=true:=by
    rw[f];cases dn with
    | nil=>simp at hc
    | cons y r=>simp;omega
   simp only[CO] at hf;clear f;simp only[push_cast,reduceEqDiff,t,k]
   repeat' (first|(((first|apply Ab|apply Ag|apply Ah)<;>intro _h)<;>simp only[push_cast,reduceEqDiff,_h,hf,M])|(refine Ac (by exact g) ?_;simp only[push_cast])|intro _)
   all_goals (subst e;refine Af ?_;simp only[Bw,if_true, *,bq];done)
  .rw[hc] at e;simp only[CO] at hf;clear f;simp only[push_cast,reduceEqDiff,t,k]
   repeat' (first|(((first|apply Ab|apply Ag|apply Ah)<;>intro _h)<;>simp only[push_cast,reduceEqDiff,_h,hf])|(refine Ac (by exact g) ?_;simp only[push_cast])|intro _)
   all_goals (subst e;refine Af ?_;simp only[Bw,if_true,bq];done)
 | cons x c=>
  have O:=AL f;have t:=SZ f;have J:=F6 f;have Z:dn.length<L.length:=by omega
  have K:=Ai x (dn:=dn) (by omega);have C:=AjE W0 d.b x.s (X x (v x (by rw[f];simp)));have z:Gx (dn.map (·.s))++[(V.s x.s,V.b true)]=Gx ((dn++[x]).map (·.s)):=by simp[Gx]
  rw[SA] at e;have l:dn.map (·.s)++[x.s]=(dn++[x]).map (·.s):=by simp
  rw[l] at e;clear l;generalize Rz d.b x.s=I at *;rcases JN x.s (dn.map (·.s)) 0 with⟨hc,j,hf⟩|⟨hc,hf⟩
  all_goals rw[hc] at e
  all_goals cases I
  all_goals simp only[bq,if_true] at e
  all_goals simp only[push_cast,reduceEqDiff,t,J,k]
  all_goals (repeat' (first|(refine Ac (by exact C) ?_;simp only[push_cast,reduceEqDiff,K,hf,z])|intro _))
  all_goals (first|(subst e;exact Af (by simp[get]))|exact⟨_,_,A0j _,Ak.sub (by simp) (λp hp=>by simp at hp⊢;rcases hp with h|h<;>simp[h]) (A0h _),dn++[x],c,_,_,_,by rw[f];simp,rfl,e,rfl⟩)
theorem Qq(names:List Aa)(ins:List Az)(i:Nat)(a:Int)(r:ins.length<=2^30):Al π W0 92 [AJ names ins,.i .i64 i,.i .i64 a] [] (.b (Li ins i a)) []:=by
 unfold Li AJ;have d:decide (a>(i:Int))=!decide (a<=(i:Int)):=by rw[AtV];simp
 have e:decide (a<(ins.length:Int))=!decide (a>=(ins.length:Int)):=by rw[AtV];simp
 cases g:decide (a<=(i:Int)) with
 | true=>
  rw[g] at d;refine Ae (vs:=[.b false]) lU (by simp) (by simp) λn0 c=>?_;clear c;simp only[push_cast,reduceEqDiff,d]
  repeat' (first|(((first|apply Ab|apply Ag|apply Ah)<;>intro _h)<;>simp only[push_cast,reduceEqDiff,d,AuF,Ave])|intro _)
  all_goals exact Af (by simp[get])
 | false=>
 rw[g] at d;cases h:decide (a>=(ins.length:Int)) with
 | true=>
  rw[h] at e;refine Ae (vs:=[.b false]) lU (by simp) (by simp) λn0 c=>?_;clear c;simp only[push_cast,reduceEqDiff,d,e]
  repeat' (first|(((first|apply Ab|apply Ag|apply Ah)<;>intro _h)<;>simp only[push_cast,reduceEqDiff,d,e,AuF,Ave,AcG])|intro _)
  all_goals exact Af (by simp[get])
 | false=>
 rw[h] at e;have j:0<=a/\a.toNat<ins.length:=by simp at g h;omega
 have f:(0<=a)=True:=eq_true j.1;obtain⟨y,o⟩:∃y,ins[a.toNat]?=some y:=⟨_,Ae8 j.2⟩
 have m:(ins.map Az.enc)[a.toNat]?=some (.agg [.i .i64 y.op,.i .i64 y.a,.i .i64 y.b,.s y.s]):=by rw[AgQ,o];rfl
 have q:Eg ins a.toNat=y.op:=by unfold Eg;rw[o]
 have k:=j.2;have l:(y.op !=11)=!(y.op==11):=rfl;rw[q];generalize(y.op==11)=p at *;refine Ae (vs:=[.b (!p)]) lU (by simp) (by simp) λn0 c=>?_;clear c;simp only[push_cast,reduceEqDiff,d,e,f,m,l]
 repeat' (first|(((first|apply Ab|apply Ag|apply Ah)<;>intro _h)<;>simp only[push_cast,reduceEqDiff,d,e,AuF,Ave,AcG,f,m,k,l])|intro _)
 all_goals exact Af (by simp[get])
theorem Y9:Al π W0 89 [.i .i64 1] [] (.tup [.agg [.b false,.b false,.b true],.b true]) []:=by
 refine Ae (vs:=[.agg [.b false,.b false,.b true],.b true]) EM (by simp) (by simp) λn0 a=>?_;clear a;simp only[push_cast,seval]
 repeat' (first|(((first|apply Ab|apply Ag|apply Ah)<;>intro _h)<;>simp only[push_cast,seval])|intro _)
 all_goals (refine Ad ?_;simp[push_cast])
theorem YM:Al π W0 89 [.i .i64 2] [] (.tup [.agg [.b false,.b false,.b true],.b true]) []:=by
 refine Ae (vs:=[.agg [.b false,.b false,.b true],.b true]) EM (by simp) (by simp) λn0 a=>?_;clear a;simp only[push_cast,seval]
 repeat' (first|(((first|apply Ab|apply Ag|apply Ah)<;>intro _h)<;>simp only[push_cast,seval])|intro _)
 all_goals (refine Ad ?_;simp[push_cast])
theorem Y5:Al π W0 89 [.i .i64 3] [] (.tup [.agg [.b false,.b false,.b true],.b true]) []:=by
 refine Ae (vs:=[.agg [.b false,.b false,.b true],.b true]) EM (by simp) (by simp) λn0 a=>?_;clear a;simp only[push_cast,seval]
 repeat' (first|(((first|apply Ab|apply Ag|apply Ah)<;>intro _h)<;>simp only[push_cast,seval])|intro _)
 all_goals (refine Ad ?_;simp[push_cast])
theorem aJ:Al π W0 89 [.i .i64 4] [] (.tup [.agg [.b false,.b false,.b true],.b true]) []:=by
 refine Ae (vs:=[.agg [.b false,.b false,.b true],.b true]) EM (by simp) (by simp) λn0 a=>?_;clear a;simp only[push_cast,seval]
 repeat' (first|(((first|apply Ab|apply Ag|apply Ah)<;>intro _h)<;>simp only[push_cast,seval])|intro _)
 all_goals (refine Ad ?_;simp[push_cast])
theorem Zm:Al π W0 89 [.i .i64 5] [] (.tup [.agg [.b true,.b false,.b false],.b true]) []:=by
 refine Ae (vs:=[.agg [.b true,.b false,.b false],.b true]) EM (by simp) (by simp) λn0 a=>?_;clear a;simp only[push_cast,seval]
 repeat' (first|(((first|apply Ab|apply Ag|apply Ah)<;>intro _h)<;>simp only[push_cast,seval])|intro _)
 all_goals (refine Ad ?_;simp[push_cast])
theorem ZL:Al π W0 89 [.i .i64 6] [] (.tup [.agg [.b true,.b false,.b true],.b true]) []:=by
 refine Ae (vs:=[.agg [.b true,.b false,.b true],.b true]) EM (by simp) (by simp) λn0 a=>?_;clear a;simp only[push_cast,seval]
 repeat' (first|(((first|apply Ab|apply Ag|apply Ah)<;>intro _h)<;>simp only[push_cast,seval])|intro _)
 all_goals (refine Ad ?_;simp[push_cast])
theorem bA:Al π W0 89 [.i .i64 7] [] (.tup [.agg [.b true,.b false,.b true],.b true]) []:=by
 refine Ae (vs:=[.agg [.b true,.b false,.b true],.b true]) EM (by simp) (by simp) λn0 a=>?_;clear a;simp only[push_cast,seval]
 repeat' (first|(((first|apply Ab|apply Ag|apply Ah)<;>intro _h)<;>simp only[push_cast,seval])|intro _)
 all_goals (refine Ad ?_;simp[push_cast])
theorem Yu:Al π W0 89 [.i .i64 8] [] (.tup [.agg [.b true,.b false,.b true],.b true]) []:=by
 refine Ae (vs:=[.agg [.b true,.b false,.b true],.b true]) EM (by simp) (by simp) λn0 a=>?_;clear a;simp only[push_cast,seval]
 repeat' (first|(((first|apply Ab|apply Ag|apply Ah)<;>intro _h)<;>simp only[push_cast,seval])|intro _)
 all_goals (refine Ad ?_;simp[push_cast])
theorem Yq:Al π W0 89 [.i .i64 9] [] (.tup [.agg [.b true,.b false,.b true],.b true]) []:=by
 refine Ae (vs:=[.agg [.b true,.b false,.b true],.b true]) EM (by simp) (by simp) λn0 a=>?_;clear a;simp only[push_cast,seval]
 repeat' (first|(((first|apply Ab|apply Ag|apply Ah)<;>intro _h)<;>simp only[push_cast,seval])|intro _)
 all_goals (refine Ad ?_;simp[push_cast])
theorem SH:Al π W0 89 [.i .i64 10] [] (.tup [.agg [.b true,.b true,.b false],.b true]) []:=by
 refine Ae (vs:=[.agg [.b true,.b true,.b false],.b true]) EM (by simp) (by simp) λn0 a=>?_;clear a;simp only[push_cast,seval]
 repeat' (first|(((first|apply Ab|apply Ag|apply Ah)<;>intro _h)<;>simp only[push_cast,seval])|intro _)
 all_goals (refine Ad ?_;simp[push_cast])
theorem Tn:Al π W0 89 [.i .i64 11] [] (.tup [.agg [.b true,.b false,.b true],.b true]) []:=by
 refine Ae (vs:=[.agg [.b true,.b false,.b true],.b true]) EM (by simp) (by simp) λn0 a=>?_;clear a;simp only[push_cast,seval]
 repeat' (first|(((first|apply Ab|apply Ag|apply Ah)<;>intro _h)<;>simp only[push_cast,seval])|intro _)
 all_goals (refine Ad ?_;simp[push_cast])
theorem Un:Al π W0 89 [.i .i64 12] [] (.tup [.agg [.b true,.b false,.b false],.b true]) []:=by
 refine Ae (vs:=[.agg [.b true,.b false,.b false],.b true]) EM (by simp) (by simp) λn0 a=>?_;clear a;simp only[push_cast,seval]
 repeat' (first|(((first|apply Ab|apply Ag|apply Ah)<;>intro _h)<;>simp only[push_cast,seval])|intro _)
 all_goals (refine Ad ?_;simp[push_cast])
theorem SR:Al π W0 89 [.i .i64 13] [] (.tup [.agg [.b false,.b false,.b false],.b true]) []:=by
 refine Ae (vs:=[.agg [.b false,.b false,.b false],.b true]) EM (by simp) (by simp) λn0 a=>?_;clear a;simp only[push_cast,seval]
 repeat' (first|(((first|apply Ab|apply Ag|apply Ah)<;>intro _h)<;>simp only[push_cast,seval])|intro _)
 all_goals (refine Ad ?_;simp[push_cast])
theorem Ys(k:Int)(d:k<1\/k>13):Al π W0 89 [.i .i64 k] [] (.tup [.agg [.b false,.b false,.b false],.b false]) []:=by
 rcases d with d|d
 .have c:decide (k<1)=true:=by simp;omega
  refine Ae (vs:=[.agg [.b false,.b false,.b false],.b false]) EM (by simp) (by simp) λn0 a=>?_;clear a;simp only[push_cast,seval,c]
  repeat' (first|(((first|apply Ab|apply Ag|apply Ah)<;>intro _h)<;>simp only[push_cast,seval,c])|intro _)
  all_goals (refine Ad ?_;simp[push_cast])
 .have c:decide (k<1)=false:=by simp;omega
  have e:decide (k>13)=true:=by simp;omega
  refine Ae (vs:=[.agg [.b false,.b false,.b false],.b false]) EM (by simp) (by simp) λn0 a=>?_;clear a;simp only[push_cast,seval,c,e]
  repeat' (first|(((first|apply Ab|apply Ag|apply Ah)<;>intro _h)<;>simp only[push_cast,seval,c,e])|intro _)
  all_goals (refine Ad ?_;simp[push_cast])
set_option maxHeartbeats 4000000 in
theorem vp1(names:List Aa)(ins:List Az)(i:Nat)(a b:Int)(s:Aa)(j:ins[i]?=some ⟨1,a,b,s⟩)(o:names.length<=2^30)(m:ins.length<=2^30)(k:∀x∈ins,x.s.length<=2^30) :
  Al π W0 57 [AJ names ins,.i .i64 i] [] (.b (AI names.length ins i ⟨1,a,b,s⟩)) []:=by
 have g:i<ins.length:=(Afk.1 j).1;have e:(ins.map Az.enc)[i]?=some (.agg [.i .i64 1,.i .i64 a,.i .i64 b,.s s]):=by rw[AgQ,j];rfl
 have c:decide ((i:Int)<0)=false:=by simp
 have d:decide ((i:Int)>=(ins.length:Int))=false:=by simp;omega
 have l:s.length<=2^30:=k _ (AfA j);have f:=Y9 W0;generalize hS:AI names.length ins i ⟨1,a,b,s⟩=S;simp only[AI,IM,Int.reduceBEq,Int.reduceBNe,bq,if_true,if_false,Int.reduceBEq,reduceCtorEq,AuK,Ayr] at hS;unfold AJ;refine Ae (vs:=[.b S]) EE (by simp) (by simp) λn0 h=>?_;clear h;simp only[push_cast,seval,reduceEqDiff,e,c,d,g,AcG,Int.reduceBEq,Int.reduceBNe]
 repeat' (first|(((first|apply Ab|apply Ag|apply Ah)<;>intro _h)<;>simp only[push_cast,seval,reduceEqDiff,_h,e,c,d,g,AcG,Int.reduceBEq,Int.reduceBNe])|(refine Ac (by exact f) ?_;simp only[push_cast,seval,reduceEqDiff,e,c,d,g,AcG,Int.reduceBEq,Int.reduceBNe])|intro _)
 all_goals subst hS
 all_goals (refine Af ?_;simp only[Bw,if_true,if_false, *,bq,reduceEqDiff];done)
set_option maxHeartbeats 4000000 in
theorem vp2(names:List Aa)(ins:List Az)(i:Nat)(a b:Int)(s:Aa)(k:ins[i]?=some ⟨2,a,b,s⟩)(q:names.length<=2^30)(p:ins.length<=2^30)(l:∀x∈ins,x.s.length<=2^30) :
  Al π W0 57 [AJ names ins,.i .i64 i] [] (.b (AI names.length ins i ⟨2,a,b,s⟩)) []:=by
 have h:i<ins.length:=(Afk.1 k).1;have e:(ins.map Az.enc)[i]?=some (.agg [.i .i64 2,.i .i64 a,.i .i64 b,.s s]):=by rw[AgQ,k];rfl
 have c:decide ((i:Int)<0)=false:=by simp
 have d:decide ((i:Int)>=(ins.length:Int))=false:=by simp;omega
 have m:s.length<=2^30:=l _ (AfA k);have g:=YM W0;have f:=Gl W0 s (by unfold AG;omega);generalize hS:AI names.length ins i ⟨2,a,b,s⟩=S;simp only[AI,IM,Int.reduceBEq,Int.reduceBNe,bq,if_true,if_false,Int.reduceBEq,reduceCtorEq,AuK,Ayr] at hS;generalize Cy s=o at *;unfold AJ;refine Ae (vs:=[.b S]) EE (by simp) (by simp) λn0 j=>?_;clear j;simp only[push_cast,seval,reduceEqDiff,e,c,d,h,AcG,Int.reduceBEq,Int.reduceBNe]
 repeat' (first|(((first|apply Ab|apply Ag|apply Ah)<;>intro _h)<;>simp only[push_cast,seval,reduceEqDiff,_h,e,c,d,h,AcG,Int.reduceBEq,Int.reduceBNe])|((first|refine Ac (by exact g) ?_|refine Ac (by exact f) ?_);simp only[push_cast,seval,reduceEqDiff,e,c,d,h,AcG,Int.reduceBEq,Int.reduceBNe])|intro _)
 all_goals subst hS
 all_goals (refine Af ?_;simp only[Bw,if_true,if_false, *,bq,reduceEqDiff];done)
set_option maxHeartbeats 4000000 in
theorem vp3(names:List Aa)(ins:List Az)(i:Nat)(a b:Int)(s:Aa)(k:ins[i]?=some ⟨3,a,b,s⟩)(q:names.length<=2^30)(p:ins.length<=2^30)(l:∀x∈ins,x.s.length<=2^30) :
  Al π W0 57 [AJ names ins,.i .i64 i] [] (.b (AI names.length ins i ⟨3,a,b,s⟩)) []:=by
 have h:i<ins.length:=(Afk.1 k).1;have e:(ins.map Az.enc)[i]?=some (.agg [.i .i64 3,.i .i64 a,.i .i64 b,.s s]):=by rw[AgQ,k];rfl
 have c:decide ((i:Int)<0)=false:=by simp
 have d:decide ((i:Int)>=(ins.length:Int))=false:=by simp;omega
 have m:s.length<=2^30:=l _ (AfA k);have g:=Y5 W0;have f:=Gl W0 s (by unfold AG;omega);generalize hS:AI names.length ins i ⟨3,a,b,s⟩=S;simp only[AI,IM,Int.reduceBEq,Int.reduceBNe,bq,if_true,if_false,Int.reduceBEq,reduceCtorEq,AuK,Ayr] at hS;generalize Cy s=o at *;unfold AJ;refine Ae (vs:=[.b S]) EE (by simp) (by simp) λn0 j=>?_;clear j;simp only[push_cast,seval,reduceEqDiff,e,c,d,h,AcG,Int.reduceBEq,Int.reduceBNe]
 repeat' (first|(((first|apply Ab|apply Ag|apply Ah)<;>intro _h)<;>simp only[push_cast,seval,reduceEqDiff,_h,e,c,d,h,AcG,Int.reduceBEq,Int.reduceBNe])|((first|refine Ac (by exact g) ?_|refine Ac (by exact f) ?_);simp only[push_cast,seval,reduceEqDiff,e,c,d,h,AcG,Int.reduceBEq,Int.reduceBNe])|intro _)
 all_goals subst hS
 all_goals (refine Af ?_;simp only[Bw,if_true,if_false, *,bq,reduceEqDiff];done)
set_option maxHeartbeats 4000000 in
theorem vp4(names:List Aa)(ins:List Az)(i:Nat)(a b:Int)(s:Aa)(k:ins[i]?=some ⟨4,a,b,s⟩)(q:names.length<=2^30)(p:ins.length<=2^30)(l:∀x∈ins,x.s.length<=2^30) :
  Al π W0 57 [AJ names ins,.i .i64 i] [] (.b (AI names.length ins i ⟨4,a,b,s⟩)) []:=by
 have h:i<ins.length:=(Afk.1 k).1;have e:(ins.map Az.enc)[i]?=some (.agg [.i .i64 4,.i .i64 a,.i .i64 b,.s s]):=by rw[AgQ,k];rfl
 have c:decide ((i:Int)<0)=false:=by simp
 have d:decide ((i:Int)>=(ins.length:Int))=false:=by simp;omega
 have m:s.length<=2^30:=l _ (AfA k);have g:=aJ W0;have f:=Gl W0 s (by unfold AG;omega);generalize hS:AI names.length ins i ⟨4,a,b,s⟩=S;simp only[AI,IM,Int.reduceBEq,Int.reduceBNe,bq,if_true,if_false,Int.reduceBEq,reduceCtorEq,AuK,Ayr] at hS;generalize Cy s=o at *;unfold AJ;refine Ae (vs:=[.b S]) EE (by simp) (by simp) λn0 j=>?_;clear j;simp only[push_cast,seval,reduceEqDiff,e,c,d,h,AcG,Int.reduceBEq,Int.reduceBNe]
 repeat' (first|(((first|apply Ab|apply Ag|apply Ah)<;>intro _h)<;>simp only[push_cast,seval,reduceEqDiff,_h,e,c,d,h,AcG,Int.reduceBEq,Int.reduceBNe])|((first|refine Ac (by exact g) ?_|refine Ac (by exact f) ?_);simp only[push_cast,seval,reduceEqDiff,e,c,d,h,AcG,Int.reduceBEq,Int.reduceBNe])|intro _)
 all_goals subst hS
 all_goals (refine Af ?_;simp only[Bw,if_true,if_false, *,bq,reduceEqDiff];done)
set_option maxHeartbeats 4000000 in
theorem vp5(names:List Aa)(ins:List Az)(i:Nat)(a b:Int)(s:Aa)(j:ins[i]?=some ⟨5,a,b,s⟩)(o:names.length<=2^30)(m:ins.length<=2^30)(k:∀x∈ins,x.s.length<=2^30) :
  Al π W0 57 [AJ names ins,.i .i64 i] [] (.b (AI names.length ins i ⟨5,a,b,s⟩)) []:=by
 have g:i<ins.length:=(Afk.1 j).1;have e:(ins.map Az.enc)[i]?=some (.agg [.i .i64 5,.i .i64 a,.i .i64 b,.s s]):=by rw[AgQ,j];rfl
 have c:decide ((i:Int)<0)=false:=by simp
 have d:decide ((i:Int)>=(ins.length:Int))=false:=by simp;omega
 have l:s.length<=2^30:=k _ (AfA j);have f:=Zm W0;generalize hS:AI names.length ins i ⟨5,a,b,s⟩=S;simp only[AI,IM,Int.reduceBEq,Int.reduceBNe,bq,if_true,if_false,Int.reduceBEq,reduceCtorEq,AuK,Ayr] at hS;rw[show(s==([]:Aa))=!(!(s==[])) from(AzS _).symm] at hS;unfold AJ;refine Ae (vs:=[.b S]) EE (by simp) (by simp) λn0 h=>?_;clear h;simp only[push_cast,seval,reduceEqDiff,e,c,d,g,AcG,Int.reduceBEq,Int.reduceBNe]
 repeat' (first|(((first|apply Ab|apply Ag|apply Ah)<;>intro _h)<;>simp only[push_cast,seval,reduceEqDiff,_h,e,c,d,g,AcG,Int.reduceBEq,Int.reduceBNe])|(refine Ac (by exact f) ?_;simp only[push_cast,seval,reduceEqDiff,e,c,d,g,AcG,Int.reduceBEq,Int.reduceBNe])|intro _)
 all_goals subst hS
 all_goals (refine Af ?_;simp only[Bw,if_true,if_false, *,bq,reduceEqDiff];done)
set_option maxHeartbeats 4000000 in
theorem vp6(names:List Aa)(ins:List Az)(i:Nat)(a b:Int)(s:Aa)(j:ins[i]?=some ⟨6,a,b,s⟩)(o:names.length<=2^30)(m:ins.length<=2^30)(k:∀x∈ins,x.s.length<=2^30) :
  Al π W0 57 [AJ names ins,.i .i64 i] [] (.b (AI names.length ins i ⟨6,a,b,s⟩)) []:=by
 have g:i<ins.length:=(Afk.1 j).1;have e:(ins.map Az.enc)[i]?=some (.agg [.i .i64 6,.i .i64 a,.i .i64 b,.s s]):=by rw[AgQ,j];rfl
 have c:decide ((i:Int)<0)=false:=by simp
 have d:decide ((i:Int)>=(ins.length:Int))=false:=by simp;omega
 have l:s.length<=2^30:=k _ (AfA j);have f:=ZL W0;generalize hS:AI names.length ins i ⟨6,a,b,s⟩=S;simp only[AI,IM,Int.reduceBEq,Int.reduceBNe,bq,if_true,if_false,Int.reduceBEq,reduceCtorEq,AuK,Ayr] at hS;unfold AJ;refine Ae (vs:=[.b S]) EE (by simp) (by simp) λn0 h=>?_;clear h;simp only[push_cast,seval,reduceEqDiff,e,c,d,g,AcG,Int.reduceBEq,Int.reduceBNe]
 repeat' (first|(((first|apply Ab|apply Ag|apply Ah)<;>intro _h)<;>simp only[push_cast,seval,reduceEqDiff,_h,e,c,d,g,AcG,Int.reduceBEq,Int.reduceBNe])|(refine Ac (by exact f) ?_;simp only[push_cast,seval,reduceEqDiff,e,c,d,g,AcG,Int.reduceBEq,Int.reduceBNe])|intro _)
 all_goals subst hS
 all_goals (refine Af ?_;simp only[Bw,if_true,if_false, *,bq,reduceEqDiff];done)
set_option maxHeartbeats 4000000 in
theorem vp7(names:List Aa)(ins:List Az)(i:Nat)(a b:Int)(s:Aa)(k:ins[i]?=some ⟨7,a,b,s⟩)(q:names.length<=2^30)(p:ins.length<=2^30)(l:∀x∈ins,x.s.length<=2^30) :
  Al π W0 57 [AJ names ins,.i .i64 i] [] (.b (AI names.length ins i ⟨7,a,b,s⟩)) []:=by
 have h:i<ins.length:=(Afk.1 k).1;have e:(ins.map Az.enc)[i]?=some (.agg [.i .i64 7,.i .i64 a,.i .i64 b,.s s]):=by rw[AgQ,k];rfl
 have c:decide ((i:Int)<0)=false:=by simp
 have d:decide ((i:Int)>=(ins.length:Int))=false:=by simp;omega
 have m:s.length<=2^30:=l _ (AfA k);have g:=bA W0;have f:=Gl W0 s (by unfold AG;omega);generalize hS:AI names.length ins i ⟨7,a,b,s⟩=S;simp only[AI,IM,Int.reduceBEq,Int.reduceBNe,bq,if_true,if_false,Int.reduceBEq,reduceCtorEq,AuK,Ayr] at hS;generalize Cy s=o at *;unfold AJ;refine Ae (vs:=[.b S]) EE (by simp) (by simp) λn0 j=>?_;clear j;simp only[push_cast,seval,reduceEqDiff,e,c,d,h,AcG,Int.reduceBEq,Int.reduceBNe]
 repeat' (first|(((first|apply Ab|apply Ag|apply Ah)<;>intro _h)<;>simp only[push_cast,seval,reduceEqDiff,_h,e,c,d,h,AcG,Int.reduceBEq,Int.reduceBNe])|((first|refine Ac (by exact g) ?_|refine Ac (by exact f) ?_);simp only[push_cast,seval,reduceEqDiff,e,c,d,h,AcG,Int.reduceBEq,Int.reduceBNe])|intro _)
 all_goals subst hS
 all_goals (refine Af ?_;simp only[Bw,if_true,if_false, *,bq,reduceEqDiff];done)
set_option maxHeartbeats 4000000 in
theorem vp9(names:List Aa)(ins:List Az)(i:Nat)(a b:Int)(s:Aa)(k:ins[i]?=some ⟨9,a,b,s⟩)(q:names.length<=2^30)(p:ins.length<=2^30)(l:∀x∈ins,x.s.length<=2^30) :
  Al π W0 57 [AJ names ins,.i .i64 i] [] (.b (AI names.length ins i ⟨9,a,b,s⟩)) []:=by
 have h:i<ins.length:=(Afk.1 k).1;have e:(ins.map Az.enc)[i]?=some (.agg [.i .i64 9,.i .i64 a,.i .i64 b,.s s]):=by rw[AgQ,k];rfl
 have c:decide ((i:Int)<0)=false:=by simp
 have d:decide ((i:Int)>=(ins.length:Int))=false:=by simp;omega
 have m:s.length<=2^30:=l _ (AfA k);have g:=Yq W0;have f:=Gl W0 s (by unfold AG;omega);generalize hS:AI names.length ins i ⟨9,a,b,s⟩=S;simp only[AI,IM,Int.reduceBEq,Int.reduceBNe,bq,if_true,if_false,Int.reduceBEq,reduceCtorEq,AuK,Ayr] at hS;generalize Cy s=o at *;unfold AJ;refine Ae (vs:=[.b S]) EE (by simp) (by simp) λn0 j=>?_;clear j;simp only[push_cast,seval,reduceEqDiff,e,c,d,h,AcG,Int.reduceBEq,Int.reduceBNe]
 repeat' (first|(((first|apply Ab|apply Ag|apply Ah)<;>intro _h)<;>simp only[push_cast,seval,reduceEqDiff,_h,e,c,d,h,AcG,Int.reduceBEq,Int.reduceBNe])|((first|refine Ac (by exact g) ?_|refine Ac (by exact f) ?_);simp only[push_cast,seval,reduceEqDiff,e,c,d,h,AcG,Int.reduceBEq,Int.reduceBNe])|intro _)
 all_goals subst hS
 all_goals (refine Af ?_;simp only[Bw,if_true,if_false, *,bq,reduceEqDiff];done)
set_option maxHeartbeats 4000000 in
theorem vp8(names:List Aa)(ins:List Az)(i:Nat)(a b:Int)(s:Aa)(k:ins[i]?=some ⟨8,a,b,s⟩)(q:names.length<=2^30)(p:ins.length<=2^30)(l:∀x∈ins,x.s.length<=2^30) :
  Al π W0 57 [AJ names ins,.i .i64 i] [] (.b (AI names.length ins i ⟨8,a,b,s⟩)) []:=by
 have h:i<ins.length:=(Afk.1 k).1;have e:(ins.map Az.enc)[i]?=some (.agg [.i .i64 8,.i .i64 a,.i .i64 b,.s s]):=by rw[AgQ,k];rfl
 have c:decide ((i:Int)<0)=false:=by simp
 have d:decide ((i:Int)>=(ins.length:Int))=false:=by simp;omega
 have m:s.length<=2^30:=l _ (AfA k);have g:=Yu W0;have f:=RE W0 s (by unfold AG;omega);generalize hS:AI names.length ins i ⟨8,a,b,s⟩=S;simp only[AI,IM,Int.reduceBEq,Int.reduceBNe,bq,if_true,if_false,Int.reduceBEq,reduceCtorEq,AuK,Ayr] at hS;generalize E6 s=o at *;unfold AJ;refine Ae (vs:=[.b S]) EE (by simp) (by simp) λn0 j=>?_;clear j;simp only[push_cast,seval,reduceEqDiff,e,c,d,h,AcG,Int.reduceBEq,Int.reduceBNe]
 repeat' (first|(((first|apply Ab|apply Ag|apply Ah)<;>intro _h)<;>simp only[push_cast,seval,reduceEqDiff,_h,e,c,d,h,AcG,Int.reduceBEq,Int.reduceBNe])|((first|refine Ac (by exact g) ?_|refine Ac (by exact f) ?_);simp only[push_cast,seval,reduceEqDiff,e,c,d,h,AcG,Int.reduceBEq,Int.reduceBNe])|intro _)
 all_goals subst hS
 all_goals (refine Af ?_;simp only[Bw,if_true,if_false, *,bq,reduceEqDiff];done)
set_option maxHeartbeats 4000000 in
theorem Avq(names:List Aa)(ins:List Az)(i:Nat)(a b:Int)(s:Aa)(c:ins[i]?=some ⟨10,a,b,s⟩)(q:names.length<=2^30)(m:ins.length<=2^30)(l:∀x∈ins,x.s.length<=2^30) :
  Al π W0 57 [AJ names ins,.i .i64 i] [] (.b (AI names.length ins i ⟨10,a,b,s⟩)) []:=by
 have j:i<ins.length:=(Afk.1 c).1;have f:(ins.map Az.enc)[i]?=some (.agg [.i .i64 10,.i .i64 a,.i .i64 b,.s s]):=by rw[AgQ,c];rfl
 have d:decide ((i:Int)<0)=false:=by simp
 have e:decide ((i:Int)>=(ins.length:Int))=false:=by simp;omega
 have o:s.length<=2^30:=l _ (AfA c);have h:=SH W0;have g:=L8 W0 names ins i _ c m l;generalize hS:AI names.length ins i ⟨10,a,b,s⟩=S;simp only[AI,IM,Int.reduceBEq,Int.reduceBNe,bq,if_true,if_false,Int.reduceBEq,reduceCtorEq,AuK,Ayr] at hS;generalize(Dm b&&eK b (BG (List.drop (i+1) ins)))=p at *;rw[show(s==([]:Aa))=!(!(s==[])) from(AzS _).symm] at hS;unfold AJ at *;refine Ae (vs:=[.b S]) EE (by simp) (by simp) λn0 k=>?_;clear k;simp only[push_cast,seval,reduceEqDiff,f,d,e,j,AcG,Int.reduceBEq,Int.reduceBNe]
 repeat' (first|(((first|apply Ab|apply Ag|apply Ah)<;>intro _h)<;>simp only[push_cast,seval,reduceEqDiff,_h,f,d,e,j,AcG,Int.reduceBEq,Int.reduceBNe])|((first|refine Ac (by exact h) ?_|refine Ac (by exact g) ?_);simp only[push_cast,seval,reduceEqDiff,f,d,e,j,AcG,Int.reduceBEq,Int.reduceBNe])|intro _)
 all_goals subst hS
 all_goals (refine Af ?_;simp only[Bw,if_true,if_false, *,bq,reduceEqDiff];done)
set_option maxHeartbeats 4000000 in
theorem Avf(names:List Aa)(ins:List Az)(i:Nat)(a b:Int)(s:Aa)(p:ins[i]?=some ⟨11,a,b,s⟩)(D:names.length<=2^30)(v:ins.length<=2^30)(A:∀x∈ins,x.s.length<=2^30) :
  Al π W0 57 [AJ names ins,.i .i64 i] [] (.b (AI names.length ins i ⟨11,a,b,s⟩)) []:=by
 have j:i<ins.length:=(Afk.1 p).1;have h:(ins.map Az.enc)[i]?=some (.agg [.i .i64 11,.i .i64 a,.i .i64 b,.s s]):=by rw[AgQ,p];rfl
 have f:decide ((i:Int)<0)=false:=by simp
 have g:decide ((i:Int)>=(ins.length:Int))=false:=by simp;omega
 have B:s.length<=2^30:=A _ (AfA p);have k:=Tn W0;have l:=Qq W0 names ins i a v;generalize hS:AI names.length ins i ⟨11,a,b,s⟩=S;simp only[AI,Int.reduceBEq,Int.reduceBNe,bq,if_true,if_false,Int.reduceBEq,reduceCtorEq,AuK,Ayr] at hS;generalize Li ins i a=T at *;unfold AJ at *;have m:(decide ((i:Int)>0)=false)\/(∃y:Az,decide ((i:Int)>0)=true/\(ins.map Az.enc)[(IntKind.i64.wrap ((i:Int)-1)).toNat]?=some (.agg [.i .i64 y.op,.i .i64 y.a,.i .i64 y.b,.s y.s])/\(0<=IntKind.i64.wrap ((i:Int)-1))=True/\(IntKind.i64.wrap ((i:Int)-1)).toNat<ins.length/\Eg ins (i-1)=y.op):=by
  rcases AyT i with u|u
  .exact .inl (by simp[u])
  .have o:IntKind.i64.wrap ((i:Int)-1)=((i-1:Nat):Int):=by rw[wrap64 (by omega) (by omega)];omega
   have d:i-1<ins.length:=by omega
   refine .inr ⟨ins[i-1],by simp;omega,?_,?_,?_,?_⟩
   .rw[o,AyG,AgQ,Ae8 d];rfl
   .rw[o];simp
   .rw[o,AyG];exact d
   .unfold Eg;rw[Ae8 d]
 rcases m with c|⟨z,c,q,r,t,C⟩
 .rw[c] at hS;simp only[bq,if_true,if_false,Int.reduceBEq,reduceCtorEq,Azp] at hS;refine Ae (vs:=[.b S]) EE (by simp) (by simp) λn0 e=>?_;clear e;simp only[push_cast,seval,reduceEqDiff,h,f,g,j,AcG,Int.reduceBEq,Int.reduceBNe,c]
  repeat' (first|(((first|apply Ab|apply Ag|apply Ah)<;>intro _h)<;>simp only[push_cast,seval,reduceEqDiff,_h,h,f,g,j,AcG,Int.reduceBEq,Int.reduceBNe,c])|((first|refine Ac (by exact k) ?_|refine Ac (by exact l) ?_);simp only[push_cast,seval,reduceEqDiff,h,f,g,j,AcG,Int.reduceBEq,Int.reduceBNe,c])|intro _)
  all_goals subst hS
  all_goals (refine Af ?_;simp only[Bw,if_true,if_false, *,bq,reduceEqDiff];done)
 .rw[c,C] at hS;simp only[bq,if_true,if_false,Int.reduceBEq,reduceCtorEq] at hS;refine Ae (vs:=[.b S]) EE (by simp) (by simp) λn0 e=>?_;clear e;simp only[push_cast,seval,reduceEqDiff,h,f,g,j,AcG,Int.reduceBEq,Int.reduceBNe,c,q,r,t]
  repeat' (first|(((first|apply Ab|apply Ag|apply Ah)<;>intro _h)<;>simp only[push_cast,seval,reduceEqDiff,_h,h,f,g,j,AcG,Int.reduceBEq,Int.reduceBNe,c,q,r,t])|((first|refine Ac (by exact k) ?_|refine Ac (by exact l) ?_);simp only[push_cast,seval,reduceEqDiff,h,f,g,j,AcG,Int.reduceBEq,Int.reduceBNe,c,q,r,t])|intro _)
  all_goals subst hS
  all_goals (try (cases T))
  all_goals (refine Af ?_;simp only[Bw,if_true,if_false, *,bq,reduceEqDiff];done)
set_option maxHeartbeats 4000000 in
theorem Awd(names:List Aa)(ins:List Az)(i:Nat)(a b:Int)(s:Aa)(k:ins[i]?=some ⟨12,a,b,s⟩)(p:names.length<=2^30)(l:ins.length<=2^30)(m:∀x∈ins,x.s.length<=2^30) :
  Al π W0 57 [AJ names ins,.i .i64 i] [] (.b (AI names.length ins i ⟨12,a,b,s⟩)) []:=by
 have h:i<ins.length:=(Afk.1 k).1;have e:(ins.map Az.enc)[i]?=some (.agg [.i .i64 12,.i .i64 a,.i .i64 b,.s s]):=by rw[AgQ,k];rfl
 have c:decide ((i:Int)<0)=false:=by simp
 have d:decide ((i:Int)>=(ins.length:Int))=false:=by simp;omega
 have o:s.length<=2^30:=m _ (AfA k);have f:=Un W0;have g:=Qq W0 names ins i a l;generalize hS:AI names.length ins i ⟨12,a,b,s⟩=S;simp only[AI,Int.reduceBEq,Int.reduceBNe,bq,if_true,if_false,Int.reduceBEq,reduceCtorEq,AuK,Ayr] at hS;generalize Li ins i a=T at *;unfold AJ at *;rw[show(s==([]:Aa))=!(!(s==[])) from(AzS _).symm] at hS;refine Ae (vs:=[.b S]) EE (by simp) (by simp) λn0 j=>?_;clear j;simp only[push_cast,seval,reduceEqDiff,e,c,d,h,AcG,Int.reduceBEq,Int.reduceBNe]
 repeat' (first|(((first|apply Ab|apply Ag|apply Ah)<;>intro _h)<;>simp only[push_cast,seval,reduceEqDiff,_h,e,c,d,h,AcG,Int.reduceBEq,Int.reduceBNe])|((first|refine Ac (by exact f) ?_|refine Ac (by exact g) ?_);simp only[push_cast,seval,reduceEqDiff,e,c,d,h,AcG,Int.reduceBEq,Int.reduceBNe])|intro _)
 all_goals subst hS
 all_goals (refine Af ?_;simp only[Bw,if_true,if_false, *,bq,reduceEqDiff];done)
set_option maxHeartbeats 4000000 in
theorem AuV(names:List Aa)(ins:List Az)(i:Nat)(a b:Int)(s:Aa)(k:ins[i]?=some ⟨13,a,b,s⟩)(p:names.length<=2^30)(o:ins.length<=2^30)(l:∀x∈ins,x.s.length<=2^30) :
  Al π W0 57 [AJ names ins,.i .i64 i] [] (.b (AI names.length ins i ⟨13,a,b,s⟩)) []:=by
 have g:i<ins.length:=(Afk.1 k).1;have e:(ins.map Az.enc)[i]?=some (.agg [.i .i64 13,.i .i64 a,.i .i64 b,.s s]):=by rw[AgQ,k];rfl
 have c:decide ((i:Int)<0)=false:=by simp
 have d:decide ((i:Int)>=(ins.length:Int))=false:=by simp;omega
 have m:s.length<=2^30:=l _ (AfA k);have f:=SR W0;have j:IntKind.i64.wrap ((ins.length:Int)-1)=(ins.length:Int)-1:=wrap64 (by omega) (by omega);generalize hS:AI names.length ins i ⟨13,a,b,s⟩=S;simp only[AI,IM,Int.reduceBEq,Int.reduceBNe,bq,if_true,if_false,Int.reduceBEq,reduceCtorEq,AuK,Ayr] at hS;rw[show(s==([]:Aa))=!(!(s==[])) from(AzS _).symm] at hS;unfold AJ;refine Ae (vs:=[.b S]) EE (by simp) (by simp) λn0 h=>?_;clear h;simp only[push_cast,seval,reduceEqDiff,e,c,d,g,j,AcG,Int.reduceBEq,Int.reduceBNe]
 repeat' (first|(((first|apply Ab|apply Ag|apply Ah)<;>intro _h)<;>simp only[push_cast,seval,reduceEqDiff,_h,e,c,d,g,j,AcG,Int.reduceBEq,Int.reduceBNe])|(refine Ac (by exact f) ?_;simp only[push_cast,seval,reduceEqDiff,e,c,d,g,j,AcG,Int.reduceBEq,Int.reduceBNe])|intro _)
 all_goals subst hS
 all_goals (refine Af ?_;simp only[Bw,if_true,if_false, *,bq,reduceEqDiff];done)
set_option maxHeartbeats 4000000 in
theorem vp0(names:List Aa)(ins:List Az)(i:Nat)(x:Az)(p:ins[i]?=some x)(E:names.length<=2^30)(D:ins.length<=2^30)(r:x.op<1\/x.op>13) :
  Al π W0 57 [AJ names ins,.i .i64 i] [] (.b (AI names.length ins i x)) []:=by
 have g:i<ins.length:=(Afk.1 p).1;have e:(ins.map Az.enc)[i]?=some (.agg [.i .i64 x.op,.i .i64 x.a,.i .i64 x.b,.s x.s]):=by rw[AgQ,p];rfl
 have c:decide ((i:Int)<0)=false:=by simp
 have d:decide ((i:Int)>=(ins.length:Int))=false:=by simp;omega
 have q:∀k:Int,1<=k->k<=13->(x.op==k)=false:=λk B C=>by simp;omega
 have q1:=q 1 (by decide) (by decide);have q2:=q 2 (by decide) (by decide);have q3:=q 3 (by decide) (by decide);have t:=q 4 (by decide) (by decide);have u:=q 5 (by decide) (by decide);have v:=q 6 (by decide) (by decide);have y:=q 7 (by decide) (by decide);have z:=q 8 (by decide) (by decide);have A:=q 9 (by decide) (by decide);have j:=q 10 (by decide) (by decide);have l:=q 11 (by decide) (by decide);have m:=q 12 (by decide) (by decide);have o:=q 13 (by decide) (by decide);have hS:AI names.length ins i x=false:=by simp only[AI,q1,q2,q3,t,u,v,y,z,A,j,l,m,o,bq,if_true,if_false]
 rw[hS];have f:=Ys W0 x.op r;unfold AJ;refine Ae (vs:=[.b false]) EE (by simp) (by simp) λn0 h=>?_;clear h;simp only[push_cast,reduceEqDiff,e,c,d,g,AcG]
 repeat' (first|(((first|apply Ab|apply Ag|apply Ah)<;>intro _h)<;>simp only[push_cast,reduceEqDiff,e,c,d,g,AcG])|(refine Ac (by exact f) ?_;simp only[push_cast,reduceEqDiff,e,c,d,g,AcG])|intro _)
 all_goals (refine Af ?_;simp only[Bw,if_true,if_false, *,bq,reduceEqDiff];done)
theorem bD(names:List Aa)(ins:List Az)(i:Nat)(x:Az)(e:ins[i]?=some x)(d:names.length<=2^30)(c:ins.length<=2^30)(f:∀x∈ins,x.s.length<=2^30) :
  Al π W0 57 [AJ names ins,.i .i64 i] [] (.b (AI names.length ins i x)) []:=by
 by_cases g:x.op<1\/x.op>13
 .exact vp0 W0 names ins i x e d c g
 .obtain⟨op,a,b,s⟩:=x;simp only at g;have:op=1\/op=2\/op=3\/op=4\/op=5\/op=6\/op=7\/op=8\/op=9\/op=10\/op=11\/op=12\/op=13:=by omega
  rcases this with rfl|rfl|rfl|rfl|rfl|rfl|rfl|rfl|rfl|rfl|rfl|rfl|rfl
  .exact vp1 W0 names ins i a b s e d c f
  .exact vp2 W0 names ins i a b s e d c f
  .exact vp3 W0 names ins i a b s e d c f
  .exact vp4 W0 names ins i a b s e d c f
  .exact vp5 W0 names ins i a b s e d c f
  .exact vp6 W0 names ins i a b s e d c f
  .exact vp7 W0 names ins i a b s e d c f
  .exact vp8 W0 names ins i a b s e d c f
  .exact vp9 W0 names ins i a b s e d c f
  .exact Avq W0 names ins i a b s e d c f
  .exact Avf W0 names ins i a b s e d c f
  .exact Awd W0 names ins i a b s e d c f
  .exact AuV W0 names ins i a b s e d c f
inductive GH (F:Aj):V->List Aa->Prop where
 | nil:GH F .np []
 | cons (id:Id) (n:Aa) (l:List Aa) (up:V) (h:lk F id=some (.box (.agg [.s n,up]))) (hu:GH F up l):GH F (.ref id 0) (n::l)
theorem GH.det{F:Aj}{v:V}{l b:List Aa}(h:GH F v l)(c:GH F v b):l=b:=by
 induction h generalizing b with
 | nil=>cases c;rfl
 | cons id n l j h g e=>
  cases c with
  | cons _ n' i f d a=>rw[h] at d;cases d;rw[e a]
theorem GH.mono{F a:Aj}{v:V}{l:List Aa}(h:GH F v l)(b:∀id e,lk F id=some e->lk a id=some e):GH a v l:=by
 induction h with
 | nil=>exact .nil
 | cons id n l d h f c=>exact .cons id n l d (b _ _ h) c
set_option maxHeartbeats 4000000 in
theorem AbM(F:Aj)(g i:V)(a c:List Aa)(r:GH F g a)(k:GH F i c):Al π W0 130 [g,i] F (.b (a==c)) F:=by
 generalize hS:(a==c)=S;refine Ae (vs:=[.b S]) Alz (by simp) (λ_ h=>h) λn0 t=>?_;clear t;simp only[push_cast,reduceEqDiff];intros;refine Am a.length (Inv:=λm st=>∃g i a c n,GH F g a/\GH F i c/\m=a.length/\(a==c)=S/\st=⟨[(0,g),(1,i)],F,n⟩) ⟨_,Ak.refl,g,i,a,c,_,r,k,rfl,hS,rfl⟩ ?_;clear hS r k g i a c;rintro m _ ⟨g,i,a,c,n,r,k,rfl,d,rfl⟩;cases r with
 | nil=>
  cases k with
  | nil=>
   have e:GU F .np .np=some true:=rfl;have:S=true:=by rw[<-d];rfl
   subst this;simp only[push_cast,reduceEqDiff,e];intros;exact Bn (by simp[get]) (λ_ _ h=>h)
  | cons id n l A h v=>
   have e:GU F .np (.ref id 0)=some false:=rfl;have:S=false:=by rw[<-d];rfl
   subst this;simp only[push_cast,reduceEqDiff,e];intros;exact Bn (by simp[get]) (λ_ _ h=>h)
 | cons id x a A h v=>
  cases k with
  | nil=>
   have e:GU F (.ref id 0) .np=some false:=rfl;have:S=false:=by rw[<-d];rfl
   subst this;simp only[push_cast,reduceEqDiff,e];intros;exact Bn (by simp[get]) (λ_ _ h=>h)
  | cons q y c z j p=>
   by_cases o:id=q
   .subst o;rw[h] at j;cases j;have s:=v.det p;subst s;have e:GU F (.ref id 0) (.ref id 0)=some true:=by simp[GU]
    have:S=true:=by rw[<-d];simp
    subst this;simp only[push_cast,reduceEqDiff,e];intros;exact Bn (by simp[get]) (λ_ _ h=>h)
   .have e:GU F (.ref id 0) (.ref q 0)=some false:=by simp[GU,o,h,j,Nh]
    have u:(x::a==y::c)=((x==y)&&(a==c)):=rfl;rw[u] at d;cases f:(x==y) with
    | false=>rw[f] at d;simp only[bq] at d;subst d;simp only[push_cast,reduceEqDiff,e,h,j,f];intros;exact Bn (by simp[get]) (λ_ _ h=>h)
    | true=>rw[f] at d;simp only[bq] at d;simp only[push_cast,reduceEqDiff,e,h,j,f];intros;exact⟨_,_,A0j _,Ak.refl,A,z,a,c,_,v,p,rfl,d,rfl⟩
def NR:TypeId:=195
def Ba(e0:Nat)(names:List Aa)(ins:List Az)(vs:List V)(p:Ef)(F:Aj):Aj:=
 ((e0,51),.box (.agg [.sl (names.map V.s),.sl (ins.map Az.enc),.arr (e0,45),.arr (e0,47),.arr (e0,49)]))::((e0,49),.arr Cn 1 (p.cl.map V.b))::((e0,47),.arr Cn 1 (p.re.map V.b))::((e0,45),.arr NR 1 vs)::F
def FrN(F:Aj):Prop:=∀id,lk F id≠none->id.2=77
theorem Lx{e0:Nat}{names:List Aa}{ins:List Az}{vs:List V}{p:Ef}{F:Aj}(d:FrN F):∀id e,lk F id=some e->lk (Ba e0 names ins vs p F) id=some e:=by intro id e h;have c:=d id (by rw[h];simp);obtain⟨a,b⟩:=id;simp only at c;subst c;simp only[Ba,lk];simp;exact h
theorem wD{e0:Nat}{names:List Aa}{ins:List Az}{vs a:List V}{p p':Ef}{F:Aj}:∀id,lk (Ba e0 names ins a p' F) id≠none->lk (Ba e0 names ins vs p F) id≠none:=by
 intro id h;simp only[Ba,lk] at h⊢
 repeat' (split at h<;>simp_all)
structure nB (F:Aj) (vs:List V) (p:Ef) (n:Nat):Prop where
 lv:vs.length=n
 l3:p.op.length=n
 l4:p.re.length=n
 l5:p.cl.length=n
 fr:∀j,j<n->GH F (vs.getD j .np) (p.op.getD j [])
theorem nB.mono{F a:Aj}{vs:List V}{p:Ef}{n:Nat}(h:nB F vs p n)(c:∀id e,lk F id=some e->lk a id=some e):nB a vs p n:=⟨h.lv,h.l3,h.l4,h.l5,λj b=>(h.fr j b).mono c⟩
def Wv(vs:List V)(p:Ef)(v:V)(j:Int):List V:=if p.re.getD j.toNat false then vs else vs.set j.toNat v
theorem GI{F:Aj}{vs:List V}{p:Ef}{n:Nat}(h:nB F vs p n){v:V}{o:List Aa}(d:GH F v o)(j:Int)(b:j.toNat<n):nB F (Wv vs p v j) (HM p o j) n:=by
 unfold Wv HM;split
 .exact⟨h.lv,h.l3,h.l4,by simp[h.l5],h.fr⟩
 .refine⟨by simp[h.lv],by simp[h.l3],by simp[h.l4],h.l5,λi c=>?_⟩;simp only;rw[BR _ _ _ _ _ (by rw[h.lv];exact b),BR _ _ _ _ _ (by rw[h.l3];exact b)];by_cases a:j.toNat=i
  .rw[if_pos a,if_pos a];exact d
  .rw[if_neg a,if_neg a];exact h.fr i c
set_option maxHeartbeats 4000000 in
theorem L9(e0:Nat)(names:List Aa)(ins:List Az)(vs:List V)(p:Ef)(F:Aj)(n:Nat)(v:V)(o:List Aa)(j:Int)(M:FrN F)(N:nB F vs p n)(C:GH F v o)(G:0<=j)(O:j.toNat<n) :
  Al π W0 93 [.ref (e0,51) 0,.i .i64 j,v] (Ba e0 names ins vs p F) (.tup []) (Ba e0 names ins (Wv vs p v j) (HM p o j) F):=by
 obtain⟨Y,S,U,X,fr⟩:=N;have x:(0<=j)=True:=eq_true G;have s:j.toNat<vs.length:=by omega
 have t:j.toNat<p.re.length:=by omega
 have u:j.toNat<p.cl.length:=by omega
 have y:=getD_some V.np s;have K:=getD_some false t;have L:=getD_some false u;have q:=fr j.toNat O;have D:=AbM W0 F _ _ _ _ q C;have m:=Lx (e0:=e0) (names:=names) (ins:=ins) (vs:=vs) (p:=p) M;unfold Wv HM;generalize p.re.getD j.toNat false=r at *;generalize p.cl.getD j.toNat false=c at *;generalize vs.getD j.toNat .np=J at *;generalize p.op.getD j.toNat []=R at *;generalize(R==o)=E at *;have z:(p.re.map V.b)[j.toNat]?=some (.b r):=by rw[AgQ,K];rfl
 have A:(p.cl.map V.b)[j.toNat]?=some (.b c):=by rw[AgQ,L];rfl
 have B:∀b,(List.map V.b p.re).set j.toNat (.b b)=List.map V.b (p.re.set j.toNat b):=λb=>by rw[List.map_set]
 have a:∀b,(List.map V.b p.cl).set j.toNat (.b b)=List.map V.b (p.cl.set j.toNat b):=λb=>by rw[List.map_set]
 have k:cells v=[v]:=by cases C<;>rfl
 have l:v.ok=true:=by cases C<;>rfl
 have g:Ng v=false:=by cases C<;>rfl
 have f:cells J=[J]:=by cases q<;>rfl
 have d:Ng J=false:=by cases q<;>rfl
 refine Ae (vs:=[]) AnM (by simp) wD λn0 I=>?_;clear I;cases r with
 | false=>unfold Ba;simp only[push_cast,reduceEqDiff,x,s,t,u,y,z,A,B,a,AcG,Cn,NR,k,l,g,f,d,Azw];intros;exact⟨_,Ak.refl,trivial,λi e h=>by simpa using h⟩
 | true=>
  cases c with
  | true=>unfold Ba;simp only[push_cast,reduceEqDiff,x,s,t,u,y,z,A,B,a,AcG,Cn,NR,k,l,g,f,d,Azw];intros;exact⟨_,Ak.refl,trivial,λi e h=>by simpa using h⟩
  | false=>unfold Ba at *;simp only[Cn,NR] at m;simp only[push_cast,reduceEqDiff,x,s,t,u,y,z,A,B,a,AcG,Cn,NR,k,l,g,f,d,Azw];intros;refine VT D m ?_;simp only[push_cast,reduceEqDiff,x,s,t,u,y,z,A,B,a,AcG,Cn,NR,k,l,g,f,d,Azw];intros;exact⟨_,Ak.refl,trivial,λi e h=>by simpa using h⟩
theorem Tv{σ:Aj}{p:Id×A5}(h:p∈σ):lk σ p.1≠none:=by
 induction σ with
 | nil=>cases h
 | cons q σ b=>
  obtain⟨k,e⟩:=q;simp only[lk];by_cases a:k=p.1
  .rw[if_pos a];simp
  .rw[if_neg a];rcases AmR.1 h with rfl|h
   .exact absurd rfl a
   .exact b h
theorem Ok{σi σo pre post:Aj}{a:Id×A5}(d:∀q∈pre++post,lk σi q.1≠none)(f:lk σi a.1=none):over σi σo (pre++a::post)=σo++[a]:=by
 have b:∀τ:Aj,(∀q∈τ,lk σi q.1≠none)->τ.filter (λp=>(lk σi p.1).isNone)=[]:=λτ h=>by
  rw[AyN];intro q c;cases g:lk σi q.1 with
  | none=>exact absurd g (h q c)
  | some e=>simp
 unfold over;rw[AzG,List.filter_cons,b pre (λq c=>d q (Awy _ c)),b post (λq c=>d q (Azh _ c)),f];rfl
theorem Ur(σ σo:Aj):over σ σo σ=σo:=by
 unfold over;have:σ.filter (λp=>(lk σ p.1).isNone)=[]:=by
  rw[AyN];intro q b;cases a:lk σ q.1 with
  | none=>exact absurd a (Tv b)
  | some e=>simp
 rw[this,AoG]
theorem KN{S τ:Aj}{a:Id×A5}(h:lk S a.1=none):over S τ (a::S)=τ++[a]:=Ok (pre:=[]) (λq b=>Tv b) h
theorem Abw{σi S τ:Aj}{f a:Id×A5}(h:lk σi a.1=none)(c:lk σi f.1≠none)(hS:∀q∈S,lk σi q.1≠none):over σi τ (f::a::S)=τ++[a]:=
 Ok (pre:=[f]) (λq b=>by rcases AmG.1 b with b|b;(· simp at b;subst b;exact c);exact hS q b) h
theorem JG{e0:Nat}{names:List Aa}{ins:List Az}{vs:List V}{p:Ef}{F:Aj}(i:FrN F){a b:Nat}(c:b≠51)(d:b≠49)(f:b≠47)(g:b≠45)(h:b≠77):lk (Ba e0 names ins vs p F) (a,b)=none:=by
 have k:lk F (a,b)=none:=by
  cases j:lk F (a,b) with
  | none=>rfl
  | some e=>exact absurd (i (a,b) (by rw[j];simp)) h
 simp only[Ba,lk,AyI,Ae2 c,Ae2 d,Ae2 f,Ae2 g,and_false];exact k
def X8(e0:Nat)(names:List Aa)(ins:List Az)(p:Ef)(n i:Nat)(x:Az):Nat->Nat->V->Aj->Prop:=λ_ _ v σ'=>match Qm ins i x p with
 | none=>v=.b false
 | some p'=>v=.b true/\∃a c,σ'=Ba e0 names ins a p' c/\nB c a p' n/\FrN c
theorem jD(x:Az)(a:(x.op==2)=false)(b:(x.op==3)=true):Du x []=none:=by unfold Du;rw[a,b];rfl
theorem fZ(x:Az)(t:Aa)(r:List Aa)(a:(x.op==2)=false)(b:(x.op==3)=true):Du x (t::r)=if t==x.s then some r else none:=by unfold Du;rw[a,b];rfl
theorem Adb(ins:List Az)(i:Nat)(x:Az)(a:(x.op==10)=false)(b:(x.op==12)=false)(c:(x.op==13)=false):EI ins i x=[(i:Int)+1]:=by unfold EI;rw[a,b,c];rfl
theorem XZ{e0:Nat}{names:List Aa}{ins:List Az}{vs:List V}{p:Ef}{F:Aj}:lk (Ba e0 names ins vs p F) (e0,51)=some (.box (.agg [.sl (names.map V.s),.sl (ins.map Az.enc),.arr (e0,45),.arr (e0,47),.arr (e0,49)])):=by simp[Ba,lk]
theorem bN{e0:Nat}{names:List Aa}{ins:List Az}{vs:List V}{p:Ef}{F:Aj}:lk (Ba e0 names ins vs p F) (e0,49)=some (.arr Cn 1 (p.cl.map V.b)):=by simp[Ba,lk]
theorem k47{e0:Nat}{names:List Aa}{ins:List Az}{vs:List V}{p:Ef}{F:Aj}:lk (Ba e0 names ins vs p F) (e0,47)=some (.arr Cn 1 (p.re.map V.b)):=by simp[Ba,lk]
theorem bM{e0:Nat}{names:List Aa}{ins:List Az}{vs:List V}{p:Ef}{F:Aj}:lk (Ba e0 names ins vs p F) (e0,45)=some (.arr NR 1 vs):=by simp[Ba,lk]
set_option maxHeartbeats 4000000 in
theorem Aji(e0:Nat)(names:List Aa)(ins:List Az)(vs:List V)(p:Ef)(F:Aj)(i:Nat)(x:Az)(hx:ins[i]?=some x)(hl:ins.length<=2^30)(I:FrN F)(hR:nB F vs p ins.length)
  (ht:∀j∈EI ins i x,0<=j/\j.toNat<ins.length) :
  Ew π W0 58 [.ref (e0,51) 0,.i .i64 i] (Ba e0 names ins vs p F) (X8 e0 names ins p ins.length i x):=by
 have M:i<ins.length:=(Afk.1 hx).1;have U:(ins.map Az.enc)[i]?=some (.agg [.i .i64 x.op,.i .i64 x.a,.i .i64 x.b,.s x.s]):=by rw[AgQ,hx];rfl
 have ew:IntKind.i64.wrap ((i:Int)+1)=(i:Int)+1:=wrap64 (by omega) (by omega);obtain⟨lv,l3,l4,l5,fr⟩:=id hR;have N:i<vs.length:=by omega
 have O:i<p.cl.length:=by omega
 have X:=getD_some V.np N;have g6:=getD_some false O;have t:=fr i M;generalize d:X8 e0 names ins p ins.length i x=RR;unfold X8 Qm at d;generalize p.cl.getD i false=c at *;generalize vs.getD i .np=v at *;generalize p.op.getD i []=o at *;have Y:(p.cl.map V.b)[i]?=some (.b c):=by rw[AgQ,g6];rfl
 have z:cells v=[v]:=by cases t<;>rfl
 have u:Ng v=false:=by cases t<;>rfl
 have aA:v.ok=true:=by cases t<;>rfl
 have A:∀(p:Ef) (vs:List V) (a b:Nat),b=6\/b=8->lk (Ba e0 names ins vs p F) (a,b)=none:=λp vs a b h=>by
  rcases h with rfl|rfl
  .exact JG I (by decide) (by decide) (by decide) (by decide) (by decide)
  .exact JG I (by decide) (by decide) (by decide) (by decide) (by decide)
 refine BK Arq (by simp) λn0 an=>?_;have hn:∀id e,lk F id=some e->id.1<n0:=λid e h=>an id e (Lx I id e h);clear an;cases c with
 | true=>simp only  at d;subst d;simp only[push_cast,seval,XZ,bN,bM,M,U,N,O,X,Y,AcG,Cn,NR,z,u];intros;exact⟨_,Ak.refl,[.b false],[],⟨rfl,trivial⟩,(λ_ _ h=>by cases h),rfl⟩
 | false=>
 simp only[AcJ] at d;cases f:(x.op==13) with
 | true=>
  have G:(x.op==2)=false:=by rw[show x.op=13 by simpa using f];rfl
  have J:(x.op==3)=false:=by rw[show x.op=13 by simpa using f];rfl
  have g:(x.op==10)=false:=by rw[show x.op=13 by simpa using f];rfl
  have k:(x.op==12)=false:=by rw[show x.op=13 by simpa using f];rfl
  have r:EI ins i x=[]:=by unfold EI;rw[g,k,f];rfl
  have E:Du x o=if o.isEmpty then some o else none:=by unfold Du;rw[G,J,f];rfl
  rw[E,r] at d;cases t with
  | nil=>simp only[List.isEmpty_nil,Ayy] at d;subst d;simp only[push_cast,seval,XZ,bN,bM,M,U,N,O,X,Y,AcG,Cn,NR,z,u,f];intros;exact⟨_,Ak.refl,[.b true],Ba e0 names ins vs p F,⟨rfl,trivial⟩,C3 (A _ _ _ _ (.inl rfl)),rfl,vs,F,rfl,hR,I⟩
  | cons id y l up R hu=>simp only[List.isEmpty_cons,AcJ] at d;subst d;simp only[push_cast,seval,XZ,bN,bM,M,U,N,O,X,Y,AcG,Cn,NR,z,u,f];intros;exact⟨_,Ak.refl,[.b false],[],⟨rfl,trivial⟩,(λ_ _ h=>by cases h),rfl⟩
 | false=>
 cases k:(x.op==12) with
 | true=>
  have G:(x.op==2)=false:=by rw[show x.op=12 by simpa using k];rfl
  have J:(x.op==3)=false:=by rw[show x.op=12 by simpa using k];rfl
  have g:(x.op==10)=false:=by rw[show x.op=12 by simpa using k];rfl
  have r:EI ins i x=[x.a]:=by unfold EI;rw[g,k];rfl
  have E:Du x o=some o:=by unfold Du;rw[G,J,f];rfl
  rw[E,r] at d;rw[r] at ht;obtain⟨t0,Z⟩:=ht x.a (by simp);have C:=L9 W0 e0 names ins vs p F ins.length v o x.a I hR t t0 Z;have D:=GI hR t x.a Z;simp only[Awr,Ayy] at d;subst d;simp only[push_cast,seval,XZ,bN,bM,M,U,N,O,X,Y,AcG,Cn,NR,z,u,f,k];intros;refine Bx C (C3 (A _ _ _ _ (.inl rfl))) ?_;rw[KN (A _ _ _ _ (.inl rfl))];simp only[push_cast,seval];intros;exact⟨_,Ak.refl,[.b true],Ba e0 names ins _ _ F,⟨rfl,trivial⟩,(λ_ _ h=>AC h),rfl,_,F,rfl,D,I⟩
 | false=>
 cases g:(x.op==10) with
 | true=>
  have G:(x.op==2)=false:=by rw[show x.op=10 by simpa using g];rfl
  have J:(x.op==3)=false:=by rw[show x.op=10 by simpa using g];rfl
  have r:=lW ins i x g;have E:Du x o=some o:=by unfold Du;rw[G,J,f];rfl
  have ap:=Sj W0 names ins i M hl;rw[E,r] at d;rw[r] at ht;have ax:=Zt (ins.drop (i+1));simp only[List.length_drop] at ax;generalize BG (ins.drop (i+1))=L at *;unfold AJ at ap;simp only[push_cast,seval,XZ,bN,bM,M,U,N,O,X,Y,AcG,Cn,NR,z,u,f,k,g]
  repeat' (first|(((first|apply Ab|apply Ag|apply Ah)<;>intro _h)<;>simp only[push_cast,seval,XZ,bN,bM,M,U,N,O,X,Y,AcG,Cn,NR,z,u,f,k,g])|(refine Ac (by exact ap) ?_;simp only[push_cast,seval,XZ,bN,bM,M,U,N,O,X,Y,AcG,Cn,NR,z,u,f,k,g])|intro _)
  refine Si (Ak.drop1 (A _ _ _ _ (.inl rfl)) (A0h _)) ?_;refine Am L.length (Inv:=λm st=>∃dn B n S p',L=dn++B/\m=B.length/\nB F S p' ins.length/\(B.map (·.a)).foldl (λst j=>HM st o j) p'=(L.map (·.a)).foldl (λst j=>HM st o j) p/\st=⟨[(0,.ref (e0,51) 0),(5,v),(56,.sl (L.map Az.enc)),(57,.i .i64 L.length),(58,.i .i64 dn.length)],Ba e0 names ins S p' F,n⟩) ⟨_,Ak.refl,[],L,_,vs,p,rfl,rfl,hR,rfl,rfl⟩ ?_;rintro m _ ⟨dn,B,n,S,p',hz,rfl,ah,hd,rfl⟩;cases B with
  | nil=>
   have e1:decide ((dn.length:Int)<(L.length:Int))=false:=by rw[hz];simp
   simp only[Ast,Ayy] at hd;simp only[push_cast,seval,e1];intros;subst d;exact⟨_,Ak.refl,[.b true],Ba e0 names ins S p' F,⟨rfl,trivial⟩,(λ_ _ h=>h),rfl,S,F,by rw[hd],by rw[<-hd];exact ah,I⟩
  | cons y B=>
   have aN:=AL hz;have e1:=SZ hz;have e2:=F6 hz;have e3:dn.length<L.length:=by omega
   have e4:=Ai y (dn:=dn) (by omega);obtain⟨t0,Z⟩:=ht y.a (AmO.2 ⟨y,by rw[hz];simp,rfl⟩);have C:=L9 W0 e0 names ins S p' F ins.length v o y.a I ah t t0 Z;have D:=GI ah t y.a Z;rw[Ajf,Awr] at hd;simp only[push_cast,seval,e1,e2,e3,e4];intros;refine Bx C (C3 (A _ _ _ _ (.inr rfl))) ?_;rw[KN (A _ _ _ _ (.inr rfl))];simp only[push_cast,seval,e4];intros;exact⟨_,_,A0j _,Ak.pre (A0h _),dn++[y],B,_,_,_,by rw[hz];simp,rfl,D,hd,rfl⟩
 | false=>
 have r:=Adb ins i x g k f;rw[r] at ht;obtain⟨t0,Z⟩:=ht ((i:Int)+1) (by simp);cases G:(x.op==2) with
 | true=>
  have J:(x.op==3)=false:=by rw[show x.op=2 by simpa using G];rfl
  have E:Du x o=some (x.s::o):=by unfold Du;rw[G];rfl
  rw[E,r] at d;simp only[Awr,Ayy] at d;simp only[push_cast,seval,XZ,bN,bM,M,U,N,O,X,Y,AcG,Cn,NR,z,u,f,k,g,G,ew,aA];intros;rename_i k1 k2 k3 k4 k5 k6 k7 k8 k9;have aM:n0<=n0+1+k1+1+k2+1+k3+1+k4+1+k5+1+k6+1+k7+1+k8+1+k9:=by omega
  generalize n0+1+k1+1+k2+1+k3+1+k4+1+k5+1+k6+1+k7+1+k8+1+k9=K at *;obtain⟨F',ad⟩:∃F':Aj,F'=((K,77),.box (.agg [.s x.s,v]))::F:=⟨_,rfl⟩
  have aw:lk F (K,77)=none:=by
   cases ay:lk F (K,77) with
   | none=>rfl
   | some e=>have:=hn _ _ ay;simp only at this;omega
  have af:∀id e,lk F id=some e->lk F' id=some e:=by rw[ad];exact C3 aw
  have ag:FrN F':=by
   intro id h;rw[ad] at h;simp only[lk] at h;by_cases R:(K,77)=id
   .rw[<-R]
   .rw[if_neg R] at h;exact I id h
  have al:GH F' (.ref (K,77) 0) (x.s::o):=.cons _ _ _ v (by rw[ad];simp[lk]) (t.mono af);have ab:∀id,lk (Ba e0 names ins vs p F') id=if(K,77)=id then some (.box (.agg [.s x.s,v])) else lk (Ba e0 names ins vs p F) id:=by
   intro id;rw[ad];simp only[Ba,lk];by_cases R:(K,77)=id
   .rw[<-R];simp
   .rw[if_neg R,if_neg R]
  have C:=L9 W0 e0 names ins vs p F' ins.length (.ref (K,77) 0) (x.s::o) ((i:Int)+1) ag (hR.mono af) al t0 Z;have D:=GI (hR.mono af) al ((i:Int)+1) Z;have ao:∀a:Nat,lk (Ba e0 names ins vs p F') (a,6)=none:=λa=>JG ag (by decide) (by decide) (by decide) (by decide) (by decide);refine Bx C (λid e h=>?_) ?_
  .rw[ab] at h;simp only[lk];by_cases R:(K,77)=id
   .rw[if_pos R] at h⊢;exact h
   .rw[if_neg R] at h⊢;exact C3 (A _ _ _ _ (.inl rfl)) id e h
  rw[Abw (ao _) (by rw[ab];simp) (λq hq=>by rw[ab];split;(· simp);exact Tv hq)];simp only[push_cast,seval];intros;subst d;exact⟨_,Ak.refl,[.b true],Ba e0 names ins _ _ F',⟨rfl,trivial⟩,(λ_ _ h=>AC h),rfl,_,F',rfl,D,ag⟩
 | false=>
 cases J:(x.op==3) with
 | true=>
  cases t with
  | nil=>rw[jD x G J,r] at d;simp only at d;subst d;simp only[push_cast,seval,XZ,bN,bM,M,U,N,O,X,Y,AcG,Cn,NR,z,u,f,k,g,G,J];intros;exact⟨_,Ak.refl,[.b false],[],⟨rfl,trivial⟩,(λ_ _ h=>by cases h),rfl⟩
  | cons id y l up R hu=>
   have av:=I id (by rw[R];simp);have ae:∀a:Nat,((a,6)=id)=False:=λa=>eq_false (by rintro rfl;simp at av);have am:lk (Ba e0 names ins vs p F) id=some (.box (.agg [.s y,up])):=Lx I _ _ R;rw[fZ x y l G J,r] at d;cases hy:(y==x.s) with
   | false=>rw[hy] at d;simp only[AcJ] at d;subst d;simp only[push_cast,seval,XZ,bN,bM,M,U,N,O,X,Y,AcG,Cn,NR,z,u,f,k,g,G,J,ae,am,hy];intros;exact⟨_,Ak.refl,[.b false],[],⟨rfl,trivial⟩,(λ_ _ h=>by cases h),rfl⟩
   | true=>rw[hy] at d;simp only[Awr,Ayy] at d;subst d;have C:=L9 W0 e0 names ins vs p F ins.length up l ((i:Int)+1) I hR hu t0 Z;have D:=GI hR hu ((i:Int)+1) Z;simp only[push_cast,seval,XZ,bN,bM,M,U,N,O,X,Y,AcG,Cn,NR,z,u,f,k,g,G,J,ae,am,hy,ew];intros;refine Bx C (C3 (A _ _ _ _ (.inl rfl))) ?_;rw[KN (A _ _ _ _ (.inl rfl))];simp only[push_cast,seval];intros;exact⟨_,Ak.refl,[.b true],Ba e0 names ins _ _ F,⟨rfl,trivial⟩,(λ_ _ h=>AC h),rfl,_,F,rfl,D,I⟩
 | false=>
  have E:Du x o=some o:=by unfold Du;rw[G,J,f];rfl
  rw[E,r] at d;have C:=L9 W0 e0 names ins vs p F ins.length v o ((i:Int)+1) I hR t t0 Z;have D:=GI hR t ((i:Int)+1) Z;simp only[Awr,Ayy] at d;subst d;simp only[push_cast,seval,XZ,bN,bM,M,U,N,O,X,Y,AcG,Cn,NR,z,u,f,k,g,G,J,ew];intros;refine Bx C (C3 (A _ _ _ _ (.inl rfl))) ?_;rw[KN (A _ _ _ _ (.inl rfl))];simp only[push_cast,seval];intros;exact⟨_,Ak.refl,[.b true],Ba e0 names ins _ _ F,⟨rfl,trivial⟩,(λ_ _ h=>AC h),rfl,_,F,rfl,D,I⟩
theorem DH{W0:World}{nt n:Nat}{env:A9}{σ:Aj}{v w:V}(c:get env 3=v)(d:get env 4=w):KE W0 nt [.t 2,.t 3,.t 4] [.any,v,w] [] .ret ⟨env,σ,n⟩:=by
 refine⟨⟨[(2,.any),(3,v),(4,w)],[],n⟩,Ak.weak (λ_=>none) (λ_ _ h=>by cases h) (λt=>?_) (λi e h=>by cases h) (A0h _),⟨by simp[Dn,get],by simp[Dn,get],by simp[Dn,get],trivial⟩,λ_ _ h=>by cases h⟩;by_cases h:2=t
 .subst h;simp only[get];exact .any _
 .by_cases b:3=t
  .subst b;rw[c];simp only[get];simp;exact .refl _
  .by_cases a:4=t
   .subst a;rw[d];simp only[get];simp;exact .refl _
   .simp only[get,if_neg h,if_neg b,if_neg a];exact .any _
theorem Avk(n:Nat):nB [] (List.replicate n .np) (Ce n) n:=by
 refine⟨by simp,by simp[Ce],by simp[Ce],by simp[Ce],λj c=>?_⟩;have a:(List.replicate n V.np).getD j .np=.np:=by rw[Atj,Azu];split<;>rfl
 have b:(Ce n).op.getD j []=[]:=by simp only[Ce];rw[Atj,Azu];split<;>rfl
 rw[a,b];exact .nil
def eG(ins:List Az):Int×Int:=
 if ins.isEmpty||!(Eg ins (ins.length-1)==13) then(ins.length,4)
 else if Gy ins 0 ins (Ce ins.length)>=0 then(Gy ins 0 ins (Ce ins.length),7)
 else(0,0)
theorem a6(names:List Aa)(ins:List Az):Cc names ins=if !EJ names then(0,1) else if decide ((ins.length:Int)>10000) then(0,6) else if Ci names.length ins 0 ins>=0 then(Ci names.length ins 0 ins,4) else eG ins:=rfl
set_option maxHeartbeats 4000000 in
theorem gC(names:List Aa)(ins:List Az)(hn:names.length<=2^30)(hl:ins.length<=2^30)(ah:∀s∈names,s.length<AG)(hs:∀x∈ins,x.s.length<=2^30) :
  Al π W0 34 [AJ names ins] [] (.tup [.any,.i .i64 (Cc names ins).1,.i .i64 (Cc names ins).2]) []:=by
 have k:=kP W0 names (by omega) ah;rw[a6];unfold AJ;refine Ae (vs:=[.any,.i .i64 _,.i .i64 _]) Aq4 (by simp) (by simp) λn0 af=>?_;clear af;cases hA:EJ names with
 | false=>
  rw[hA] at k;simp only[bq,if_true,if_false];simp only[push_cast,seval]
  repeat' (first|(((first|apply Ab|apply Ag|apply Ah)<;>intro _h)<;>simp only[push_cast,seval])|(refine Ac (by exact k) ?_;simp only[push_cast,seval])|intro _)
  all_goals exact DH rfl rfl
 | true=>
 rw[hA] at k;simp only[bq,if_true,if_false];cases f:decide ((ins.length:Int)>10000) with
 | true=>
  simp only[bq,if_true,if_false];simp only[push_cast,seval,f,AcG]
  repeat' (first|(((first|apply Ab|apply Ag|apply Ah)<;>intro _h)<;>simp only[push_cast,seval,f,AcG])|(refine Ac (by exact k) ?_;simp only[push_cast,seval,f,AcG])|intro _)
  all_goals exact DH rfl rfl
 | false=>
 simp only[bq,if_true,if_false];generalize hS:(if Ci names.length ins 0 ins>=0 then(Ci names.length ins 0 ins,(4:Int)) else eG ins)=S;simp only[push_cast,seval,f,AcG]
 repeat' (first|(((first|apply Ab|apply Ag|apply Ah)<;>intro _h)<;>simp only[push_cast,seval,f,AcG])|(refine Ac (by exact k) ?_;simp only[push_cast,seval,f,AcG])|intro _)
 generalize hG:Ci names.length ins 0 ins=G at hS;refine Am ins.length (Inv:=λm st=>∃dn c n X,ins=dn++c/\m=c.length/\Ci names.length ins dn.length c=G/\st=⟨[(1,.ref (X,1) 0),(5,.i .i64 ins.length),(20,.i .i64 ins.length),(21,.i .i64 dn.length)],[((X,1),.box (.agg [.sl (names.map V.s),.sl (ins.map Az.enc)]))],n⟩) ⟨_,Ak.refl,[],ins,_,_,rfl,rfl,hG,rfl⟩ ?_;rintro m _ ⟨dn,c,n,X,g,rfl,d,rfl⟩;cases c with
 | cons x c=>
  have L:=AL g;have C:ins[dn.length]?=some x:=by rw[g];simp
  have J:=F6 g;have q:=Ai x (dn:=dn) (by omega);have B:=bD W0 names ins dn.length x C hn hl hs;rw[Ci] at d;unfold AJ at B;generalize AI names.length ins dn.length x=A1 at *;cases A1 with
  | false=>
   simp only[AcJ,if_false] at d;have o:G>=0:=by omega
   rw[if_pos o] at hS;subst hS;rw[<-d];simp only[push_cast,seval,J,q,AcG]
   repeat' (first|(((first|apply Ab|apply Ag|apply Ah)<;>intro _h)<;>simp only[push_cast,seval])|(refine Ac (by exact B) ?_;simp only[push_cast,seval])|intro _)
   all_goals exact DH rfl rfl
  | true=>
   simp only[if_true] at d;simp only[push_cast,seval,J,q,AcG]
   repeat' (first|(((first|apply Ab|apply Ag|apply Ah)<;>intro _h)<;>simp only[push_cast,seval,q])|(refine Ac (by exact B) ?_;simp only[push_cast,seval,q])|intro _)
   exact⟨_,_,A0j _,Ak.refl,dn++[x],c,_,_,by rw[g];simp,rfl,by rw[AgM];exact d,rfl⟩
 | nil=>
  rw[Ci] at d;have o:¬G>=0:=by omega
  rw[if_neg o] at hS;have U:¬Ci names.length ins 0 ins>=0:=by rw[hG];exact o
  clear hG;rw[AoG] at g;have I:decide ((dn.length:Int)<(ins.length:Int))=false:=by rw[g];simp
  unfold eG at hS;rcases AyT ins.length with t|t
  .have z:ins=[]:=by cases ins with
    | nil=>rfl
    | cons y r=>simp at t
   rw[z] at hS;simp only[List.isEmpty_nil,Az0,if_true] at hS;subst hS;have Y:((ins.length:Int)==0)=true:=by rw[t];rfl
   simp only[push_cast,seval,I,Y,AcG];intros;refine DH ?_ rfl;simp[get,t]
  .have z:ins.isEmpty=false:=by cases ins with
    | nil=>simp at t
    | cons y r=>rfl
   have Y:((ins.length:Int)==0)=false:=by rw[beq_eq_false_iff_ne];omega
   have hw:IntKind.i64.wrap ((ins.length:Int)-1)=((ins.length-1:Nat):Int):=by rw[wrap64 (by omega) (by omega)];omega
   have A:ins.length-1<ins.length:=by omega
   obtain⟨y,hy⟩:∃y,ins[ins.length-1]?=some y:=⟨_,Ae8 A⟩;have ey:(ins.map Az.enc)[ins.length-1]?=some (.agg [.i .i64 y.op,.i .i64 y.a,.i .i64 y.b,.s y.s]):=by rw[AgQ,hy];rfl
   have eo:Eg ins (ins.length-1)=y.op:=by unfold Eg;rw[hy]
   have D:(y.op !=13)=!(y.op==13):=rfl;rw[z,eo,Ayh] at hS;cases u:(y.op==13) with
   | false=>rw[u] at hS D;simp only[Ave,if_true] at hS D;subst hS;simp only[push_cast,seval,I,Y,hw,ey,A,D,AcG];intros;exact DH rfl rfl
   | true=>
    rw[u] at hS D;simp only[AuF,AcJ,if_false] at hS D;have ht:Xr ins:=fM _ ins U (by rw[eo];simpa using u);have ag:=λi x C=>dB (nn:=names.length) ins i x ht C (So U);have R:((ins.length:Int)<=(ins.length:Int)/\(ins.length:Int)<=(AH:Int))=True:=eq_true ⟨Int.le_refl _,by unfold AH;omega⟩;have N:List.replicate ins.length (V.b false)=List.map V.b (List.replicate ins.length false):=by simp
    have l:(List.map V.b (List.replicate ins.length false)).set 0 (V.b true)=List.map V.b (Ce ins.length).re:=by simp[Ce,List.map_set]
    have M:List.map V.b (List.replicate ins.length false)=List.map V.b (Ce ins.length).cl:=by simp[Ce]
    have O:(List.map V.b (List.replicate ins.length false))[0]?=some (.b false):=by rw[AgQ,Azu,if_pos t];rfl
    generalize E:Gy ins 0 ins (Ce ins.length)=K at hS;simp only[push_cast,seval,I,Y,hw,ey,A,D,AcG,R,N,t,Azz,O,l];intros;rw[M];rename_i q1 q2 q3 q4 q5;generalize n+1+q1+1+q2=e0 at *;have ae:Ba e0 names ins (List.replicate ins.length .np) (Ce ins.length) []=[((e0,51),.box (.agg [.sl (names.map V.s),.sl (ins.map Az.enc),.arr (e0,45),.arr (e0,47),.arr (e0,49)])),((e0,49),.arr Cn 1 ((Ce ins.length).cl.map V.b)),((e0,47),.arr Cn 1 ((Ce ins.length).re.map V.b)),((e0,45),.arr NR 1 (List.replicate ins.length .np))]:=rfl;refine Si (Ak.pre (σ:=Ba e0 names ins (List.replicate ins.length .np) (Ce ins.length) []) (τ:=[((X,1),.box (.agg [.sl (names.map V.s),.sl (ins.map Az.enc)]))]) (A0h _)) ?_;clear ae;refine Am ins.length (Inv:=λm st=>∃dn c n vs p F,ins=dn++c/\m=c.length/\Gy ins dn.length c p=K/\nB F vs p ins.length/\FrN F/\st=⟨[(7,.ref (e0,51) 0),(57,.i .i64 ins.length),(58,.i .i64 dn.length)],Ba e0 names ins vs p F,n⟩) ⟨_,Ak.refl,[],ins,_,_,_,[],rfl,rfl,E,Avk _,λid h=>absurd rfl h,rfl⟩ ?_;clear E N l M O R;rintro m _ ⟨dn,c,n,vs,p,F,g,rfl,d,hR,hF,rfl⟩;cases c with
    | nil=>
     rw[Gy] at d;have E:¬K>=0:=by omega
     rw[if_neg E] at hS;subst hS;have I:decide ((dn.length:Int)<(ins.length:Int))=false:=by rw[g];simp
     simp only[push_cast,seval,I];intros;exact DH rfl rfl
    | cons x c=>
     have L:=AL g;have C:ins[dn.length]?=some x:=by rw[g];simp
     have J:=F6 g;have q:=Ai x (dn:=dn) (by omega);have ai:=Aji W0 e0 names ins vs p F dn.length x C hl hF hR (λj hj=>⟨ag _ x C j hj,ht _ x C j hj⟩);have Z:dn.length<p.re.length:=by rw[hR.l4];exact L
     have g5:=getD_some false Z;rw[Gy] at d;generalize p.re.getD dn.length false=r at *;have g7:(p.re.map V.b)[dn.length]?=some (.b r):=by rw[AgQ,g5];rfl
     cases r with
     | false=>simp only[AcJ,if_false] at d;simp only[push_cast,seval,J,q,XZ,k47,Z,g7,AcG,Cn];intros;exact⟨_,_,A0j _,Ak.refl,dn++[x],c,_,vs,p,F,by rw[g];simp,rfl,by rw[AgM];exact d,hR,hF,rfl⟩
     | true=>
      simp only[if_true] at d;simp only[push_cast,seval,J,q,XZ,k47,Z,g7,AcG,Cn];intros;refine Bd ai (λ_ _ h=>h) (λn2 v σo az e=>?_);rw[Ur];unfold X8 at e;cases l:Qm ins dn.length x p with
      | none=>
       rw[l] at e d;simp only at e d;subst e;have E:K>=0:=by omega
       rw[if_pos E] at hS;subst hS;simp only[push_cast,seval];intros;exact DH (by rw[<-d];rfl) rfl
      | some p'=>rw[l] at e d;simp only at e d;obtain⟨rfl,aj,F',rfl,ad,aa⟩:=e;simp only[push_cast,seval,q];intros;exact⟨_,_,A0j _,Ak.refl,dn++[x],c,_,aj,p',F',by rw[g];simp,rfl,by rw[AgM];exact d,ad,aa,rfl⟩
theorem LL(names:List Aa)(ins:List Az)(e:names.length<=2^30)(d:ins.length<=2^30)(b:∀s∈names,s.length<AG)(f:∀x∈ins,x.s.length<=2^30) :
  Al π W0 17 [AJ names ins] [] (.tup [.i .i64 (Cc names ins).1,.i .i64 (Cc names ins).2]) []:=by
 have c:=gC W0 names ins e d b f;unfold AJ at *;refine Ae (vs:=[.i .i64 _,.i .i64 _]) AsK (by simp) (by simp) λn0 a=>?_;clear a;simp only[push_cast,reduceEqDiff]
 repeat' (first|(((first|apply Ab|apply Ag|apply Ah)<;>intro _h)<;>simp only[push_cast,reduceEqDiff])|(refine Ac (by exact c) ?_;simp only[push_cast,reduceEqDiff])|intro _)
 all_goals (refine Ad ?_;simp[push_cast])

theorem YW{names:List Aa}{ins:List Az}(h:((Cc names ins).2==0)=true):∀k y,ins[k]?=some y->AI names.length ins k y=true:=by
 refine So (nn:=names.length) λhp=>?_;unfold Cc at h;rw[if_pos hp] at h;split at h
 .simp at h
 .split at h<;>simp at h
theorem Hz{nn:Nat}{ins:List Az}{i:Nat}{x:Az}(h:AI nn ins i x=true)(c:H8 x=true):0<=x.a/\x.a.toNat<nn:=by
 have d:IM nn x.a=true:=by
  obtain⟨op,a,b,s⟩:=x;unfold H8 at c;simp only[A0g,decide_eq_true_eq] at c;have:op=5\/op=6\/op=7\/op=8\/op=9\/op=10:=by omega
  unfold AI at h;rcases this with rfl|rfl|rfl|rfl|rfl|rfl<;>(simp only[Int.reduceBEq,bq,if_true,if_false,Int.reduceBEq] at h;rw[A0g] at h;exact h.1)
 unfold IM at d;simp only[A0g,AsJ,decide_eq_false_iff_not] at d;omega
theorem t7{names:List Aa}{a:Int}(h:a.toNat<names.length):(names.map V.s)[a.toNat]?=some (.s (BM names a)):=by rw[AgQ,getD_some [] h];rfl
theorem Zl(names:List Aa)(l:List Az):(Es names l).length<=l.length:=by
 induction l with
 | nil=>simp[Es]
 | cons x r a=>rw[Es];split<;>simp<;>omega
theorem Am6(x:Az):Al π W0 49 [x.enc] [] (.tup [.i .i64 (Ff x),.b (H8 x)]) []:=by
 generalize hS:(Ff x,H8 x)=S;have e:Ff x=S.1:=by rw[<-hS]
 have f:H8 x=S.2:=by rw[<-hS]
 rw[e,f,Az.enc_eq];clear e f;by_cases r:5<=x.op/\x.op<=10
 .have:x.op=5\/x.op=6\/x.op=7\/x.op=8\/x.op=9\/x.op=10:=by omega
  have g:H8 x=true:=by unfold H8;simp;omega
  rw[g] at hS;unfold Ff at hS;obtain⟨op,a,b,s⟩:=x;simp only at this hS⊢;rcases this with rfl|rfl|rfl|rfl|rfl|rfl
  all_goals simp only[Int.reduceBEq,bq,if_false,Int.reduceBEq] at hS
  all_goals (refine Ae (vs:=[.i .i64 S.1,.b S.2]) Aem (by simp) (by simp) λn0 c=>?_;clear c)
  all_goals simp only[push_cast,reduceEqDiff,Int.reduceBEq]
  all_goals (repeat' (first|((first|apply Ab|apply Ag|apply Ah)<;>intro _h<;>simp only[push_cast,reduceEqDiff])|intro _))
  all_goals (try simp only[*,bq,if_false,Int.reduceBEq] at hS)
  all_goals (subst hS;refine Ad ?_;simp[push_cast])
 .have g:H8 x=false:=by
   unfold H8;simp only[Bool.and_eq_false_iff,decide_eq_false_iff_not];omega
  have q:∀k:Int,5<=k->k<=10->(x.op==k)=false:=λk e f=>by rw[beq_eq_false_iff_ne];omega
  have o:=q 5 (by decide) (by decide);have h:=q 6 (by decide) (by decide);have j:=q 7 (by decide) (by decide);have l:=q 8 (by decide) (by decide);have m:=q 9 (by decide) (by decide);have d:=q 10 (by decide) (by decide);have p:Ff x=0:=by unfold Ff;simp only[h,j,l,m,d,bq,if_false,Int.reduceBEq]
  rw[g,p] at hS;subst hS;refine Ae (vs:=[.i .i64 0,.b false]) Aem (by simp) (by simp) λn0 c=>?_;clear c;simp only[push_cast,reduceEqDiff,o,h,j,l,m,d]
  repeat' (first|(((first|apply Ab|apply Ag|apply Ah)<;>intro _h)<;>simp only[push_cast,reduceEqDiff,o,h,j,l,m,d])|intro _)
  all_goals (refine Ad ?_;simp[push_cast])
theorem Sy{W0:World}{nt n:Nat}{env:A9}{σ:Aj}{id:Id}{e sz:Nat}{es:List V}{v:V}(j:get env 2=.arr id)(l:get env 3=v)(o:lk σ id=some (.arr e sz es))(d:∀y∈es,y.ok=true):KE W0 nt [.t 2,.t 3] [.sl es,v] [] .ret ⟨env,σ,n⟩:=by
 refine⟨⟨[(2,.sl es),(3,v)],[],n⟩,Ak.weak (λi=>if i=id then some es else none) (λi es' h=>?_) (λt=>?_) (λi p h=>by cases h) (A0h _),⟨by simp[Dn,get],by simp[Dn,get],trivial⟩,λ_ _ h=>by cases h⟩
 .split at h
  .rename_i m;subst m;cases h;exact⟨⟨e,sz,o⟩,rfl⟩
  .cases h
 .by_cases h:2=t
  .subst h;rw[j];simp only[get];refine .arr id es es (by simp) rfl (λk c g b a=>?_) (λk c g b a=>?_)
   .rw[b] at a;cases a;exact .refl _
   .rw[b] at a;cases a;have:=d c (AfA b);exact⟨rfl,this,this⟩
  .by_cases f:3=t
   .subst f;rw[l];simp only[get];simp;exact .refl _
   .simp only[get,if_neg h,if_neg f];exact .any _
theorem TM{names:List Aa}{B:Nat}(h:∀s∈names,s.length<=B)(a:Int):(BM names a).length<=B:=by
 unfold BM;rw[Atj];cases b:names[a.toNat]? with
 | none=>simp
 | some s=>exact h s (AfA b)
theorem aY{names:List Aa}:∀{l:List Az} {u:Aa×Int},u∈Es names l->∃x∈l,u.1=BM names x.a:=by
 intro l
 induction l with
 | nil=>intro u h;cases h
 | cons y r d=>
  intro u h;rw[Es] at h;split at h
  .rcases AmR.1 h with rfl|h
   .exact⟨y,by simp,rfl⟩
   .obtain⟨x,c,b⟩:=d h;exact⟨x,by simp[c],b⟩
  .obtain⟨x,c,b⟩:=d h;exact⟨x,by simp[c],b⟩
def SC(T:Dq×Bool):Dq×Int:=if T.2 then([],11) else(JQ T.1,0)
theorem Z4(names:List Aa)(ins:List Az):Lk names ins=if !((Cc names ins).2==0) then([],1) else SC (U2 names ins):=rfl
set_option maxHeartbeats 4000000 in
theorem mE(names:List Aa)(ins:List Az)(hn:names.length<=2^30)(hl:ins.length<=2^27)(ac:∀s∈names,s.length<=2^38)(hs:∀x∈ins,x.s.length<=2^30) :
  Al π W0 30 [AJ names ins] [] (.tup [.sl ((Lk names ins).1.map MW),.i .i64 (Lk names ins).2]) []:=by
 have R:=LL W0 names ins hn (by omega) (λs h=>by have:=ac s h;unfold AG;omega) hs;rw[Z4];generalize ai:Cc names ins=CK at *;obtain⟨c1,c2⟩:=CK;simp only at R⊢;cases K:(c2==0) with
 | false=>
  have D:(c2 !=0)=true:=by simp[bne,K]
  unfold AJ at *;simp only[bq,if_true];refine Ae (vs:=[.sl _,.i .i64 _]) Ad2 (by simp) (by simp) λn0 O=>?_;clear O;simp only[push_cast,seval]
  repeat' (first|(((first|apply Ab|apply Ag|apply Ah)<;>intro _h)<;>simp only[push_cast,seval,D])|(refine Ac (by exact R) ?_;simp only[push_cast,seval,D])|intro _)
  all_goals exact LY rfl rfl
 | true=>
 have D:(c2 !=0)=false:=by simp[bne,K]
 have al:=YW (names:=names) (ins:=ins) (by rw[ai];exact K);unfold AJ at *;simp only[bq,if_true];obtain⟨k1,k2,k3⟩:=Z6 (Es names ins) ([],false) (by simp);have hT:(Es names ins).foldl Ee ([],false)=U2 names ins:=rfl;rw[hT] at k1 k2 k3;have aM:=Zl names ins;have hk:∀e∈(U2 names ins).1,e.1.length<=2^40:=λe he=>by
  rcases k3 e.1 (AmO.2 ⟨e,he,rfl⟩) with h|⟨u,hu,an⟩
  .simp at h
  .obtain⟨x,_,hx⟩:=aY hu;have:=TM ac x.a;rw[<-an,hx];omega
 simp only[AmS,AwQ] at k2;clear k3;generalize U2 names ins=T at *;generalize hS:SC T=S;refine Ae (vs:=[.sl (S.1.map MW),.i .i64 S.2]) Ad2 (by simp) (by simp) λn0 O=>?_;clear O;simp only[push_cast,seval]
 repeat' (first|(((first|apply Ab|apply Ag|apply Ah)<;>intro _h)<;>simp only[push_cast,seval,D])|(refine Ac (by exact R) ?_;simp only[push_cast,seval,D])|intro _)
 refine Am ins.length (Inv:=λm st=>∃dn c n d r t w,ins=dn++c/\m=c.length/\(Es names c).foldl Ee (t,w)=T/\(d<n/\r<n)/\st=⟨[(1,.ref (r,1) 0),(6,.arr (d,27)),(7,.b w),(29,.sl (ins.map Az.enc)),(30,.i .i64 ins.length),(31,.i .i64 dn.length)],[((d,27),.map (Di t)),((r,1),.box (.agg [.sl (names.map V.s),.sl (ins.map Az.enc)]))],n⟩) ⟨_,Ak.refl,[],ins,_,_,_,[],false,rfl,rfl,hT,?_,rfl⟩ ?_
 .omega
 clear hT;rintro m _ ⟨dn,c,n,d,r,t,w,l,rfl,o,⟨aH,aF⟩,rfl⟩;cases c with
 | cons x c=>
  have f:=AL l;have hx:ins[dn.length]?=some x:=by rw[l];simp
  have am:=al _ x hx;have j:=SZ l;have A:=F6 l;have B:=Ai x (dn:=dn) (by omega);have q:=Am6 W0 x;rw[Az.enc_eq] at q;rw[Es] at o;cases hh:H8 x with
  | false=>
   rw[hh] at o q;simp only[AcJ] at o;simp only[push_cast,seval,j,A,B,f,AcG]
   repeat' (first|(((first|apply Ab|apply Ag|apply Ah)<;>intro _h)<;>simp only[push_cast,seval,j,A,B,f,AcG])|(refine Ac (by exact q) ?_;simp only[push_cast,seval,j,A,B,f,AcG])|intro _)
   exact⟨_,_,A0j _,Ak.drop1 (by simp[lk]) (A0h _),dn++[x],c,_,_,_,t,w,by rw[l];simp,rfl,o,⟨by omega,by omega⟩,rfl⟩
  | true=>
   rw[hh] at o q;simp only[if_true,Awr] at o;obtain⟨a0,U⟩:=Hz am hh;have a2:(0<=x.a)=True:=eq_true a0;have a3:=t7 U;rcases I0 (BM names x.a) t 0 with⟨i,v,F,h2,h3⟩|⟨F,h2,h3⟩
   .have Z:=AiE W0 v (Ff x);simp only[AwQ] at h2;have J:Ee (t,w) (BM names x.a,Ff x)=(Ep t (BM names x.a) (GJ v (Ff x)).1,w||!(GJ v (Ff x)).2):=by unfold Ee;simp only[F]
    rw[J] at o;generalize GJ v (Ff x)=C at *;obtain⟨cm,Y⟩:=C;simp only at Z o;cases w<;>cases Y
    all_goals simp only[bq,if_true,AuF,Ave,Ayr,Az0] at o
    all_goals simp only[push_cast,seval,j,A,B,f,AcG,a2,U,a3]
    all_goals (repeat' (first|((first|refine Ac (by exact q) ?_|refine Ac (by exact Z) ?_);simp only[push_cast,seval,j,A,B,f,AcG,a2,U,a3,h2,h3])|intro _))
    all_goals exact⟨_,_,A0j _,Ak.sub (by simp) (λp hp=>by simp at hp⊢;rcases hp with h|h<;>simp[h]) (A0h _),dn++[x],c,_,_,_,_,_,by rw[l];simp,rfl,o,⟨by omega,by omega⟩,rfl⟩
   .have J:Ee (t,w) (BM names x.a,Ff x)=(Ep t (BM names x.a) (Ff x),w):=by unfold Ee;simp only[F]
    rw[J] at o;simp only[push_cast,seval,j,A,B,f,AcG,a2,U,a3]
    repeat' (first|(((first|apply Ab|apply Ag|apply Ah)<;>intro _h)<;>simp only[push_cast,seval,j,A,B,f,AcG,a2,U,a3,h2,h3])|(refine Ac (by exact q) ?_;simp only[push_cast,seval,j,A,B,f,AcG,a2,U,a3,h2,h3])|intro _)
    exact⟨_,_,A0j _,Ak.sub (by simp) (λp hp=>by simp at hp⊢;rcases hp with h|h<;>simp[h]) (A0h _),dn++[x],c,_,_,_,_,_,by rw[l];simp,rfl,o,⟨by omega,by omega⟩,rfl⟩
 | nil=>
  rw[Es,Ayy] at o;subst o;have j:decide ((dn.length:Int)<(ins.length:Int))=false:=by rw[l];simp
  unfold SC at hS;cases w with
  | true=>simp only[if_true] at hS;subst hS;simp only[push_cast,seval,j,AcG];intros;exact LY rfl rfl
  | false=>
   simp only[AcJ] at hS;subst hS;simp only at k1 k2 hk;simp only[push_cast,seval,j,AcG];intros;have aI:∀a b:Nat,((a,27):Id)≠(b,1):=λa b he=>by cases he
   refine Bd (AhE W0 t (d,27)) (λi e h=>by
    simp only[lk] at h⊢;split at h
    .rename_i F;rw[if_pos F];exact h
    .cases h) (λX v σo aG hR=>?_)
   obtain⟨kid,aa,I,rfl,rfl⟩:=hR;have G:kid≠(d,27):=by rintro rfl;simp at aa;omega
   have N:kid≠(r,1):=by rintro rfl;simp at aa;omega
   have f1:(kid=(d,27))=False:=eq_false G;have af:((d,27)=kid)=False:=eq_false (Ae2 G);have f2:(kid=(r,1))=False:=eq_false N;have ag:((r,1)=kid)=False:=eq_false (Ae2 N);have E:over [((d,27),A5.map (Di t))] [(kid,A5.box (.arr (d,27))),((d,27),A5.map (Di t))] [((d,27),A5.map (Di t)),((r,1),A5.box (.agg [.sl (names.map V.s),.sl (ins.map Az.enc)]))]=[(kid,A5.box (.arr (d,27))),((d,27),A5.map (Di t)),((r,1),A5.box (.agg [.sl (names.map V.s),.sl (ins.map Az.enc)]))]:=by simp[over,lk]
   rw[E];clear E;simp only[push_cast,seval];refine KZ (eP W0 t k1 (by omega) hk kid (d,27) G) (λi e h=>?_) ?_
   .exact AC (σ:=[_,_]) (τ:=[_]) h
   have E:over [(kid,A5.box (.arr (d,27))),((d,27),A5.map (Di t))] [(kid,A5.box (.arr (d,27))),((d,27),A5.map (Di t))] [(kid,A5.box (.arr (d,27))),((d,27),A5.map (Di t)),((r,1),A5.box (.agg [.sl (names.map V.s),.sl (ins.map Az.enc)]))]=[(kid,A5.box (.arr (d,27))),((d,27),A5.map (Di t)),((r,1),A5.box (.agg [.sl (names.map V.s),.sl (ins.map Az.enc)]))]:=by simp[over,lk,f1,af,f2,ag]
   rw[E];clear E;simp only[push_cast,seval];intro k4;generalize hL:HC t=L;have aD:L.length<=2^28:=by rw[<-hL,UV];omega
   have hA:JQ t=L.map λn=>(n,(AU t n).getD 0):=by unfold JQ;rw[hL]
   rw[hA];clear hA;obtain⟨g,hg⟩:∃g:Aa->V,g=λn=>MW (n,(AU t n).getD 0):=⟨_,rfl⟩
   have ab:(L.map λn=>(n,(AU t n).getD 0)).map MW=L.map g:=by rw[hg,Azs];rfl
   rw[ab];clear ab;refine Am L.length (Inv:=λm st=>∃dn c n a0 s0,L=dn++c/\m=c.length/\st=⟨[(6,.arr (d,27)),(17,.arr (a0,87)),(74,.arr (s0,74)),(75,.i .i64 L.length),(76,.i .i64 dn.length)],[((a0,87),.arr 86 2 (dn.map g)),((s0,74),A5.arr 9 1 (L.map V.s)),((d,27),A5.map (Di t))],n⟩) ⟨_,((Ak.own (s:=17) (e:=86) (sz:=2) (k:=87) rfl).trans (Ak.envD (λs=>?_) (A0h _))).trans (Ak.sub (σ':=[((X+1+k4,87),.arr 86 2 []),((X,74),A5.arr 9 1 (L.map V.s)),((d,27),A5.map (Di t))]) ?_ ?_ (A0h _)),[],L,_,X+1+k4,X,rfl,rfl,rfl⟩ ?_
   .left;by_cases h5:17=s
    .subst h5;rfl
    .simp[get,h5]
   .have g1:kid≠(X+1+k4,87):=by rintro rfl;simp at I;omega
    have g2:kid≠(X,74):=by rintro rfl;simp at I
    simp[G,N,Ae2 g1,Ae2 g2]
   .intro p hp;simp at hp⊢;rcases hp with h|h|h<;>simp[h]
   rintro m _ ⟨dn,c,n,a0,s0,l,rfl,rfl⟩;cases c with
   | nil=>
    rw[AoG] at l;subst l;have j:decide ((L.length:Int)<(L.length:Int))=false:=by simp
    simp only[push_cast,seval,j];intros;refine Sy (e:=86) (sz:=2) rfl rfl (by simp[lk]) (λy hy=>?_);obtain⟨z,_,rfl⟩:=AmO.1 hy;rw[hg];rfl
   | cons x c=>
    have f:=AL l;have j:=X4 l;have A:=F6 l;have B:=Ai x (dn:=dn) (by omega);have g5:(dn.length+1<=AH)=True:=eq_true (by simp only[AH];omega);rcases I0 x t 0 with⟨i,v,F,h2,h3⟩|⟨F,h2,h3⟩
    .simp only[AwQ] at h2;have M:dn.map g++[.agg [.s x,.i .i64 v]]=(dn++[x]).map g:=by rw[hg];simp[MW,F]
     simp only[push_cast,seval,j,A,B,f,AcG,h2,g5,M];intros;exact⟨_,_,A0j _,Ak.refl,dn++[x],c,_,_,_,by rw[l];simp,rfl,rfl⟩
    .have M:dn.map g++[.agg [.s x,.i .i64 0]]=(dn++[x]).map g:=by rw[hg];simp[MW,F]
     simp only[push_cast,seval,j,A,B,f,AcG,h2,g5,M];intros;exact⟨_,_,A0j _,Ak.refl,dn++[x],c,_,_,_,by rw[l];simp,rfl,rfl⟩
end Go.Ir

namespace Go.Ir
open Go.Proofs Go.RowKit
variable(W0:World)
def zJ:V->Option Az
 | .agg [o,a,b,s]=>(F1 o).bind λo=>(F1 a).bind λa=>(F1 b).bind λb=>(Cx s).bind λs=>some ⟨o,a,b,s⟩
 | _=>none
theorem Xo:GC zJ Az.enc:=by
 intro v p h;unfold zJ at h;split at h
 .obtain⟨o,l,h⟩:=AdK.1 h;obtain⟨a,m,h⟩:=AdK.1 h;obtain⟨b,q,h⟩:=AdK.1 h;obtain⟨s,r,h⟩:=AdK.1 h;cases h;have f:=CY _ _ l;have g:=CY _ _ m;have i:=CY _ _ q;have k:=B0 _ _ r;rw[Az.enc_eq];refine⟨.agg _ _ rfl λj c t e d=>?_,rfl,rfl,rfl⟩
  match j with
  | 0=>simp at e d;subst e d;exact f.1
  | 1=>simp at e d;subst e d;exact g.1
  | 2=>simp at e d;subst e d;exact i.1
  | 3=>simp at e d;subst e d;exact k.1
  | j+4=>simp at e
 .cases h
def lenB(n:Nat):List Aa->Bool
 | []=>true
 | s::r=>bif Nat.ble s.length n then lenB n r else false
def YI(n:Nat):List Az->Bool
 | []=>true
 | x::r=>bif Nat.ble x.s.length n then YI n r else false
theorem WG{n:Nat}:∀{l:List Aa},lenB n l=true->∀s∈l,s.length<=n:=by
 intro l
 induction l with
 | nil=>intro _ s b;cases b
 | cons a l d=>
  intro h s b;rw[lenB] at h;cases c:Nat.ble a.length n with
  | false=>rw[c] at h;cases h
  | true=>
   rw[c] at h;rcases AmR.1 b with rfl|b
   .exact Aym c
   .exact d h s b
theorem Xn{n:Nat}:∀{l:List Az},YI n l=true->∀x∈l,x.s.length<=n:=by
 intro l
 induction l with
 | nil=>intro _ s b;cases b
 | cons a l d=>
  intro h s b;rw[YI] at h;cases c:Nat.ble a.s.length n with
  | false=>rw[c] at h;cases h
  | true=>
   rw[c] at h;rcases AmR.1 b with rfl|b
   .exact Aym c
   .exact d h s b
def TN:List V->Option V
 | [.agg [a,b]]=>(Md Cx a).bind λnames=>(Md zJ b).bind λins=>bif (Nat.ble names.length 1000&&Nat.ble ins.length 1000)&&(lenB 1000 names&&YI 1000 ins) then
   some (.tup [.sl ((PO names ins).1.map MW),.i .i64 (PO names ins).2]) else none
 | _=>none
theorem kU(l:Dq)(e:Int):Ow (.tup [.sl (l.map MW),.i .i64 e])=true:=by
 have h:∀l:Dq,Iv (l.map MW)=true:=by
  intro l
  induction l with
  | nil=>simp[Iv]
  | cons a l b=>simp only[Ajf,Iv,b,MW,Ow,AwW]
 simp only[Ow,Iv,h,AwW]
theorem Aa9:AX π W0 (bO 30 TN):=Mk λargs v h=>by
 unfold TN at h;split at h
 .rename_i a b;obtain⟨names,m,h⟩:=AdK.1 h;obtain⟨ins,o,h⟩:=AdK.1 h;cases e:((Nat.ble names.length 1000&&Nat.ble ins.length 1000)&&(lenB 1000 names&&YI 1000 ins)) with
  | false=>rw[e] at h;cases h
  | true=>
   rw[e] at h;cases h;simp only[A0g] at e;obtain⟨⟨q1,q2⟩,q3,i⟩:=e;have q1:=Aym q1;have q2:=Aym q2;have q3:=WG q3;have i:=Xn i;rw[Up];refine⟨CX (mE W0 names ins (by omega) (by omega) (λs e=>by have:=q3 s e;omega) (λx p=>by have:=i x p;omega)) rfl λk q r g l=>?_,?_⟩
   .match k with
    | 0=>
     simp at g l;subst g l;refine .agg _ _ rfl λj c t f d=>?_
     match j with
     | 0=>simp at f d;subst f d;exact(Ex B0 _ _ m).1
     | 1=>simp at f d;subst f d;exact(Ex Xo _ _ o).1
     | j+2=>simp at f
    | k+1=>simp at g
   .exact kU _ _
 .cases h
end Go.Ir
