/-
  Contracts: dates.
  Contracts: the best date pattern for a skeleton.
  Contracts: writing to a builder that stands in a variable ..
  Contracts: isolated arguments.
  Contracts: dates in the patterns of a locale.
  Contracts: dates of a locale.
  The IR of functions of the program, printed by our own tool
  Ranges over functions: the rules for a walk
  Contract: list.join, by that of list.fill.
  Contracts: patterns with places (package validate), lists ..
  Contracts: units of a locale, the text of an argument ..
  Messages read back out of abstract values
  Contracts: the case of a selection that values choose ..
  Contracts: the writer of layer 32 over any message.
  Plain laws of layer 32: what Format computes (FL) answers ..
  Plain: the text of a date is not long: a pattern of the ..
  Plain: a small locale is within the bounds of the contracts.
  eval.Format, as the evaluator is handed it.
-/
import Derived.Test.YtalbicndcfmbnaaGreatDoorPae
import Derived.Lib.RuneBytes
import Derived.Lib.RuneCount
set_option linter.all false
set_option linter.defProp false
set_option linter.unusedSimpArgs false
set_option linter.unusedVariables false
open Nat (reduceEqDiff)
namespace Go.Ir
open Go.Proofs
variable(W0:World)
theorem fM(y:Int):An Tryz.prog W0 310 [.i .i64 y] [] (.b (J0 y)) []:=by
 generalize hS:J0 y=S;unfold J0 at hS;refine Ah (vs:=[.b S]) Ahi (by simp) (by simp) λn0 e=>?_;clear e;simp only[push_cast,seval,reduceEqDiff];cases a:(y.tmod 4==0)<;>cases c:(y.tmod 100==0)<;>cases d:(y.tmod 400==0)
 all_goals simp only[a,c,d,bne,bq,if_true,if_false,Int.reduceBEq,reduceCtorEq,Av6,Av9,Auy,AuB,AwZ,Aw1] at hS
 all_goals subst hS
 all_goals simp only[push_cast,seval,reduceEqDiff,a,c,d,bne]
 all_goals repeat' (first|(((first|apply Ab|apply Ag|apply Af)<;>intro _h)<;>simp only[push_cast,seval,reduceEqDiff,_h,a,c,d,bne])|(refine As (by omega) ?_;simp only[push_cast,seval,reduceEqDiff,a,c,d,bne])|intro _)
 all_goals exact Ai (by simp[get])
theorem Ab8(y:Int):An Tryz.prog W0 273 [.i .i64 y] [] (.i .i64 (DO y)) []:=by
 have h:=fM W0 y;generalize hS:DO y=S;unfold DO at hS;generalize J0 y=B at *;refine Ah (vs:=[.i .i64 S]) Aki (by simp) (by simp) λn0 a=>?_;clear a;simp only[push_cast,seval,reduceEqDiff];cases B
 all_goals ((try simp only[bq,if_true,if_false,Int.reduceBEq,reduceCtorEq] at hS);subst hS)
 all_goals (try simp only[push_cast,seval,reduceEqDiff])
 all_goals (repeat' (first|((first|refine Ac (by exact h) ?_|refine As (by omega) ?_);(try simp only[push_cast,seval,reduceEqDiff]))|intro _))
 all_goals (first|(refine Ai ?_;simp[get];done)|(refine Ae ?_;simp[push_cast,get];done)|skip)
theorem Ak8(y:Int)(m:Nat)(f:1<=m)(a:m<=12):An Tryz.prog W0 274 [.i .i64 y,.i .i64 m] [] (.i .i64 (Is y m)) []:=by
 have h:=fM W0 y;generalize hS:Is y m=S;unfold Is at hS;generalize J0 y=B at *;have c:((m:Int)==2)=(m==2):=by grind
 have d:IntKind.i64.wrap ((m:Int)-1)=((m-1:Nat):Int):=by rw[wrap64 (by omega) (by omega)];omega
 have b:Gr (.aget 12 1 false) [.agg [.i .i64 31,.i .i64 28,.i .i64 31,.i .i64 30,.i .i64 31,.i .i64 30,.i .i64 31,.i .i64 31,.i .i64 30,.i .i64 31,.i .i64 30,.i .i64 31],.i .i64 ((m-1:Nat):Int)]=some (.i .i64 (AbQ.getD (m-1) 0)):=by
  have:m=1\/m=2\/m=3\/m=4\/m=5\/m=6\/m=7\/m=8\/m=9\/m=10\/m=11\/m=12:=by omega
  rcases this with rfl|rfl|rfl|rfl|rfl|rfl|rfl|rfl|rfl|rfl|rfl|rfl<;>rfl
 refine Ah (vs:=[.i .i64 S]) Ajc (by simp) (by simp) λn0 e=>?_;clear e;simp only[push_cast,seval,reduceEqDiff,c,d,b];cases a:(m==2)<;>cases B
 all_goals simp only[a,bq,if_true,if_false,Int.reduceBEq,reduceCtorEq,Auy,AuB,AtA,AvE] at hS
 all_goals subst hS
 all_goals simp only[push_cast,seval,reduceEqDiff,c,d,b,a]
 all_goals repeat' (first|(((first|apply Ab|apply Ag|apply Af)<;>intro _h)<;>simp only[push_cast,seval,reduceEqDiff,_h,c,d,b,a])|((first|refine Ac (by exact h) ?_|refine As (by omega) ?_);simp only[push_cast,seval,reduceEqDiff,c,d,b,a])|intro _)
 all_goals exact Ai (by simp[get])
theorem Zz(d:Int)(c:DQ d=true):An Tryz.prog W0 217 [.i .i64 d] [] (.tup [.i .i64 (((d+25567).tmod 7).toNat:Nat),.i .i64 0]) []:=by
 unfold DQ at c;simp only[Aot,Au8] at c;obtain⟨a,b⟩:=c;have g:¬d < -25567:=of_decide_eq_false a;have h:¬d>84005:=of_decide_eq_false b;have f:IntKind.i64.wrap (d-(-25567))=d+25567:=by rw[wrap64 (by omega) (by omega)];omega
 have j:(((d+25567).tmod 7).toNat:Int)=(d+25567).tmod 7:=by grind
 rw[j];refine Ah (vs:=[.i .i64 ((d+25567).tmod 7),.i .i64 0]) Ajq (by simp) (by simp) λn0 e=>?_;clear e;simp only[push_cast,seval,reduceEqDiff,a,b,f]
 repeat' (first|(((first|apply Ab|apply Ag|apply Af)<;>intro _h)<;>simp only[push_cast,seval,reduceEqDiff,_h,a,b,f])|(refine As (by omega) ?_;simp only[push_cast,seval,reduceEqDiff,a,b,f])|intro _)
 all_goals (refine Ae ?_;simp[push_cast,get])
theorem gE(c:UInt8):An Tryz.prog W0 278 [.i .u8 c.toNat] [] (.b (DH c)) []:=by
 generalize hS:DH c=S;unfold DH at hS;refine Ah (vs:=[.b S]) Aig (by simp) (by simp) λn0 g=>?_;clear g;simp only[push_cast,seval,reduceEqDiff];cases a:decide ((c.toNat:Int)>=65)<;>cases d:decide ((c.toNat:Int)<=90)<;>cases e:decide ((c.toNat:Int)>=97)<;>cases f:decide ((c.toNat:Int)<=122)
 all_goals simp only[a,d,e,f,bq,if_true,if_false,Int.reduceBEq,reduceCtorEq,Auy,AuB,AwZ,Aw1] at hS
 all_goals subst hS
 all_goals simp only[push_cast,seval,reduceEqDiff,a,d,e,f]
 all_goals repeat' (first|(((first|apply Ab|apply Ag|apply Af)<;>intro _h)<;>simp only[push_cast,seval,reduceEqDiff,_h,a,d,e,f])|(refine As (by omega) ?_;simp only[push_cast,seval,reduceEqDiff,a,d,e,f])|intro _)
 all_goals exact Ai (by simp[get])
theorem HJ(y:Int):365<=DO y/\DO y<=366:=by unfold DO;split<;>omega
theorem Yg(y:Int)(m:Nat)(a:1<=m)(b:m<=12):28<=Is y m/\Is y m<=31:=by
 have:m=1\/m=2\/m=3\/m=4\/m=5\/m=6\/m=7\/m=8\/m=9\/m=10\/m=11\/m=12:=by omega
 unfold Is AbQ;rcases this with rfl|rfl|rfl|rfl|rfl|rfl|rfl|rfl|rfl|rfl|rfl|rfl<;>cases J0 y<;>simp
theorem Zh:∀(n m:Nat) (y d:Int),d<=n->d<=m->FY n y d=FY m y d:=by
 intro n
 induction n with
 | zero=>
  intro m y d a b;have c:=HJ y;cases m with
  | zero=>rfl
  | succ m=>rw[FY,FY,if_neg (by omega)]
 | succ n e=>
  intro m y d a b;have c:=HJ y;cases m with
  | zero=>grind
  | succ m=>rw[FY,FY];grind
theorem Adc:∀(n:Nat) (y d:Int),0<=d->d<=n->y<=(FY n y d).1/\(FY n y d).1<=y+d/\0<=(FY n y d).2/\(FY n y d).2<DO (FY n y d).1:=by
 intro n
 induction n with
 | zero=>intro y d f g;have h:=HJ y;rw[FY];grind
 | succ n i=>
  intro y d f g;have h:=HJ y;rw[FY];split
  ·obtain⟨a,b,c,e⟩:=i (y+1) (d-DO y) (by omega) (by omega);omega
  ·simp only;omega
def Fu(y:Int):Nat->Nat->Int
 | 0,_=>0
 | n+1,m=>Is y m+Fu y n (m+1)
theorem Re(y:Int):Fu y 12 1=DO y:=by unfold Fu Fu Fu Fu Fu Fu Fu Fu Fu Fu Fu Fu Fu;unfold DO Is AbQ;cases J0 y<;>simp
theorem Aba(y:Int):∀(n m:Nat) (d:Int),n+m=13->1<=m->0<=d->d<Fu y n m->m<=(ND y n m d).1/\(ND y n m d).1<=12/\0<=(ND y n m d).2/\(ND y n m d).2<31:=by
 intro n
 induction n with
 | zero=>intro m d c b e a;simp[Fu] at a;omega
 | succ n g=>
  intro m d c b e a;have f:=Yg y m b (by omega);rw[Fu] at a;rw[ND];split
  ·grind
  omega
theorem Qr{d:Int}(f:DQ d=true):1900<=(Hq d).1/\(Hq d).1<=120000/\1<=(FM d).1/\(FM d).1<=12/\0<=(FM d).2/\(FM d).2<31:=by unfold DQ at f;simp only[Aot,Au8] at f;have j:¬d < -25567:=of_decide_eq_false f.1;have k:¬d>84005:=of_decide_eq_false f.2;obtain⟨a,b,c,e⟩:=Adc (d+25567).toNat 1900 (d+25567) (by omega) (by omega);have l:Hq d=FY (d+25567).toNat 1900 (d+25567):=rfl;rw[<-l] at a b c e;obtain⟨a2,g,h,i⟩:=Aba (Hq d).1 12 1 (Hq d).2 rfl (by omega) c (by rw[Re];exact e);exact⟨a,by omega,a2,g,h,i⟩
theorem Wy(d:Int)(a:DQ d=true):An Tryz.prog W0 214 [.i .i64 d] [] (.tup [.i .i64 (Hq d).1,.i .i64 (FM d).1,.i .i64 ((FM d).2+1),.i .i64 0]) []:=by
 have v:=a;obtain⟨q1,q2,q3,K,L,N⟩:=Qr v;unfold DQ at a;simp only[Aot,Au8] at a;obtain⟨p,r⟩:=a;have E:¬d < -25567:=of_decide_eq_false p;have F:¬d>84005:=of_decide_eq_false r;have z:IntKind.i64.wrap (d-(-25567))=d+25567:=by rw[wrap64 (by omega) (by omega)];omega
 generalize t:Hq d=Y at *;generalize G:FM d=M at *;have l:FY (d+25567).toNat 1900 (d+25567)=Y:=t;have g:ND Y.1 12 1 Y.2=M:=by rw[<-G];unfold FM;rw[t]
 refine Ah (vs:=[.i .i64 Y.1,.i .i64 M.1,.i .i64 (M.2+1),.i .i64 0]) tJ (by simp) (by simp) λn0 w=>?_;clear w;simp only[push_cast,seval,reduceEqDiff,p,r,z]
 repeat' (first|(((first|apply Ab|apply Ag|apply Af)<;>intro _h)<;>simp only[push_cast,seval,reduceEqDiff,_h,p,r,z])|(refine As (by omega) ?_;simp only[push_cast,seval,reduceEqDiff,p,r,z])|intro _)
 refine Am (d+25567).toNat (Inv:=λm st=>∃n y x,m=x.toNat/\0<=x/\x<=120000/\1900<=y/\y+x<=130000/\FY x.toNat y x=Y/\st=⟨[(2,.i .i64 y),(3,.i .i64 1),(4,.i .i64 x)],[],n⟩) ⟨_,Ak.refl,_,1900,d+25567,rfl,by omega,by omega,by omega,by omega,l,rfl⟩ ?_;rintro m _ ⟨n,y,x,rfl,A,B,O,R,a,rfl⟩;have u:=Ab8 W0 y;have C:=HJ y;by_cases e:x>=DO y
 ·have c:decide (x>=DO y)=true:=by simpa using e
  have f:IntKind.i64.wrap (x-DO y)=x-DO y:=by rw[wrap64 (by omega) (by omega)]
  have o:IntKind.i64.wrap (y+1)=y+1:=by rw[wrap64 (by omega) (by omega)]
  simp only[push_cast,seval,reduceEqDiff,f,o];have _h:=trivial;repeat' (first|(first|((first|apply Ab|apply Ag|apply Af)<;>intro _h)|refine Ac u ?_|refine As (by omega) ?_)<;>simp only[push_cast,seval,reduceEqDiff,_h,f,o,c]|intro _)
  refine⟨_,_,?_,Ak.refl,_,y+1,x-DO y,rfl,by omega,by omega,by omega,by omega,?_,rfl⟩
  ·omega
  ·rw[<-a];obtain⟨q,H⟩:∃q,x.toNat=q+1:=⟨x.toNat-1,by omega⟩
   rw[H,FY,if_pos e];exact Zh _ _ _ _ (by omega) (by omega)
 ·have c:decide (x>=DO y)=false:=by simpa using e
  have h:Y=(y,x):=by
   rw[<-a];cases x.toNat with
   | zero=>rfl
   | succ q=>rw[FY,if_neg e]
  rw[h] at g;simp only[push_cast,seval,reduceEqDiff,c];have _h:=trivial;repeat' (first|(first|((first|apply Ab|apply Ag|apply Af)<;>intro _h)|refine Ac u ?_|refine As (by omega) ?_)<;>simp only[push_cast,seval,reduceEqDiff,_h,c,c]|intro _)
  have b:x<Fu y 12 1:=by rw[Re];omega
  rename_i k;generalize n+1+k=J;refine Am 12 (Inv:=λk st=>∃n m x,k+m=13/\1<=m/\0<=x/\x<Fu y k m/\x<=120000/\ND y k m x=M/\st=⟨[(2,.i .i64 y),(3,.i .i64 (m:Nat)),(4,.i .i64 x)],[],n⟩) ⟨_,Ak.envD (env':=[(2,.i .i64 y),(3,.i .i64 (1:Nat)),(4,.i .i64 x)]) (λs=>?_) (Abm _),_,1,x,rfl,Abm _,A,b,B,g,rfl⟩ ?_
  ·by_cases j:17=s
   ·subst j;right;rfl
   ·left;simp[get,j]
  rw[h];clear g b A B a c C u e h t l;rintro k _ ⟨n,m,x,I,m1,A,b,B,a,rfl⟩;cases k with
  | zero=>simp[Fu] at b;omega
  | succ k=>
   have D:=Ak8 W0 y m m1 (by omega);have C:=Yg y m m1 (by omega);rw[Fu] at b;rw[ND] at a;by_cases e:x>=Is y m
   ·have c:decide (x>=Is y m)=true:=by simpa using e
    have f:IntKind.i64.wrap (x-Is y m)=x-Is y m:=by rw[wrap64 (by omega) (by omega)]
    have o:IntKind.i64.wrap ((m:Int)+1)=((m+1:Nat):Int):=by rw[wrap64 (by omega) (by omega)];omega
    rw[if_pos e] at a;simp only[push_cast,seval,reduceEqDiff,f,o];have _h:=trivial;repeat' (first|(first|((first|apply Ab|apply Ag|apply Af)<;>intro _h)|refine Ac D ?_|refine As (by omega) ?_)<;>simp only[push_cast,seval,reduceEqDiff,_h,f,o,c]|intro _)
    exact⟨_,_,Ab3 _,Ak.refl,_,m+1,x-Is y m,by omega,by omega,by omega,by omega,by omega,a,rfl⟩
   ·have c:decide (x>=Is y m)=false:=by simpa using e
    rw[if_neg e] at a;subst a;have f:IntKind.i64.wrap (x+1)=x+1:=by rw[wrap64 (by omega) (by omega)]
    simp only[push_cast,seval,reduceEqDiff,f];have _h:=trivial;repeat' (first|(first|((first|apply Ab|apply Ag|apply Af)<;>intro _h)|refine Ac D ?_|refine As (by omega) ?_)<;>simp only[push_cast,seval,reduceEqDiff,_h,f,c]|intro _)
    refine Ae ?_;simp[push_cast,get]
theorem Gv(e:BV W0)(n:Nat)(g:n<2^40):An Tryz.prog W0 222 [.i .i64 n] [] (.s (Jb n)) []/\(Jb n).length<=21:=by
 obtain⟨d,f⟩:=F8 W0 e n (by omega);refine⟨?_,by unfold Jb;split<;>(try simp only[Ah5])<;>omega⟩;generalize hS:Jb n=S;unfold Jb at hS;generalize Lib.decDigits n=D at *;have b:decide ((n:Int)<10)=decide (n<10):=by rw[Atk];simp;omega
 refine Ah (vs:=[.s S]) AhI (by simp) (by simp) λn0 c=>?_;clear c;simp only[push_cast,seval,reduceEqDiff,b];cases a:decide (n<10)
 ·have:=of_decide_eq_false a;rw[if_neg this] at hS;subst hS;simp only[push_cast,seval,reduceEqDiff,b,a];have _h:=trivial;repeat' (first|(first|((first|apply Ab|apply Ag|apply Af)<;>intro _h)|refine Ac d ?_|refine As (by simp only[Agz,Ah5,Alo,AA]<;>omega) ?_)<;>simp only[push_cast,seval,reduceEqDiff,_h,b,a]|intro _)
  exact Ai (by simp[get])
 ·have:=of_decide_eq_true a;rw[if_pos this] at hS;subst hS;simp only[push_cast,seval,reduceEqDiff,b,a];have _h:=trivial;repeat' (first|(first|((first|apply Ab|apply Ag|apply Af)<;>intro _h)|refine Ac d ?_|refine As (by simp only[Agz,Ah5,Alo,AA]<;>omega) ?_)<;>simp only[push_cast,seval,reduceEqDiff,_h,b,a]|intro _)
  exact Ai (by simp[get])
theorem QU(d:Int)(c:DQ d=false):An Tryz.prog W0 214 [.i .i64 d] [] (.tup [.i .i64 0,.i .i64 0,.i .i64 0,.i .i64 2]) []:=by
 unfold DQ at c;simp only[AuA] at c;refine Ah (vs:=[.i .i64 0,.i .i64 0,.i .i64 0,.i .i64 2]) tJ (by simp) (by simp) λn0 e=>?_;clear e;simp only[push_cast,seval,reduceEqDiff];cases a:decide (d < -25567)<;>cases b:decide (d>84005)
 ·rw[a,b] at c;cases c
 all_goals simp only[push_cast,seval,reduceEqDiff,a,b]
 all_goals repeat' (first|(((first|apply Ab|apply Ag|apply Af)<;>intro _h)<;>simp only[push_cast,seval,reduceEqDiff,_h,a,b])|(refine As (by omega) ?_;simp only[push_cast,seval,reduceEqDiff,a,b])|intro _)
 all_goals (refine Ae ?_;simp[push_cast,get])
theorem MQ(e:BV W0)(d:Int):An Tryz.prog W0 160 [.i .i64 d] [] (.s (D0 d)) []/\(D0 d).length<=100:=by
 cases b:DQ d with
 | false=>
  have c:=QU W0 d b;have hS:D0 d=[]:=by unfold D0;rw[b];rfl
  rw[hS];refine⟨?_,by simp⟩;refine Ah (vs:=[.s []]) vS (by simp) (by simp) λn0 a=>?_;clear a;simp only[push_cast,seval,reduceEqDiff];have _h:=trivial;repeat' (first|(first|((first|apply Ab|apply Ag|apply Af)<;>intro _h)|refine Ac c ?_|refine As (by simp only[Agz,Ah5,Alo,AA]<;>omega) ?_)<;>simp only[push_cast,seval,reduceEqDiff,_h]|intro _)
  exact Ai (by simp[get])
 | true=>
  obtain⟨q1,q2,q3,q,r,t⟩:=Qr b;have c:=Wy W0 d b;obtain⟨y,g⟩:∃y:Nat,(Hq d).1=y:=⟨(Hq d).1.toNat,by omega⟩;obtain⟨x,f⟩:∃x:Nat,(FM d).2+1=x:=⟨((FM d).2+1).toNat,by omega⟩;have hS:D0 d=Lib.decDigits y++[45]++Jb (FM d).1++[45]++Jb x:=by unfold D0;rw[b,g,f];simp
  rw[g,f] at c;obtain⟨l,l1⟩:=F8 W0 e y (by omega);obtain⟨m,o⟩:=Gv W0 e (FM d).1 (by omega);obtain⟨c3,p⟩:=Gv W0 e x (by omega);rw[hS];generalize Lib.decDigits y=h at *;generalize Jb (FM d).1=j at *;generalize Jb x=k at *;refine⟨?_,by simp;omega⟩;refine Ah (vs:=[.s (h++[45]++j++[45]++k)]) vS (by simp) (by simp) λn0 a=>?_;clear a;simp only[push_cast,seval,reduceEqDiff];have _h:=trivial;repeat' (first|(first|((first|apply Ab|apply Ag|apply Af)<;>intro _h)|refine Ac c ?_|refine Ac l ?_|refine Ac m ?_|refine Ac c3 ?_|refine As (by simp only[Agz,Ah5,Alo,AA]<;>omega) ?_)<;>simp only[push_cast,seval,reduceEqDiff,_h]|intro _)
  exact Ai (by simp[get])
def lY:List Aa:=[[],[121]]
def lM:List Aa:=[[],[77]]
def lE:List Aa:=[[],[69]]
def lD:List Aa:=[[],[100]]
theorem LG{l d:List Aa}(h:l=d++[])(a:l.length=2):decide ((d.length:Int)<2)=false:=by grind
theorem JS{l d r:List Aa}{y:Aa}(h:l=d++y::r)(b:l.length=2):decide ((d.length:Int)<2)=true/\(l.map V.s)[d.length]?=some (.s y)/\IntKind.i64.wrap ((d.length:Int)+1)=((d++[y]).length:Int)/\y∈l:=by have a:=AH h;refine⟨by simp;omega,by rw[h];simp,Ad y (by omega),by rw[h];simp⟩
set_option maxHeartbeats 1000000 in
theorem Ap2(p:Aa)(hp:p.length<=2^20):An Tryz.prog W0 216 [.s p] [] (.b (Zj p)) []:=by
 generalize hS:Zj p=S;have hS:lY.any (λy=>lM.any λm=>lE.any λe=>lD.any λd=>DL (y++m++e++d) p)=S:=hS;have G:∀y∈lY,y.length<=1:=by decide
 have F:∀y∈lM,y.length<=1:=by decide
 have le:∀y∈lE,y.length<=1:=by decide
 have R:∀y∈lD,y.length<=1:=by decide
 refine Ah (vs:=[.b S]) Akf (by simp) (by simp) λn0 N=>?_;clear N;simp only[push_cast,seval,reduceEqDiff]
 repeat' (first|(((first|apply Ab|apply Ag|apply Af)<;>intro _h)<;>simp only[push_cast,seval,reduceEqDiff,_h])|(refine As (by omega) ?_;simp only[push_cast,seval,reduceEqDiff])|intro _)
 refine Am 2 (Inv:=λk st=>∃t h n,lY=t++h/\k=h.length/\(h.any (λy=>lM.any λm=>lE.any λe=>lD.any λd=>DL (y++m++e++d) p))=S/\st=⟨[(0,.s p),(11,.sl (lY.map V.s)),(12,.i .i64 2),(13,.i .i64 (t.length:Nat))],[],n⟩) ⟨_,Ak.refl,[],lY,_,rfl,rfl,hS,rfl⟩ ?_;clear hS;rintro _ _ ⟨t,h,T,u,rfl,c,rfl⟩;rcases h with _|⟨y,h⟩
 ·have q1:=LG u rfl;simp only[List.any_nil,Awz] at c;subst c;simp only[push_cast,seval,reduceEqDiff,q1];intros;exact Ai (by simp[get])
 obtain⟨H,I,J,j⟩:=JS u rfl;rw[Ax3] at c;simp only[push_cast,seval,reduceEqDiff,H,I];intros;refine Am 2 (Inv:=λk st=>∃A o n,lM=A++o/\k=o.length/\(o.any (λm=>lE.any λe=>lD.any λd=>DL (y++m++e++d) p)||h.any (λy=>lM.any λm=>lE.any λe=>lD.any λd=>DL (y++m++e++d) p))=S/\st=⟨[(0,.s p),(4,.s y),(11,.sl (lY.map V.s)),(12,.i .i64 2),(13,.i .i64 (t.length:Nat)),(17,.sl (lM.map V.s)),(18,.i .i64 2),(19,.i .i64 (A.length:Nat))],[],n⟩) ⟨_,Ak.refl,[],lM,_,rfl,rfl,c,rfl⟩ ?_;clear c;rintro _ _ ⟨A,o,U,v,rfl,f,rfl⟩;rcases o with _|⟨m,o⟩
 ·have q1:=LG v rfl;simp only[List.any_nil,Awz] at f;simp only[push_cast,seval,reduceEqDiff,q1,J];intros;exact⟨_,_,Ab3 _,Ak.refl,t++[y],h,_,by rw[u];simp,rfl,f,rfl⟩
 obtain⟨K,L,a23,a24⟩:=JS v rfl;rw[Ax3] at f;simp only[push_cast,seval,reduceEqDiff,K,L];intros;refine Am 2 (Inv:=λk st=>∃D q n,lE=D++q/\k=q.length/\(q.any (λe=>lD.any λd=>DL (y++m++e++d) p)||o.any (λm=>lE.any λe=>lD.any λd=>DL (y++m++e++d) p)||h.any (λy=>lM.any λm=>lE.any λe=>lD.any λd=>DL (y++m++e++d) p))=S/\st=⟨[(0,.s p),(4,.s y),(6,.s m),(11,.sl (lY.map V.s)),(12,.i .i64 2),(13,.i .i64 (t.length:Nat)),(17,.sl (lM.map V.s)),(18,.i .i64 2),(19,.i .i64 (A.length:Nat)),(23,.sl (lE.map V.s)),(24,.i .i64 2),(25,.i .i64 (D.length:Nat))],[],n⟩) ⟨_,Ak.refl,[],lE,_,rfl,rfl,f,rfl⟩ ?_;clear f;rintro _ _ ⟨D,q,W,w,rfl,g,rfl⟩;rcases q with _|⟨e,q⟩
 ·have q1:=LG w rfl;simp only[List.any_nil,Awz] at g;simp only[push_cast,seval,reduceEqDiff,q1,a23];intros;exact⟨_,_,Ab3 _,Ak.refl,A++[m],o,_,by rw[v];simp,rfl,g,rfl⟩
 obtain⟨M,a32,a33,r⟩:=JS w rfl;rw[Ax3] at g;simp only[push_cast,seval,reduceEqDiff,M,a32];intros;refine Am 2 (Inv:=λk st=>∃E z n,lD=E++z/\k=z.length/\(z.any (λd=>DL (y++m++e++d) p)||q.any (λe=>lD.any λd=>DL (y++m++e++d) p)||o.any (λm=>lE.any λe=>lD.any λd=>DL (y++m++e++d) p)||h.any (λy=>lM.any λm=>lE.any λe=>lD.any λd=>DL (y++m++e++d) p))=S/\st=⟨[(0,.s p),(4,.s y),(6,.s m),(8,.s e),(11,.sl (lY.map V.s)),(12,.i .i64 2),(13,.i .i64 (t.length:Nat)),(17,.sl (lM.map V.s)),(18,.i .i64 2),(19,.i .i64 (A.length:Nat)),(23,.sl (lE.map V.s)),(24,.i .i64 2),(25,.i .i64 (D.length:Nat)),(29,.sl (lD.map V.s)),(30,.i .i64 2),(31,.i .i64 (E.length:Nat))],[],n⟩) ⟨_,Ak.refl,[],lD,_,rfl,rfl,g,rfl⟩ ?_;clear g;rintro _ _ ⟨E,z,X,x,rfl,a,rfl⟩;rcases z with _|⟨d,z⟩
 ·have q1:=LG x rfl;simp only[List.any_nil,Awz] at a;simp only[push_cast,seval,reduceEqDiff,q1,a33];intros;exact⟨_,_,Ab3 _,Ak.refl,D++[e],q,_,by rw[w];simp,rfl,a,rfl⟩
 obtain⟨a41,l,C,a44⟩:=JS x rfl;rw[Ax3] at a;have O:=AcI W0 (y++m++e++d) p (by have:=G y j;have:=F m a24;have:=le e r;have:=R d a44;simp;omega) hp;generalize DL (y++m++e++d) p=B at *;have k1:(y.length+m.length<=AA)=True:=eq_true (by have:=G y j;have:=F m a24;unfold AA;omega);have k2:((y++m).length+e.length<=AA)=True:=eq_true (by have:=G y j;have:=F m a24;have:=le e r;unfold AA;simp;omega);have k3:((y++m++e).length+d.length<=AA)=True:=eq_true (by have:=G y j;have:=F m a24;have:=le e r;have:=R d a44;unfold AA;simp;omega);cases B
 ·simp only[Awz] at a;simp only[push_cast,seval,reduceEqDiff,a41,l,k1,k2,k3];have _h:=trivial;repeat' (first|(first|((first|apply Ab|apply Ag|apply Af)<;>intro _h)|refine Ac O ?_|refine As (by omega) ?_)<;>simp only[push_cast,seval,reduceEqDiff,_h,a41,l,C,k1,k2,k3]|intro _)
  exact⟨_,_,Ab3 _,Ak.refl,E++[d],z,_,by rw[x];simp,rfl,a,rfl⟩
 ·simp only[Bool.true_or] at a;subst a;simp only[push_cast,seval,reduceEqDiff,a41,l,k1,k2,k3];have _h:=trivial;repeat' (first|(first|((first|apply Ab|apply Ag|apply Af)<;>intro _h)|refine Ac O ?_|refine As (by omega) ?_)<;>simp only[push_cast,seval,reduceEqDiff,_h,a41,l,C,k1,k2,k3]|intro _)
  exact Ai (by simp[get])
theorem oT(r:BV W0)(x:Ko)(f:Aa)(a:x.y<2^40)(b:1<=x.m/\x.m<=12)(c:x.d<2^40)(g:x.wd<7) :
  An Tryz.prog W0 279 [.agg [.s x.L.tag,.s x.L.parent,.s x.L.dir,.sl (x.L.card.map A7.enc),.sl (x.L.ord.map A7.enc),.s x.L.dec,.s x.L.grp,.s x.L.minus,.s x.L.perc,.i .i64 x.L.prim,.i .i64 x.L.sec,.sl (x.L.lists.map CF.enc),.sl (x.L.units.map Dt.enc),.sl (x.L.dates.map CE.enc),.sl (x.L.months.map V.s),.sl (x.L.days.map V.s),.i .i64 x.y,.i .i64 x.m,.i .i64 x.d,.i .i64 x.wd],.s f] [] (.tup [.s (EG x f).1,.i .i64 (EG x f).2]) []:=by
 obtain⟨u,l1⟩:=F8 W0 r x.y (by omega);obtain⟨v,F⟩:=F8 W0 r x.m (by omega);obtain⟨c3,G⟩:=F8 W0 r x.d (by omega);obtain⟨w,H⟩:=Gv W0 r x.m (by omega);obtain⟨z,I⟩:=Gv W0 r x.d (by omega);generalize hS:EG x f=S;unfold EG at hS;have e:IntKind.i64.wrap ((x.m:Int)-1)=((x.m-1:Nat):Int):=by rw[wrap64 (by omega) (by omega)];omega
 have p:x.L.months.length=12->(x.L.months.map V.s)[x.m-1]?=some (.s (x.L.months.getD (x.m-1) [])):=λh=>by grind
 have q:x.L.days.length=7->(x.L.days.map V.s)[x.wd]?=some (.s (x.L.days.getD x.wd [])):=λh=>by grind
 generalize Lib.decDigits x.y=A at *;generalize Lib.decDigits x.m=B at *;generalize Lib.decDigits x.d=C at *;generalize Jb x.m=D at *;generalize Jb x.d=E at *;refine Ah (vs:=[.s S.1,.i .i64 S.2]) Ak6 (by simp) (by simp) λn0 t=>?_;clear t;simp only[push_cast,seval,reduceEqDiff,e,bne];cases a:(f==([121]:Aa)) with
 | true=>
  simp only[a,bq,if_true,if_false,Int.reduceBEq,reduceCtorEq] at hS;subst hS;simp only[push_cast,seval,reduceEqDiff,e,bne,a];have _h:=trivial;repeat' (first|(first|((first|apply Ab|apply Ag|apply Af)<;>intro _h)|refine Ac u ?_|refine As (by omega) ?_)<;>simp only[push_cast,seval,reduceEqDiff,_h,e,bne,a]|intro _)
  refine Ae ?_;simp[push_cast,get]
 | false=>
 cases b:(f==([77]:Aa)) with
 | true=>
  simp only[a,b,bq,if_true,if_false,Int.reduceBEq,reduceCtorEq] at hS;subst hS;simp only[push_cast,seval,reduceEqDiff,e,bne,a,b];have _h:=trivial;repeat' (first|(first|((first|apply Ab|apply Ag|apply Af)<;>intro _h)|refine Ac v ?_|refine As (by omega) ?_)<;>simp only[push_cast,seval,reduceEqDiff,_h,e,bne,a,b]|intro _)
  refine Ae ?_;simp[push_cast,get]
 | false=>
 cases c:(f==([77,77]:Aa)) with
 | true=>
  simp only[a,b,c,bq,if_true,if_false,Int.reduceBEq,reduceCtorEq] at hS;subst hS;simp only[push_cast,seval,reduceEqDiff,e,bne,a,b,c];have _h:=trivial;repeat' (first|(first|((first|apply Ab|apply Ag|apply Af)<;>intro _h)|refine Ac w ?_|refine As (by omega) ?_)<;>simp only[push_cast,seval,reduceEqDiff,_h,e,bne,a,b,c]|intro _)
  refine Ae ?_;simp[push_cast,get]
 | false=>
 cases g:(f==([77,77,77]:Aa)) with
 | true=>
  cases j:((x.L.months.length:Int)==12) with
  | true=>
   have l:x.L.months.length=12:=by grind
   have p:=p l;simp only[a,b,c,g,j,bne,bq,if_true,if_false,Int.reduceBEq,reduceCtorEq,Av6] at hS;subst hS;simp only[push_cast,seval,reduceEqDiff,e,bne,a,b,c,g,j]
   repeat' (first|(((first|apply Ab|apply Ag|apply Af)<;>intro _h)<;>simp only[push_cast,seval,reduceEqDiff,_h,e,bne,a,b,c,g,j,p])|(refine As (by omega) ?_;simp only[push_cast,seval,reduceEqDiff,e,bne,a,b,c,g,j,p])|intro _)
   simp only[push_cast,seval,reduceEqDiff,e,bne,p];intros;refine Ae ?_;simp[push_cast,get]
  | false=>
   simp only[a,b,c,g,j,bne,bq,if_true,if_false,Int.reduceBEq,reduceCtorEq,Av9] at hS;subst hS;simp only[push_cast,seval,reduceEqDiff,e,bne,a,b,c,g,j]
   repeat' (first|(((first|apply Ab|apply Ag|apply Af)<;>intro _h)<;>simp only[push_cast,seval,reduceEqDiff,_h,e,bne,a,b,c,g,j])|(refine As (by omega) ?_;simp only[push_cast,seval,reduceEqDiff,e,bne,a,b,c,g,j])|intro _)
   refine Ae ?_;simp[push_cast,get]
 | false=>
 cases k:(f==([69]:Aa)) with
 | true=>
  cases j:((x.L.days.length:Int)==7) with
  | true=>
   have l:x.L.days.length=7:=by grind
   have q:=q l;simp only[a,b,c,g,k,j,bne,bq,if_true,if_false,Int.reduceBEq,reduceCtorEq,Av6] at hS;subst hS;simp only[push_cast,seval,reduceEqDiff,e,bne,a,b,c,g,k,j]
   repeat' (first|(((first|apply Ab|apply Ag|apply Af)<;>intro _h)<;>simp only[push_cast,seval,reduceEqDiff,_h,e,bne,a,b,c,g,k,j,q])|(refine As (by omega) ?_;simp only[push_cast,seval,reduceEqDiff,e,bne,a,b,c,g,k,j,q])|intro _)
   simp only[push_cast,seval,reduceEqDiff,e,bne,q];intros;refine Ae ?_;simp[push_cast,get]
  | false=>
   simp only[a,b,c,g,k,j,bne,bq,if_true,if_false,Int.reduceBEq,reduceCtorEq,Av9] at hS;subst hS;simp only[push_cast,seval,reduceEqDiff,e,bne,a,b,c,g,k,j]
   repeat' (first|(((first|apply Ab|apply Ag|apply Af)<;>intro _h)<;>simp only[push_cast,seval,reduceEqDiff,_h,e,bne,a,b,c,g,k,j])|(refine As (by omega) ?_;simp only[push_cast,seval,reduceEqDiff,e,bne,a,b,c,g,k,j])|intro _)
   refine Ae ?_;simp[push_cast,get]
 | false=>
 cases o:(f==([100]:Aa)) with
 | true=>
  simp only[a,b,c,g,k,o,bq,if_true,if_false,Int.reduceBEq,reduceCtorEq] at hS;subst hS;simp only[push_cast,seval,reduceEqDiff,e,bne,a,b,c,g,k,o];have _h:=trivial;repeat' (first|(first|((first|apply Ab|apply Ag|apply Af)<;>intro _h)|refine Ac c3 ?_|refine As (by omega) ?_)<;>simp only[push_cast,seval,reduceEqDiff,_h,e,bne,a,b,c,g,k,o]|intro _)
  refine Ae ?_;simp[push_cast,get]
 | false=>
  simp only[a,b,c,g,k,o,bq,if_true,if_false,Int.reduceBEq,reduceCtorEq] at hS;subst hS;simp only[push_cast,seval,reduceEqDiff,e,bne,a,b,c,g,k,o];have _h:=trivial;repeat' (first|(first|((first|apply Ab|apply Ag|apply Af)<;>intro _h)|refine Ac z ?_|refine As (by omega) ?_)<;>simp only[push_cast,seval,reduceEqDiff,_h,e,bne,a,b,c,g,k,o]|intro _)
  refine Ae ?_;simp[push_cast,get]
theorem Fs(σ σo:Al):over σ σo σ=σo:=by have:=Eq (σi:=σ) (σo:=σo) (pre:=[]) (λp hp=>by cases hp);simpa using this
theorem pX(σo σ:Al):over [] σo σ=σo++σ:=by unfold over;congr 1;rw[Axs];intro p _;rfl
theorem J3{P:Program}{W0:World}{f:FuncId}{args:List V}{v:V}(h:An P W0 f args [] v []):Ex P W0 f args [] (λn n' u σ'=>u=v/\σ'=[]) where
 callable:=h.callable
 run:=λn w μ H vals hp l=>(h.run n w μ H vals hp l).mono λe w' ⟨val,a,b,n',c,d,g,i,j,k⟩=>⟨val,a,b,n',v,[],c,⟨rfl,rfl⟩,d,g,i,j,k⟩
theorem WF(a:Aa)(e:a.length<=2^30)(h:Cu a=none):An Tryz.prog W0 275 [.s a] [] (.tup [.nm,.b false]) []:=by
 have c:=Mw W0 a e;rw[h] at c;simp only[Hi,PI,AtT,AcY,if_false] at c;refine Ah (vs:=[.nm,.b false]) l6 (by simp) (by simp) λn0 d=>?_;clear d;simp only[push_cast,seval,reduceEqDiff];have _h:=trivial;repeat' (first|(first|((first|apply Ab|apply Ag|apply Af)<;>intro _h)|refine Ac c ?_|refine As (by omega) ?_)<;>simp only[push_cast,seval,reduceEqDiff,_h]|intro _)
 refine Ae ?_;simp[push_cast,get]
def Afu(m:CO)(n n':Nat)(v:V)(σ':Al):Prop:=∃mid:Id,n<=mid.1/\mid.1<n'/\v=.tup [.arr mid,.b true]/\σ'=[(mid,.map (Dn m))]
theorem tP(j:Aa)(l:List Aa)(z:j.length<=2^30)(h:Cu j=some l):Ex Tryz.prog W0 275 [.s j] [] (Afu (Fe l)):=by
 have k:=Mw W0 j z;rw[h] at k;simp only[Hi,PI,Ars,if_true] at k;obtain⟨_,x,o⟩:=Gz h;generalize hS:Fe l=S;unfold Fe at hS;generalize u:Afu S=R;refine Cc l6 (by simp) λn0 p=>?_;clear p;simp only[push_cast,seval,reduceEqDiff];have _h:=trivial;repeat' (first|(first|((first|apply Ab|apply Ag|apply Af)<;>intro _h)|refine Ac k ?_|refine As (by omega) ?_)<;>simp only[push_cast,seval,reduceEqDiff,_h]|intro _)
 rename_i k1 k2 k3 r t;generalize q:((n0+1+k1+1+k2+1+k3,16):Id)=mid;have y:n0<=mid.1:=by grind
 have g:mid.1<n0+1+k1+1+k2+1+k3+1+r+1+t:=by grind
 generalize n0+1+k1+1+k2+1+k3+1+r+1+t=B at *;refine Am l.length (Inv:=λm st=>∃done a n M,l=done++a/\m=a.length/\a.foldl (λm f=>Gw m (f.take 1) f.length) M=S/\mid.1<n/\st=⟨[(6,.arr mid),(17,.sl (l.map V.s)),(18,.i .i64 l.length),(19,.i .i64 done.length)],[(mid,.map (Dn M))],n⟩) ⟨_,Ak.refl,[],l,_,[],rfl,rfl,hS,g,rfl⟩ ?_;clear hS g;rintro m _ ⟨done,a,n,M,c,rfl,e,A,rfl⟩;cases a with
 | nil=>simp only[AwR] at e;subst e;simp only[push_cast,seval,reduceEqDiff,c];intros;subst u;exact⟨_,Ak.refl,[.arr mid,.b true],_,⟨rfl,rfl,trivial⟩,λ_ _ h=>h,mid,by omega,by simp only;omega,rfl,rfl⟩
 | cons f a=>
  have w:=AH c;have d:(1<=f.length)=True:=eq_true (o f (by rw[c];simp));rw[Awx] at e;rcases HK (f.take 1) M 0 with⟨i,v,h1,h2,h3⟩|⟨h1,h2,h3⟩
  ·simp only[Awg] at h2;simp only[push_cast,seval,reduceEqDiff,c,Ad f (done:=done) (by omega),d,h2,h3]
   repeat' (first|(((first|apply Ab|apply Ag|apply Af)<;>intro _h)<;>simp only[push_cast,seval,reduceEqDiff,_h,c,Ad f (done:=done) (by omega),d,h2,h3])|(refine As (by omega) ?_;simp only[push_cast,seval,reduceEqDiff,c,Ad f (done:=done) (by omega),d,h2,h3])|intro _)
   exact⟨_,_,Ab3 _,Ak.refl,done++[f],a,_,_,by simp,rfl,e,by omega,rfl⟩
  ·skip;simp only[push_cast,seval,reduceEqDiff,c,Ad f (done:=done) (by omega),d,h2,h3]
   repeat' (first|(((first|apply Ab|apply Ag|apply Af)<;>intro _h)<;>simp only[push_cast,seval,reduceEqDiff,_h,c,Ad f (done:=done) (by omega),d,h2,h3])|(refine As (by omega) ?_;simp only[push_cast,seval,reduceEqDiff,c,Ad f (done:=done) (by omega),d,h2,h3])|intro _)
   exact⟨_,_,Ab3 _,Ak.refl,done++[f],a,_,_,by simp,rfl,e,by omega,rfl⟩
def G5(f:Nat->Int):List Nat->Int
 | []=>0
 | i::l=>f i+G5 f l
theorem MS(f:Nat->Int):∀(l:List Nat) (i:Nat),i∈l->G5 f l=f i+G5 f (l.erase i)
 | [],i,h=>by cases h
 | x::l,i,h=>by
  by_cases a:x=i
  ·subst a;simp[G5]
  ·have:i∈l:=by grind
   rw[List.erase_cons_tail (by simpa using a),G5,G5,MS f l i this];omega
theorem LT(f:Nat->Int):∀(l:List Nat) (i:Nat),G5 f (l++[i])=G5 f l+f i
 | [],i=>by simp[G5]
 | x::l,i=>by rw[Anz,G5,G5,LT f l i];omega
theorem JD:∀(n:Nat) (l:List Nat),l.Nodup->(∀i∈l,i<n)->l.length<=n
 | 0,l,_,h=>by
  cases l with
  | nil=>simp
  | cons x l=>exact absurd (h x (by simp)) (by omega)
 | n+1,l,a,h=>by
  by_cases c:n∈l
  ·have:=JD n (l.erase n) (a.erase n) λi b=>by
    grind
   grind
  ·have:=JD n l a λi b=>by
    grind
   omega
theorem Rh(f:Nat->Int):∀(n:Nat) (l:List Nat),l.Nodup->(∀i∈l,i<n)->(∀i,i<n->i∈l)->G5 f l=G5 f (List.range n)
 | 0,l,_,h,_=>by
  cases l with
  | nil=>rfl
  | cons x l=>exact absurd (h x (by simp)) (by omega)
 | n+1,l,c,h,b=>by
  rw[List.range_succ,LT,MS f l n (b n (by omega))];have:=Rh f n (l.erase n) (c.erase n) (λi a=>by
    have e:=h i (List.mem_of_mem_erase a);have g:i≠n:=λd=>by rw[d] at a;exact(List.Nodup.not_mem_erase c) a
    omega) (λi a=>(List.mem_erase_of_ne (by omega)).2 (b i (by omega)))
  omega
theorem TQ(g:(Aa×Int)->Int):∀(a:CO),G5 (λi=>match a[i]? with|some e=>g e|none=>0) (List.range a.length)=(a.map g).sum:=by
 have key:∀(a b:CO),G5 (λi=>match(b++a)[i]? with|some e=>g e|none=>0) ((List.range a.length).map (· + b.length))=(a.map g).sum:=by
  intro a
  induction a with
  | nil=>intro b;rfl
  | cons e a d=>
   intro b;rw[Ah5,List.range_succ_eq_map,Alh,G5,Alh,List.sum_cons];have c:(b++e::a)[0+b.length]?=some e:=by simp
   rw[c];simp only[Ax0];have:=d (b++[e]);simp only[AvS,Ax7,Agz,Ah5,Alo] at this;rw[<-this];congr 2;apply AvV;grind
 intro a;simpa using key a []
def wtE(b:CO)(e:Aa×Int):Int:=max (e.2-(Bl b e.1).getD 0) ((Bl b e.1).getD 0-e.2)
theorem Aje{b:CO}(a:∀e∈b,0<=e.2/\e.2<=2^30){e:Aa×Int}(c:0<=e.2/\e.2<=2^30):0<=(Bl b e.1).getD 0/\(Bl b e.1).getD 0<=2^30:=by
 have:∀(b:CO),(∀e∈b,0<=e.2/\e.2<=2^30)->0<=(Bl b e.1).getD 0/\(Bl b e.1).getD 0<=2^30:=by
  intro b
  induction b with
  | nil=>intro _;simp[Bl]
  | cons x b d=>intro h;rw[Bl];grind
 exact this b a
theorem iW(a b:CO):(a.map λe=>max (e.2-(Bl b e.1).getD 0) ((Bl b e.1).getD 0-e.2)).sum=G5 (λi=>match a[i]? with|some e=>wtE b e|none=>0) (List.range a.length):=(TQ (wtE b) a).symm
theorem Aj8(a b:CO)(c bid:Id)(C:c≠bid)(W:∀e∈a,0<=e.2/\e.2<=2^30)(X:∀e∈b,0<=e.2/\e.2<=2^30)(Z:a.length<=2^20) :
  An Tryz.prog W0 276 [.arr c,.arr bid] [(c,.map (Dn a)),(bid,.map (Dn b))] (.tup [.i .i64 (KW a b).1,.b (KW a b).2]) [(c,.map (Dn a)),(bid,.map (Dn b))]:=by
 have r:(Dn a).length=a.length:=by simp[Dn]
 have z:(Dn b).length=b.length:=by simp[Dn]
 have f:(c=bid)=False:=eq_false C;have g:(bid=c)=False:=eq_false (AhZ C);generalize hS:KW a b=S;unfold KW at hS;rw[iW] at hS;refine Ah (vs:=[.i .i64 S.1,.b S.2]) Ahd (by simp) (λ_ h=>h) λn0 A=>?_;have h1:c.1<n0:=A c _ (by simp[lk];rfl);have h2:bid.1<n0:=A bid _ (by simp[lk,C];rfl);clear A;simp only[push_cast,seval,reduceEqDiff,f,g];intros;rename_i k1 k2 k3;generalize V:((n0+1+k1+1+k2,12):Id)=mid;have G:mid≠c:=λt=>by grind
 have H:mid≠bid:=λt=>by grind
 have l:(mid=c)=False:=eq_false G;have p:(mid=bid)=False:=eq_false H;have q:(c=mid)=False:=eq_false (AhZ G);have f6:(bid=mid)=False:=eq_false (AhZ H);refine Am a.length (Inv:=λm st=>∃seen n x,m+seen.length=a.length/\seen.Nodup/\(∀i∈seen,i<a.length)/\(∀i e,i∈seen->a[i]?=some e->(Bl b e.1).isSome=true)/\x=G5 (λi=>match a[i]? with|some e=>wtE b e|none=>0) seen/\0<=x/\x<=seen.length*2^30/\st=⟨[(0,.arr c),(1,.arr bid),(6,.i .i64 x),(12,.arr mid)],[(mid,.mit c (Dn a).length seen (Dn a).length),(c,.map (Dn a)),(bid,.map (Dn b))],n⟩) ⟨_,Ak.refl,[],_,0,rfl,AxO,(by simp),(by simp),rfl,(by omega),(by simp),rfl⟩ ?_;rintro m _ ⟨seen,n,x,hm,B,D,N,O,x1,x2,rfl⟩;have ab:=JD _ _ B D;simp only[push_cast,seval,reduceEqDiff,f,g];refine XX (id:=mid) (mid:=c) (es:=Dn a) (seen:=seen) rfl (by simp[lk]) (by simp[lk,l]) (by simp) (by simp) (λi kv o aa=>?_) (λk=>?_)
 ·obtain⟨e,t,rfl⟩:∃e,a[i]?=some e/\kv=(.s e.1,.i .i64 e.2):=by
   unfold Dn at o;grind
  have Y:i<a.length:=(Alp.1 t).1;have L:=W e (Aln t);have d:(seen++[i]).getLast?=some i:=by simp
  have u:(seen++[i]).Nodup:=by rw[AxT];exact⟨B,by simp,λx O y hy=>by grind⟩
  have w:∀j∈seen++[i],j<a.length:=by
   intro j M;rcases Ajn.1 M with h|h
   ·exact D j h
   ·simp at h;omega
  have I:=JD _ _ u w;rw[Agz,Ah5,Alo] at I;rcases HK e.1 b 0 with⟨j,v,g1,g2,g3⟩|⟨g1,g2,g3⟩
  ·have F:=Aje X L;rw[g1] at F;simp only[Option.getD_some] at F;simp only[Awg] at g2;have R:IntKind.i64.wrap (e.2-v)=e.2-v:=by rw[wrap64 (by omega) (by omega)]
   have T:IntKind.i64.wrap (v-e.2)=v-e.2:=by rw[wrap64 (by omega) (by omega)]
   have U:IntKind.i64.wrap (x+max (e.2-v) (v-e.2))=x+max (e.2-v) (v-e.2):=by have:(seen.length:Int)*2^30<=2^20*2^30:=Int.mul_le_mul_of_nonneg_right (by omega) (by omega);rw[wrap64 (by omega) (by omega)]
   have hw:wtE b e=max (e.2-v) (v-e.2):=by unfold wtE;rw[g1];rfl
   simp only[push_cast,seval,reduceEqDiff,d,o,f,g,l,p,q,f6,g2,R,T,U]
   repeat' (first|(((first|apply Ab|apply Ag|apply Af)<;>intro _h)<;>simp only[push_cast,seval,reduceEqDiff,_h,d,o,f,g,l,p,q,f6,g2,R,T,U])|(refine As (by omega) ?_;simp only[push_cast,seval,reduceEqDiff,d,o,f,g,l,p,q,f6,g2,R,T,U])|intro _)
   refine⟨a.length-(seen.length+1),_,by omega,Ak.refl,seen++[i],_,x+max (e.2-v) (v-e.2),by simp;omega,u,w,?_,?_,by omega,?_,rfl⟩
   ·intro j e' M K;rcases Ajn.1 M with h|h
    ·exact N j e' h K
    ·simp at h;grind
   ·rw[LT,<-O,t];simp only[hw]
   ·simp only[Agz,Ah5,Alo];omega
  ·have k:(a.all λe=>(Bl b e.1).isSome)=false:=by
    rw[List.all_eq_false];exact⟨e,Aln t,by rw[g1];simp⟩
   rw[k] at hS;simp only[AcY,if_false] at hS;subst hS;simp only[push_cast,seval,reduceEqDiff,d,o,f,g,l,p,q,f6,g2]
   repeat' (first|(((first|apply Ab|apply Ag|apply Af)<;>intro _h)<;>simp only[push_cast,seval,reduceEqDiff,_h,d,o,f,g,l,p,q,f6,g2])|(refine As (by omega) ?_;simp only[push_cast,seval,reduceEqDiff,d,o,f,g,l,p,q,f6,g2])|intro _)
   exact⟨_,Ak.refl,⟨rfl,rfl,trivial⟩,λi e h=>by
    simp only[lk] at h⊢;split at h
    ·grind
    ·rename_i h0;split at h
     ·grind
     ·cases h⟩
 ·have J:x=G5 (λi=>match a[i]? with|some e=>wtE b e|none=>0) (List.range a.length):=by
   rw[O];exact Rh _ _ _ B D λi o=>k i (by rw[r];exact o)
  have E:(a.all λe=>(Bl b e.1).isSome)=true:=by rw[Alm];intro e t;obtain⟨i,o⟩:=AsY.1 t;grind
  rw[E,<-J] at hS;simp only[if_true] at hS;subst hS;simp only[push_cast,seval,reduceEqDiff,f,g,l,p,q,f6,r,z]
  repeat' (first|(((first|apply Ab|apply Ag|apply Af)<;>intro _h)<;>simp only[push_cast,seval,reduceEqDiff,_h,f,g,l,p,q,f6,r,z])|(refine As (by omega) ?_;simp only[push_cast,seval,reduceEqDiff,f,g,l,p,q,f6,r,z])|intro _)
  exact⟨_,Ak.refl,⟨rfl,rfl,trivial⟩,λi e h=>by simp only[lk] at h⊢;grind
⟩
theorem VF{l:List Aa}(a:l.length<=4)(h:∀f∈l,f.length<=2^24):(∀e∈Fe l,0<=e.2/\e.2<=2^30)/\(Fe l).length<=4:=by
 have put:∀(m:CO) (n:Aa) (k:Int),0<=k->k<=2^30->(∀e∈m,0<=e.2/\e.2<=2^30)->(∀e∈Gw m n k,0<=e.2/\e.2<=2^30)/\(Gw m n k).length<=m.length+1:=by
  intro m n k k1 k2
  induction m with
  | nil=>intro _;simp[Gw];omega
  | cons x m c=>intro h;have q:=h x (by simp);obtain⟨d,i2⟩:=c λe i=>h e (AaC _ i);rw[Gw];grind
 have key:∀(l:List Aa) (m:CO),(∀f∈l,f.length<=2^24)->(∀e∈m,0<=e.2/\e.2<=2^30)->(∀e∈l.foldl (λm f=>Gw m (f.take 1) f.length) m,0<=e.2/\e.2<=2^30)/\(l.foldl (λm f=>Gw m (f.take 1) f.length) m).length<=m.length+l.length:=by
  intro l
  induction l with
  | nil=>intro m _ b;exact⟨b,by simp⟩
  | cons f l c=>intro m a b;have p:=a f (by simp);obtain⟨o,r⟩:=put m (f.take 1) f.length (by omega) (by omega) b;obtain⟨d,i2⟩:=c _ (λg j=>a g (AaC _ j)) o;exact⟨d,by simp only[Awx,Ah5];omega⟩
 obtain⟨k1,k2⟩:=key l [] h (by simp);exact⟨k1,by unfold Fe;simp at k2;omega⟩
theorem MP{s:Aa}{l:List Aa}(h:Cu s=some l):∀f∈l,f.length<=s.length:=by
 have key:∀(a:List Aa) (r:Aa) (out w:List Aa),Cz a r out=some w->r.length<=s.length->(∀f∈out,f.length<=s.length)->∀f∈w,f.length<=s.length:=by
  intro a
  induction a with
  | nil=>intro r out w h d c;rw[Cz] at h;grind
  | cons k a e=>intro r out w h d c;have b:=Fp r k;rw[Cz] at h;grind
 exact key CZ s [] l h (Abm _) (by simp)
theorem Agp(l:List CE)(u:Aa)(X:u.length<=2^24)(hl:l.length<=2^30)(hp:∀p∈l,p.skel.length<=2^20):An Tryz.prog W0 215 [.sl (l.map CE.enc),.s u] [] (.tup [.i .i64 (Dz l u).1,.i .i64 (Dz l u).2]) []:=by
 generalize hS:Dz l u=S;unfold Dz at hS;cases E:Cu u with
 | none=>
  have J:=J3 (WF W0 u (by omega) E);rw[E] at hS;simp only at hS;subst hS;refine Ah (vs:=[.i .i64 0,.i .i64 3]) sK (by simp) (by simp) λn0 C=>?_;clear C;simp only[push_cast,seval,reduceEqDiff];intros;refine AW J (λ_ _ h=>h) (λO v σo z x=>?_);obtain⟨rfl,rfl⟩:=x;rw[Fs];simp only[push_cast,seval,reduceEqDiff]
  repeat' (first|(((first|apply Ab|apply Ag|apply Af)<;>intro _h)<;>simp only[push_cast,seval,reduceEqDiff,_h])|(refine As (by omega) ?_;simp only[push_cast,seval,reduceEqDiff])|intro _)
  refine Ae ?_;simp[push_cast,get]
 | some w=>
  have J:=tP W0 u w (by omega) E;rw[E] at hS;simp only at hS;obtain⟨w1,H,w3⟩:=Gz E;obtain⟨m1,m2⟩:=VF H (λf L=>All (MP E f L) X);generalize Fe w=A at *;refine Ah (vs:=[.i .i64 S.1,.i .i64 S.2]) sK (by simp) (by simp) λn0 C=>?_;clear C;simp only[push_cast,seval,reduceEqDiff];intros;refine AW J (λ_ _ h=>h) (λO v σo z x=>?_);obtain⟨mid,i1,i2,rfl,rfl⟩:=x;rw[Fs];simp only[push_cast,seval,reduceEqDiff]
  repeat' (first|(((first|apply Ab|apply Ag|apply Af)<;>intro _h)<;>simp only[push_cast,seval,reduceEqDiff,_h])|(refine As (by omega) ?_;simp only[push_cast,seval,reduceEqDiff])|intro _)
  rename_i k1 k2 k3 T;have G:mid.1<O+1+k1+1+k2+1+k3+1+T:=by omega
  generalize O+1+k1+1+k2+1+k3+1+T=n1 at *;obtain⟨B,hB⟩:∃B,B=Dp A l 0 (-1) 0:=⟨_,rfl⟩
  rw[<-hB] at hS;refine Am l.length (Inv:=λm st=>∃done a n c b,l=done++a/\m=a.length/\Dp A a done.length c b=B/\mid.1<n/\st=⟨[(6,.arr mid),(8,.i .i64 c),(9,.i .i64 b),(23,.sl (l.map CE.enc)),(24,.i .i64 l.length),(25,.i .i64 done.length)],[(mid,.map (Dn A))],n⟩) ⟨_,Ak.refl,[],l,_,-1,0,rfl,rfl,hB.symm,G,rfl⟩ ?_;clear hB G;rintro m _ ⟨done,a,n,c,b,g,rfl,o,W,rfl⟩;cases a with
  | nil=>
   rw[Dp] at o;subst o;cases t:decide (c<0)
   ·rw[if_neg (of_decide_eq_false t)] at hS;subst hS;simp only[push_cast,seval,reduceEqDiff,g,t]
    repeat' (first|(((first|apply Ab|apply Ag|apply Af)<;>intro _h)<;>simp only[push_cast,seval,reduceEqDiff,_h,t])|(refine As (by omega) ?_;simp only[push_cast,seval,reduceEqDiff,t])|intro _)
    refine Ae ?_;simp[push_cast,get]
   ·rw[if_pos (of_decide_eq_true t)] at hS;subst hS;simp only[push_cast,seval,reduceEqDiff,g,t]
    repeat' (first|(((first|apply Ab|apply Ag|apply Af)<;>intro _h)<;>simp only[push_cast,seval,reduceEqDiff,_h,t])|(refine As (by omega) ?_;simp only[push_cast,seval,reduceEqDiff,t])|intro _)
    refine Ae ?_;simp[push_cast,get]
  | cons p a=>
   have V:=AH g;have M:=hp p (by rw[g];simp);rw[Dp] at o;have N:(done.length:Int)+1=((done++[p]).length:Int):=by simp
   rw[N] at o;have r:∀k j:Nat,(((n+1+k,j):Id)=mid)=False:=λk j=>eq_false λR=>by grind
   simp only[push_cast,seval,reduceEqDiff,g,Ad p (done:=done) (by omega),r];intros;cases d:Cu p.skel with
   | none=>
    rw[d] at o;simp only at o;refine AW (J3 (WF W0 p.skel (by omega) d)) (λ_ _ h=>by simp[lk] at h) (λY v σo z x=>?_);obtain⟨rfl,rfl⟩:=x;rw[pX,AqW];simp only[push_cast,seval,reduceEqDiff,g,Ad p (done:=done) (by omega),r]
    repeat' (first|(((first|apply Ab|apply Ag|apply Af)<;>intro _h)<;>simp only[push_cast,seval,reduceEqDiff,_h,g,Ad p (done:=done) (by omega),r])|(refine As (by omega) ?_;simp only[push_cast,seval,reduceEqDiff,g,Ad p (done:=done) (by omega),r])|intro _)
    exact⟨_,_,Ab3 _,Ak.drop1 (by simp only[lk];grind) (Abm _),done++[p],a,_,c,b,by simp,rfl,o,by omega,rfl⟩
   | some H=>
    rw[d] at o;simp only at o;refine AW (tP W0 p.skel H (by omega) d) (λ_ _ h=>by simp[lk] at h) (λY v σo z x=>?_);obtain⟨q,j1,j2,rfl,rfl⟩:=x;rw[pX,Ax7];obtain⟨Z,a2,a3⟩:=Gz d;obtain⟨U,b2⟩:=VF a2 (λf L=>All (MP d f L) (All M (by omega)));generalize Fe H=I at *;have F:mid≠q:=λR=>by rw[R] at W;omega
    have K:=Aj8 W0 A I mid q F m1 U (by omega);have g2:(q=mid)=False:=eq_false (AhZ F);generalize hD:KW A I=D at *;simp only[push_cast,seval,reduceEqDiff,g,Ad p (done:=done) (by omega),r];intros;refine zO K (λi e h=>?_) ?_
    ·simp only[lk] at h⊢;split at h
     ·grind
     grind
    have y:∀(k:Nat) i e,lk [(mid,Ax.map (Dn A))] i=some e->lk [(q,Ax.map (Dn I)),((n+1+k,11),Ax.box (.agg [.s p.skel,.s p.pat])),(mid,Ax.map (Dn A))] i=some e:=by
     intro k i e h;simp only[lk] at h⊢;split at h
     ·grind
     ·cases h
    cases q1:D.2<;>cases q2:decide (c<0)<;>cases q3:decide (D.1<b)
    all_goals simp only[q1,q2,q3,Auy,AuB,AtA,AvE,AwZ,Aw1,if_true,if_false,AcY,Bool.or_self] at o
    all_goals simp only[push_cast,seval,reduceEqDiff,g,Ad p (done:=done) (by omega),r,q1,q2,q3]
    all_goals repeat' (first|(((first|apply Ab|apply Ag|apply Af)<;>intro _h)<;>simp only[push_cast,seval,reduceEqDiff,_h,g,Ad p (done:=done) (by omega),r,q1,q2,q3])|(refine As (by omega) ?_;simp only[push_cast,seval,reduceEqDiff,g,Ad p (done:=done) (by omega),r,q1,q2,q3])|intro _)
    all_goals exact⟨_,_,Ab3 _,Ak.drop (y _) (Abm _),done++[p],a,_,_,_,by simp,rfl,o,by omega,rfl⟩
def TB:Nat:=98
def bS(u:Bool)(x b:Id)(l:Aa):Al:=[(x,.tbox TB (.agg [wA u x,.arr b])),(b,.arr 5 1 (Ay l))]
def BW(x:Id)(l:Aa)(r:V)(n n':Nat)(v:V)(σ':Al):Prop:=v=r/\∃a:Id,n<=a.1/\a.1<n'/\σ'=bS true x a l
theorem Un{u:Bool}{x b:Id}{l:Aa}:lk (bS u x b l) x=some (.tbox TB (.agg [wA u x,.arr b])):=by simp[bS,lk]
theorem Q2(u:Bool)(x b:Id):An Tryz.prog W0 180 [.ref x 0] [(x,.tbox TB (.agg [wA u x,.arr b]))] (.tup []) [(x,.tbox TB (.agg [.ref x 0,.arr b]))]:=by
 cases u with
 | true=>exact Vd W0
 | false=>exact Xt W0 (by kernel_rfl)
theorem LZ(u:Bool)(x b:Id)(l t:Aa)(c:b≠x)(h:l.length+t.length<=2^30):Ex Tryz.prog W0 124 [.ref x 0,.s t] (bS u x b l) (BW x (l++t) (.tup [.i .i64 t.length,.ni])):=by
 generalize v:BW x (l++t) (.tup [.i .i64 t.length,.ni])=R;refine Cc iX (by simp) λn0 a=>?_;have y:x.1<n0:=a x _ Un;have w:b.1<n0:=a b _ (by simp[bS,lk,AhZ c];rfl);clear a;have d:=Q2 W0 u x b;have g:(x=b)=False:=eq_false (AhZ c);have m:(b=x)=False:=eq_false c;simp only[push_cast,seval,reduceEqDiff,g,m,bS];intro k1;refine Bq d (λi e h=>AP (τ:=[(b,Ax.arr 5 1 (Ay l))]) h) ?_;rw[HN (λp hp=>by grind)];clear d;have o:∀k j:Nat,((n0+1+k1+1+k,j)=x)=False:=λk j=>eq_false λf=>by grind
 have q:∀k j:Nat,((n0+1+k,j)=b)=False:=λk j=>eq_false λf=>(by grind)
 have r:∀k j:Nat,(b=(n0+1+k,j))=False:=λk j=>eq_false λf=>of_eq_false (q k j) f.symm;simp only[push_cast,seval,reduceEqDiff,g,m,o,Bs];intro k2;refine As (by unfold AK;omega) ?_;simp only[push_cast,seval,reduceEqDiff,g,m,o,Bs];intro k3 z;subst v;rw[Fn];exact⟨_,Ak.refl,[.i .i64 t.length,.ni],bS true x (n0+1+k1+1+k2,14) (l++t),⟨rfl,rfl,trivial⟩,JH (AhZ (λf=>of_eq_false (o _ _) f)),rfl,_,by simp only;omega,by simp only;omega,rfl⟩
theorem Aie(u:Bool)(x b:Id)(l:Aa)(c:UInt8)(d:b≠x)(h:l.length+1<=2^30):Ex Tryz.prog W0 187 [.ref x 0,.i .u8 c.toNat] (bS u x b l) (BW x (l++[c]) .ni):=by
 generalize v:BW x (l++[c]) .ni=R;refine Cc AgX (by simp) λn0 a=>?_;have z:x.1<n0:=a x _ Un;have y:b.1<n0:=a b _ (by simp[bS,lk,AhZ d];rfl);clear a;have f:=Q2 W0 u x b;have m:(x=b)=False:=eq_false (AhZ d);have o:(b=x)=False:=eq_false d;simp only[push_cast,seval,reduceEqDiff,m,o,bS];intro k1;refine Bq f (λi e h=>AP (τ:=[(b,Ax.arr 5 1 (Ay l))]) h) ?_;rw[HN (λp hp=>by grind)];clear f;have q:∀k j:Nat,((n0+1+k1+1+k,j)=x)=False:=λk j=>eq_false λg=>by grind
 have r:∀k j:Nat,((n0+1+k,j)=b)=False:=λk j=>eq_false λg=>(by grind)
 have s:∀k j:Nat,(b=(n0+1+k,j))=False:=λk j=>eq_false λg=>of_eq_false (r k j) g.symm;have t:(l.length+1<=AK)=True:=eq_true (by unfold AK;omega);simp only[push_cast,seval,reduceEqDiff,m,o,q,Bs,t];intro k2 k3 A;subst v;have w:Ay l++[.i .u8 c.toNat]=Ay (l++[c]):=by rw[<-Fn];rfl
 rw[w];exact⟨_,Ak.refl,[.ni],bS true x (n0+1+k1+1+k2,14) (l++[c]),⟨rfl,trivial⟩,JH (AhZ (λg=>of_eq_false (q _ _) g)),rfl,_,by simp only;omega,by simp only;omega,rfl⟩
def orU(a b:Int):Int:=IntKind.u8.wrap (BitVec.ofInt 8 a ||| BitVec.ofInt 8 b).toNat
def anU(a b:Int):Int:=IntKind.u8.wrap (BitVec.ofInt 8 a &&& BitVec.ofInt 8 b).toNat
def srI(a:Int)(k:Nat):Int:=a.fdiv (2 ^ k)
def u8B(n:Int):UInt8:=UInt8.ofNat n.toNat
theorem Aom(a b:Int):Gr (.bit .or) [.i .u8 a,.i .u8 b]=some (.i .u8 (orU a b)):=rfl
theorem Agw(a b:Int):Gr (.bit .and) [.i .u8 a,.i .u8 b]=some (.i .u8 (anU a b)):=rfl
theorem TG(a b:Int)(h:0<=b):Gr (.shf .shr) [.i .i32 a,.i .u64 b]=some (.i .i32 (srI a (min b.toNat 32))):=by simp only[Gr,if_pos h];rfl
theorem Ym(n:Int):IntKind.u8.wrap n=n % 256:=by simp only[IntKind.wrap,IntKind.bits,IntKind.signed];simp
theorem Age(a b:Int):0<=orU a b/\orU a b<256:=by unfold orU;rw[Ym];omega
theorem Aqw{n:Int}(h:0<=n/\n<256):V.i .u8 n=.i .u8 ((u8B n).toNat:Int):=by unfold u8B;congr 1;rw[UInt8.toNat_ofNat'];omega
def u8(r:Int):Int:=IntKind.u8.wrap r
def mP(r:Int)(k:Nat):Int:=orU 128 (anU (u8 (srI r k)) 63)
def eX(r:Int):Int:=orU 128 (anU (u8 r) 63)
def JA(r:Int):List Int:=
 if decide (IntKind.u32.wrap r<=127) then[u8 r]
 else if decide (IntKind.u32.wrap r<=2047) then[orU 192 (u8 (srI r 6)),eX r]
 else if decide (IntKind.u32.wrap r<55296)||decide (57343<IntKind.u32.wrap r)&&decide (IntKind.u32.wrap r<=65535) then[orU 224 (u8 (srI r 12)),mP r 6,eX r]
 else if decide (IntKind.u32.wrap r>65535)&&decide (IntKind.u32.wrap r<=1114111) then[orU 240 (u8 (srI r 18)),mP r 12,mP r 6,eX r]
 else[239,191,189]
def Cr(r:Int):Aa:=(JA r).map u8B
theorem rP(r:Int):∀n∈JA r,0<=n/\n<256:=by
 have b:=Age;unfold JA;split
 ·intro n a;simp at a;subst a;unfold u8;rw[Ym];omega
 ·split
  ·intro n a;simp at a;rcases a with rfl|rfl<;>exact b _ _
  ·split
   ·intro n a;simp at a;rcases a with rfl|rfl|rfl<;>exact b _ _
   ·split
    ·intro n a;simp at a;rcases a with rfl|rfl|rfl|rfl<;>exact b _ _
    grind
theorem KH(r:Int):1<=(Cr r).length/\(Cr r).length<=4:=by unfold Cr JA;grind
theorem Adu(r:Int):(JA r).map (V.i .u8)=Ay (Cr r):=by unfold Cr Ay;rw[Ax0];exact AvV λn a=>Aqw (rP r n a)
def U4(l:Aa)(n n':Nat)(v:V)(σ':Al):Prop:=∃a:Id,n<=a.1/\a.1<n'/\v=.arr a/\σ'=[(a,.arr 5 1 (Ay l))]
theorem tT(b:Id)(l:Aa)(r:Int)(u:l.length<=2^30)(s:decide (IntKind.u32.wrap r<=127)=false):Ex Tryz.prog W0 318 [.arr b,.i .i32 r] [(b,.arr 5 1 (Ay l))] (U4 (l++Cr r)):=by
 have t:Ay (l++Cr r)=Ay l++(JA r).map (V.i .u8):=by rw[Adu,<-Fn]
 generalize e:U4 (l++Cr r)=R;unfold U4 at e;rw[t] at e;generalize hS:JA r=S at e;unfold JA at hS;rw[s] at hS;have q1:=λa b=>Aom a b;have q2:=λa b=>Agw a b;have q:=TG r 6 (by omega);have c:=TG r 12 (by omega);have d:=TG r 18 (by omega);have k:(l.length+2<=AK)=True:=eq_true (by unfold AK;omega);have m:(l.length+3<=AK)=True:=eq_true (by unfold AK;omega);have o:(l.length+4<=AK)=True:=eq_true (by unfold AK;omega);refine Cc Aim (by simp) λn0 p=>?_;clear p;cases k1:decide (IntKind.u32.wrap r<=2047)<;>cases k2:decide (IntKind.u32.wrap r<55296)<;>cases k3:decide (57343<IntKind.u32.wrap r)<;>cases f:decide (IntKind.u32.wrap r<=65535)<;>cases g:decide (IntKind.u32.wrap r>65535)<;>cases j:decide (IntKind.u32.wrap r<=1114111)
 all_goals simp only[k1,k2,k3,f,g,j,Auy,AuB,AtA,AvE,AwZ,Aw1,if_true,if_false,AcY,Bool.or_self] at hS
 all_goals subst hS
 all_goals simp only[push_cast,seval,reduceEqDiff,q1,q2,q,c,d,k,m,o,Bs,k1,k2,k3,f,g,j]
 all_goals repeat' (first|(((first|apply Ab|apply Ag|apply Af)<;>intro _h)<;>simp only[push_cast,seval,reduceEqDiff,_h,q1,q2,q,c,d,k,m,o,Bs,k1,k2,k3,f,g,j])|(refine As (by omega) ?_;simp only[push_cast,seval,reduceEqDiff,q1,q2,q,c,d,k,m,o,Bs,k1,k2,k3,f,g,j])|intro _)
 all_goals (first|(intros;subst e;exact⟨_,Ak.refl,[.arr _],[_],⟨rfl,trivial⟩,λ_ _ h=>h,_,by simp only;omega,by simp only;omega,rfl,rfl⟩)|skip)
theorem aL(b:Id)(l:Aa)(r:Int)(t:l.length<=2^30):Ex Tryz.prog W0 287 [.arr b,.i .i32 r] [(b,.arr 5 1 (Ay l))] (U4 (l++Cr r)):=by
 cases a:decide (IntKind.u32.wrap r<=127) with
 | true=>
  have x:Ay (l++Cr r)=Ay l++[.i .u8 (IntKind.u8.wrap r)]:=by rw[<-Fn,<-Adu];unfold JA;rw[a];rfl
  generalize d:U4 (l++Cr r)=R;unfold U4 at d;rw[x] at d;have g:(l.length+1<=AK)=True:=eq_true (by unfold AK;omega);refine Cc o5 (by simp) λn0 f=>?_;clear f;simp only[push_cast,seval,reduceEqDiff,g,Bs,a]
  repeat' (first|(((first|apply Ab|apply Ag|apply Af)<;>intro _h)<;>simp only[push_cast,seval,reduceEqDiff,_h,g,Bs,a])|(refine As (by omega) ?_;simp only[push_cast,seval,reduceEqDiff,g,Bs,a])|intro _)
  subst d;exact⟨_,Ak.refl,[.arr _],[_],⟨rfl,trivial⟩,λ_ _ h=>h,_,by simp only;omega,by simp only;omega,rfl,rfl⟩
 | false=>
  have q:=tT W0 b l r t a;generalize d:U4 (l++Cr r)=R;rw[d] at q;have j:∀n n' v σ',R n n' v σ'->∀m o,m<=n->n'<=o->R m o v σ':=by rw[<-d];rintro n n' v σ' ⟨c,y,i2,h⟩ m o z w;exact⟨c,by omega,by omega,h⟩
  have k:∀n n' v σ',R n n' v σ'->∃c,v=.arr c/\∃e,σ'=[(c,e)]:=by rw[<-d];rintro n n' v σ' ⟨c,y,i2,a,s⟩;exact⟨c,a,_,s⟩
  refine Cc o5 (by simp) λn0 f=>?_;clear f;simp only[push_cast,seval,reduceEqDiff,a]
  repeat' (first|(((first|apply Ab|apply Ag|apply Af)<;>intro _h)<;>simp only[push_cast,seval,reduceEqDiff,_h,a])|(refine As (by omega) ?_;simp only[push_cast,seval,reduceEqDiff,a])|intro _)
  refine AW q (λ_ _ h=>h) (λA v σo u p=>?_);rw[Fs];obtain⟨c,rfl,e,rfl⟩:=k _ _ _ _ p;simp only[push_cast,seval,reduceEqDiff,a]
  repeat' (first|(((first|apply Ab|apply Ag|apply Af)<;>intro _h)<;>simp only[push_cast,seval,reduceEqDiff,_h,a])|(refine As (by omega) ?_;simp only[push_cast,seval,reduceEqDiff,a])|intro _)
  exact⟨_,Ak.refl,[.arr c],[(c,e)],⟨rfl,trivial⟩,λ_ _ h=>h,j _ _ _ _ p _ _ (by omega) (by simp only;omega)⟩
theorem AhJ(u:Bool)(x b:Id)(l:Aa)(r:Int)(d:b≠x)(h:l.length<=2^29):Ex Tryz.prog W0 238 [.ref x 0,.i .i32 r] (bS u x b l) (BW x (l++Cr r) (.tup [.i .i64 ((Cr r).length:Nat),.ni])):=by
 have B:=KH r;generalize z:BW x (l++Cr r) (.tup [.i .i64 ((Cr r).length:Nat),.ni])=R;refine Cc Ajy (by simp) λn0 c=>?_;have F:x.1<n0:=c x _ Un;have D:b.1<n0:=c b _ (by simp[bS,lk,AhZ d];rfl);clear c;have f:=Q2 W0 u x b;have j:(x=b)=False:=eq_false (AhZ d);have o:(b=x)=False:=eq_false d;simp only[push_cast,seval,reduceEqDiff,j,o,bS,Bs];intro k1;refine Bq f (λi e h=>AP (τ:=[(b,Ax.arr 5 1 (Ay l))]) h) ?_;rw[HN (λp hp=>by grind)];clear f;simp only[push_cast,seval,reduceEqDiff,j,o,bS,Bs];intros;refine AW (aL W0 b l r (by omega)) (λi e h=>by
  simp only[lk] at h⊢;split at h
  ·rename_i w;subst w;simp only[j,if_false,if_true];exact h
  ·cases h) (λG v σo A y=>?_)
 obtain⟨a,s,i2,rfl,rfl⟩:=y;have k:over [(b,Ax.arr 5 1 (Ay l))] [(a,Ax.arr 5 1 (Ay (l++Cr r)))] [(x,Ax.tbox TB (.agg [.ref x 0,.arr b])),(b,Ax.arr 5 1 (Ay l))]=[(a,Ax.arr 5 1 (Ay (l++Cr r))),(x,Ax.tbox TB (.agg [.ref x 0,.arr b]))]:=by have:=Eq (σi:=[(b,Ax.arr 5 1 (Ay l))]) (σo:=[(a,Ax.arr 5 1 (Ay (l++Cr r)))]) (pre:=[(x,Ax.tbox TB (.agg [.ref x 0,.arr b]))]) (λp hp q E=>by grind);simpa using this
 rw[k];have t:(a=x)=False:=eq_false λg=>by rw[g] at s;omega
 have m:(x=a)=False:=eq_false λg=>by rw[<-g] at s;omega
 have C:IntKind.i64.wrap (((l++Cr r).length:Nat)-(l.length:Int))=((Cr r).length:Nat):=by rw[Agz,wrap64 (by omega) (by omega)];omega
 simp only[push_cast,seval,reduceEqDiff,t,m,Bs,C];intros;subst z;exact⟨_,Ak.refl,[.i .i64 ((Cr r).length:Nat),.ni],bS true x a (l++Cr r),⟨rfl,rfl,trivial⟩,JH (λg=>of_eq_false m g),rfl,a,by omega,by simp only;omega,rfl⟩
theorem Ak.bld{W0:World}{nt n:Nat}{env:AE}{τ:Al}{x:Id}(f:x.1<n):Ak W0 nt ⟨env,(x,.tbox TB (.agg [.np,.nil]))::τ,n⟩ ⟨env,bS false x (n,0) []++τ,n+1⟩:=by
 have a:((n,0):Id)≠x:=λd=>by grind
 refine(Ak.ownTbox (A:=[.np]) (B:=[]) 5 1 0).trans (Ak.drop (λi e h=>?_) (Abm _));simp only[bS,Anz,AqW,lk] at h⊢;by_cases b:x=i
 ·subst b;rw[if_pos rfl] at h;rw[if_neg a,if_pos rfl];exact h
 ·rw[if_neg b] at h;by_cases c:((n,0):Id)=i
  ·rw[if_pos c] at h⊢;exact h
  grind
theorem UG(u:Bool)(x b:Id)(l:Aa)(a:b≠x)(c:l.length<=2^30):An Tryz.prog W0 45 [.ref x 0] (bS u x b l) (.s l) [(x,.tbox TB (.agg [wA u x,.arr b]))]:=
 OB W0 (T:=TB) (r:=[]) a (by unfold AA;omega)
theorem Pt{u d:Bool}{x b a:Id}{l c:Aa}{τ:Al}(f:∀p∈τ,p.1≠x/\p.1≠b):over (bS u x b l) (bS d x a c) (bS u x b l++τ)=bS d x a c++τ:=by
 have:=H5 (σi:=bS u x b l) (σo:=bS d x a c) (pre:=[]) (post:=τ) (λp hp=>by cases hp) (λp hp q e=>by simp[bS] at e;grind
)
 simpa using this
theorem Qs{u:Bool}{x b:Id}{l:Aa}{τ:Al}:∀i e,lk (bS u x b l) i=some e->lk (bS u x b l++τ) i=some e:=λi e h=>AP h
def Hh(n:Int):Bool:=decide (n>=0)&&(decide (n<=1114111)&&(decide (n<55296)||decide (n>57343)))
theorem AbM(n:Int):An Tryz.prog W0 237 [.i .i64 n] [] (.b (Hh n)) []:=by
 generalize hS:Hh n=S;unfold Hh at hS;refine Ah (vs:=[.b S]) Ain (by simp) (by simp) λn0 f=>?_;clear f;simp only[push_cast,seval,reduceEqDiff];cases a:decide (n>=0)<;>cases c:decide (n<=1114111)<;>cases d:decide (n<55296)<;>cases e:decide (n>57343)
 all_goals simp only[a,c,d,e,Auy,AuB,AtA,AvE,AwZ,Aw1,Bool.or_self] at hS
 all_goals subst hS
 all_goals simp only[push_cast,seval,reduceEqDiff,a,c,d,e]
 all_goals repeat' (first|(((first|apply Ab|apply Ag|apply Af)<;>intro _h)<;>simp only[push_cast,seval,reduceEqDiff,_h,a,c,d,e])|(refine As (by omega) ?_;simp only[push_cast,seval,reduceEqDiff,a,c,d,e])|intro _)
 all_goals exact Ai (by simp[get])
def QL(c:Int):Bool:=decide (c>=8294)&&decide (c<=8296)
theorem QB(c:Int):An Tryz.prog W0 240 [.i .i64 c] [] (.b (QL c)) []:=by
 generalize hS:QL c=S;unfold QL at hS;refine Ah (vs:=[.b S]) AkJ (by simp) (by simp) λn0 e=>?_;clear e;simp only[push_cast,seval,reduceEqDiff];cases a:decide (c>=8294)<;>cases d:decide (c<=8296)
 all_goals simp only[a,d,Auy,AuB,AtA,AvE] at hS
 all_goals subst hS
 all_goals simp only[push_cast,seval,reduceEqDiff,a,d]
 all_goals repeat' (first|(((first|apply Ab|apply Ag|apply Af)<;>intro _h)<;>simp only[push_cast,seval,reduceEqDiff,_h,a,d])|(refine As (by omega) ?_;simp only[push_cast,seval,reduceEqDiff,a,d])|intro _)
 all_goals exact Ai (by simp[get])
def FE(s:Aa):Nat->Nat->List Int
 | 0,_=>[]
 | n+1,p=>if p<s.length then(Utf8.decode ⟨s.toArray⟩ p).1::FE s n (p+(Utf8.decode ⟨s.toArray⟩ p).2) else[]
def MF(s:Aa):List Int:=FE s s.length 0
def FK(l:List Int):Aa:=l.flatMap λn=>Cr (IntKind.i32.wrap (if Hh n then n else 65533))
theorem U7(s:Aa):∀(n m p:Nat),s.length<=n+p->s.length<=m+p->FE s n p=FE s m p:=by
 intro n
 induction n with
 | zero=>
  intro m p a b;cases m with
  | zero=>rfl
  | succ m=>rw[FE,FE,if_neg (by omega)]
 | succ n c=>
  intro m p a b;cases m with
  | zero=>grind
  | succ m=>
   rw[FE,FE];split
   ·rename_i hp;have:=Lib.decode_width_pos ⟨s.toArray⟩ p (by simpa[ByteArray.size] using hp);grind
   ·rfl
theorem Ol(s:Aa):∀(n p:Nat),(FE s n p).length<=n:=by
 intro n
 induction n with
 | zero=>intro p;simp[FE]
 | succ n a=>intro p;rw[FE];grind
theorem cM(l:List Int):(FK l).length<=4*l.length:=by
 induction l with
 | nil=>simp[FK]
 | cons n l a=>have h:=KH (IntKind.i32.wrap (if Hh n then n else 65533));have:FK (n::l)=Cr (IntKind.i32.wrap (if Hh n then n else 65533))++FK l:=rfl;grind
theorem AlP(l:List Int):∀y∈l.map (V.i .i64),y.ok=true:=by intro y a;obtain⟨x,_,rfl⟩:=Alx.1 a;rfl
theorem nM(s:Aa)(C:s.length<=2^28):An Tryz.prog W0 239 [.s s] [] (.sl ((MF s).map (V.i .i64))) []:=by
 generalize hS:MF s=S;unfold MF at hS;refine Ah (vs:=[.sl (S.map (V.i .i64))]) Ai4 (by simp) (by simp) λn0 o=>?_;clear o;simp only[push_cast,seval,reduceEqDiff]
 repeat' (first|(((first|apply Ab|apply Ag|apply Af)<;>intro _h)<;>simp only[push_cast,seval,reduceEqDiff,_h])|(refine As (by omega) ?_;simp only[push_cast,seval,reduceEqDiff])|intro _)
 rename_i k1 k2 k3;generalize x:((n0+1+k1+1+k2,7):Id)=c;have b:c.1<n0+1+k1+1+k2+1+k3:=by grind
 generalize n0+1+k1+1+k2+1+k3=v at *;refine Am s.length (Inv:=λm st=>∃n p id out,m=s.length-p/\out++FE s (s.length-p) p=S/\out.length<=p/\out.length<=s.length/\c.1<id.1/\id.1<n/\st=⟨[(3,.arr id),(7,.arr c)],[(id,.arr 3 1 (out.map (V.i .i64))),(c,.it s p)],n⟩) ⟨_,(Ak.own (s:=3) (e:=3) (sz:=1) (k:=0) rfl).trans (Ak.envD (env':=[(3,.arr (v,0)),(7,.arr c)]) (λt=>?_) (Abm _)),_,0,(v,0),[],rfl,hS,Abm _,Alq _,b,Ab3 _,rfl⟩ ?_
 ·left;simp only[get];grind
 clear hS b;rintro m _ ⟨n,p,id,out,rfl,g,B,z,b,w,rfl⟩;have f:(id=c)=False:=eq_false λl=>by rw[l] at b;omega
 have d:(c=id)=False:=eq_false λl=>by rw[l] at b;omega
 by_cases hp:p<s.length
 ·have u:=Lib.decode_width_pos ⟨s.toArray⟩ p (by simpa[ByteArray.size] using hp);have a:(p<s.length)=True:=eq_true hp;obtain⟨q,A⟩:∃q,s.length-p=q+1:=⟨s.length-p-1,by omega⟩
  rw[A,FE,if_pos hp] at g;rw[U7 s q (s.length-(p+(Utf8.decode ⟨s.toArray⟩ p).2)) _ (by omega) (by omega)] at g;have y:=decode_le ⟨s.toArray⟩ p;generalize h:Utf8.decode ⟨s.toArray⟩ p=D at *;have j:(out.length+1<=AK)=True:=eq_true (by unfold AK;omega);have r:IntKind.i64.wrap (D.1:Int)=(D.1:Int):=wrap64 (by omega) (by omega);simp only[push_cast,seval,reduceEqDiff,a,h,f,d,j,r,Acr]
  repeat' (first|(((first|apply Ab|apply Ag|apply Af)<;>intro _h)<;>simp only[push_cast,seval,reduceEqDiff,_h,a,h,f,d,j,r,Acr])|(refine As (by omega) ?_;simp only[push_cast,seval,reduceEqDiff,a,h,f,d,j,r,Acr])|intro _)
  rw[EX];exact⟨_,_,by omega,Ak.refl,_,p+D.2,_,out++[(D.1:Int)],rfl,by grind,by simp;omega,by simp;omega,by simp only;omega,by simp only;omega,rfl⟩
 ·have a:(p<s.length)=False:=eq_false hp;rw[show s.length-p=0 by omega,FE,Ary] at g;subst g;simp only[push_cast,seval,reduceEqDiff,a,f,d];intros;refine Ha (Ak.frzAt (s:=3) (id:=id) rfl (by simp[lk,d]) (AlP out) (Abm _)) ?_;simp only[push_cast,seval,reduceEqDiff,a,f,d];intros;exact Ai (by simp[get])
theorem p6(l:List Int)(F:l.length<=2^26):An Tryz.prog W0 181 [.sl (l.map (V.i .i64))] [] (.s (FK l)) []:=by
 generalize hS:FK l=S;refine Ah (vs:=[.s S]) AkN (by simp) (by simp) λn0 o=>?_;clear o;simp only[push_cast,seval,reduceEqDiff]
 repeat' (first|(((first|apply Ab|apply Ag|apply Af)<;>intro _h)<;>simp only[push_cast,seval,reduceEqDiff,_h])|(refine As (by omega) ?_;simp only[push_cast,seval,reduceEqDiff])|intro _)
 rename_i k1 k2 k3;generalize G:((n0+1+k1,3):Id)=x;have e:x.1<n0+1+k1+1+k2+1+k3:=by grind
 generalize n0+1+k1+1+k2+1+k3=E at *;refine Am l.length (Inv:=λm st=>∃done a n u b out,l=done++a/\m=a.length/\out++FK a=S/\out.length+4*a.length<=2^28/\x.1<b.1/\b.1<n/\st=⟨[(3,.ref x 0),(6,.sl (l.map (V.i .i64))),(7,.i .i64 l.length),(8,.i .i64 done.length)],bS u x b out,n⟩) ⟨_,Ak.bld e,[],l,_,false,(E,0),[],rfl,rfl,hS,by simp;omega,e,Ab3 _,by simp⟩ ?_;clear hS e;rintro m _ ⟨done,a,n,u,b,out,d,rfl,g,w,j,A,rfl⟩;have f:b≠x:=λC=>by rw[C] at j;omega
 cases a with
 | nil=>simp only[FK,List.flatMap_nil,Ary] at g;subst g;have r:=UG W0 u x b out f (by omega);simp only[push_cast,seval,reduceEqDiff,d];intros;refine Bq r (λ_ _ h=>h) ?_;simp only[push_cast,seval,reduceEqDiff];intros;exact Ai (by simp[get])
 | cons c a=>
  have B:=AH d;have p:=AbM W0 c;have k:out++(Cr (IntKind.i32.wrap (if Hh c then c else 65533))++FK a)=S:=g;clear g;generalize Hh c=t at *;have q:=KH (IntKind.i32.wrap (if t then c else 65533));cases t
  all_goals simp only[if_true,if_false,AcY] at k q
  all_goals simp only[push_cast,seval,reduceEqDiff,d,Ad c (done:=done) (by omega)]
  all_goals repeat' (first|(((first|apply Ab|apply Ag|apply Af)<;>intro _h)<;>simp only[push_cast,seval,reduceEqDiff,_h,d,Ad c (done:=done) (by omega)])|((first|refine Ac (by exact p) ?_|refine As (by omega) ?_);simp only[push_cast,seval,reduceEqDiff,d,Ad c (done:=done) (by omega)])|intro _)
  all_goals (refine AW (AhJ W0 u x b out _ f (by simp at w;omega)) (λ_ _ h=>h) (λI v σo D z=>?_))
  all_goals (obtain⟨rfl,y,H,i2,rfl⟩:=z)
  all_goals rw[Fs]
  all_goals simp only[push_cast,seval,reduceEqDiff,d,Ad c (done:=done) (by omega)]
  all_goals repeat' (first|(((first|apply Ab|apply Ag|apply Af)<;>intro _h)<;>simp only[push_cast,seval,reduceEqDiff,_h,d,Ad c (done:=done) (by omega)])|(refine As (by omega) ?_;simp only[push_cast,seval,reduceEqDiff,d,Ad c (done:=done) (by omega)])|intro _)
  all_goals exact⟨_,_,Ab3 _,Ak.refl,done++[c],a,_,true,y,_,by simp,rfl,by grind,by simp at w⊢;omega,by omega,by omega,rfl⟩
def Es:List Int->List Bool->Int->Aa->Aa×Int
 | [],_,k,out=>(out,k)
 | c::r,a,k,out=>
  if QL c then(if decide (k<8) then Es r (a++[true]) (k+1) (out++FK [c]) else Es r (a++[false]) k out)
  else if c==8297 then(match a.getLast? with
   | none=>Es r a k out
   | some true=>Es r a.dropLast (k-1) (out++FK [c])
   | some false=>Es r a.dropLast k out)
  else Es r a k (out++FK [c])
def Hl:Nat->Aa
 | 0=>[]
 | n+1=>FK [8297]++Hl n
def TO(s:Aa):Aa:=(Es (MF s) [] 0 []).1++Hl (Es (MF s) [] 0 []).2.toNat
theorem Pv(c:Int):An Tryz.prog W0 181 [.sl [.i .i64 c]] [] (.s (FK [c])) []:=p6 W0 [c] (by simp)
theorem Ew(c:Int):(FK [c]).length<=4:=cM [c]
theorem Q4{u:Bool}{x b a:Id}{out:Aa}{E:Ax}(c:a≠x)(d:a≠b):∀i e,lk (bS u x b out++[(a,E)]) i=some e->lk ((a,E)::bS u x b out) i=some e:=by intro i e h;simp only[bS,Anz,AqW,lk] at h⊢;grind
theorem RL{u e:Bool}{x b c a:Id}{l d:Aa}{E:Ax}(g:a≠x)(h:a≠b):over (bS u x b l) (bS e x c d) ((a,E)::bS u x b l)=bS e x c d++[(a,E)]:=by
 have:=Eq (σi:=bS u x b l) (σo:=bS e x c d) (pre:=[(a,E)]) (λp hp q f=>by simp at hp;subst hp;simp[bS] at f;grind
)
 simpa using this
theorem Yn{u:Bool}{x b a:Id}{l:Aa}{E:Ax}(c:a≠x)(d:a≠b):∀i e,lk (bS u x b l) i=some e->lk ((a,E)::bS u x b l) i=some e:=by intro i e h;simp only[lk];rw[if_neg,<-h];rintro rfl;simp[bS,lk,AhZ c,AhZ d] at h
set_option maxHeartbeats 4000000 in
theorem Zo(s:Aa)(hs:s.length<=2^24):An Tryz.prog W0 182 [.s s] [] (.s (TO s)) []:=by
 have am:=Ol s s.length 0;have al:=nM W0 s (by omega);generalize hS:TO s=S;unfold TO at hS;have aP:(MF s).length<=2^24:=by unfold MF;omega
 generalize MF s=D at *;generalize hB:Es D [] 0 []=B at hS;refine Ah (vs:=[.s S]) Ahp (by simp) (by simp) λn0 aG=>?_;clear aG;simp only[push_cast,seval,reduceEqDiff];have _h:=trivial;repeat' (first|(first|((first|apply Ab|apply Ag|apply Af)<;>intro _h)|refine Ac al ?_|refine As (by omega) ?_)<;>simp only[push_cast,seval,reduceEqDiff,_h]|intro _)
 rename_i k1 k2 k3 k4 k5;generalize hx:((n0+1+k1,3):Id)=x;have af:x.1<n0+1+k1+1+k2+1+k3+1+k4+1+k5:=by grind
 generalize n0+1+k1+1+k2+1+k3+1+k4+1+k5=n1 at *;refine Am D.length (Inv:=λm st=>∃done a n u b out G k g,D=done++a/\m=a.length/\Es a G k out=B/\-(done.length:Int)<=k/\k<=8/\G.length<=done.length/\out.length+4*a.length<=2^26/\x.1<b.1/\x.1<g.1/\g≠b/\b.1<n/\g.1<n/\st=⟨[(3,.ref x 0),(4,.arr g),(5,.i .i64 k),(11,.sl (D.map (V.i .i64))),(12,.i .i64 D.length),(13,.i .i64 done.length)],bS u x b out++[(g,.arr 4 1 (G.map V.b))],n⟩) ⟨_,((Ak.bld (τ:=[]) af).trans (Ak.own (s:=4) (e:=4) (sz:=1) (k:=0) rfl)).trans ((Ak.envD (env':=[(3,.ref x 0),(4,.arr (n1+1,0)),(5,.i .i64 0),(11,.sl (D.map (V.i .i64))),(12,.i .i64 D.length),(13,.i .i64 0)]) (λt=>?_) (Abm _)).trans (Ak.drop (σ':=bS false x (n1,0) []++[((n1+1,0),.arr 4 1 [])]) (Q4 (λr=>by grind) (by simp)) (Abm _))),[],D,_,false,(n1,0),[],[],0,(n1+1,0),rfl,rfl,hB,by simp,by omega,Abm _,by simp;omega,af,by simp only;omega,by simp,by simp only;omega,by simp only;omega,rfl⟩ ?_
 ·left;simp only[get];grind
 clear hB af;rintro m _ ⟨done,a,n,u,b,out,G,k,g,l,rfl,d,q1,q2,q3,q4,Y,q6,q7,q8,q9,rfl⟩;have o:b≠x:=λr=>by rw[r] at Y;omega
 have ae:g≠x:=λr=>by rw[r] at q6;omega
 cases a with
 | nil=>
  rw[Es] at d;subst d;simp only at hS;have aF:D.length=done.length:=by rw[l];simp
  have E:(x=b)=False:=eq_false (AhZ o);have F:(b=x)=False:=eq_false o;simp only[push_cast,seval,reduceEqDiff,l];intros;rename_i j2 j1;have ak:b.1<n+1+j2+1+j1:=by omega
  generalize n+1+j2+1+j1=n2 at *;have aH:out.length<=2^26:=by omega
  clear l aF q1 q3 q4 q6 q7 q8 q9 ae;refine Am k.toNat (Inv:=λm st=>∃n u b out j,m=(k-j).toNat/\0<=j/\j<=8/\out++Hl (k-j).toNat=S/\(out.length:Int)<=2^26+4*j/\x.1<b.1/\b.1<n/\st=⟨[(3,.ref x 0),(56,.i .i64 k),(57,.i .i64 j)],bS u x b out,n⟩) ⟨_,Ak.pre (Abm _),_,u,b,out,0,by simp,by omega,by omega,by simpa using hS,by omega,Y,ak,rfl⟩ ?_;clear hS ak aH Y E F o;rintro m _ ⟨n,u,b,out,j,rfl,j1,j2,d,ho,Y,q8,rfl⟩;have o:b≠x:=λr=>by rw[r] at Y;omega
  cases W:decide (j<k) with
  | true=>
   have aE:=of_decide_eq_true W;have w:=Pv W0 8297;have aC:=Ew 8297;obtain⟨q,hq⟩:∃q,(k-j).toNat=q+1:=⟨(k-j).toNat-1,by omega⟩
   rw[hq,Hl,<-AvS] at d;generalize FK [8297]=A at *;have Z:IntKind.i64.wrap (j+1)=j+1:=by rw[wrap64 (by omega) (by omega)]
   simp only[push_cast,seval,reduceEqDiff,W,Z];have _h:=trivial;repeat' (first|(first|((first|apply Ab|apply Ag|apply Af)<;>intro _h)|refine Ac w ?_|refine As (by omega) ?_)<;>simp only[push_cast,seval,reduceEqDiff,_h,W,Z]|intro _)
   refine AW (LZ W0 u x b out A o (by omega)) (λ_ _ h=>h) (λn2 v σo ad hQ=>?_);obtain⟨rfl,H,i1,i2,rfl⟩:=hQ;rw[Fs];simp only[push_cast,seval,reduceEqDiff,W,Z]
   repeat' (first|(((first|apply Ab|apply Ag|apply Af)<;>intro _h)<;>simp only[push_cast,seval,reduceEqDiff,_h,W,Z])|(refine As (by omega) ?_;simp only[push_cast,seval,reduceEqDiff,W,Z])|intro _)
   exact⟨q,_,by omega,Ak.refl,_,true,H,out++A,j+1,by omega,by omega,by omega,by grind,by simp;omega,by omega,by omega,rfl⟩
  | false=>have aE:=of_decide_eq_false W;rw[show(k-j).toNat=0 by omega,Hl,Ary] at d;subst d;have aI:=UG W0 u x b out o (by omega);simp only[push_cast,seval,reduceEqDiff,W];intros;refine Bq aI (λ_ _ h=>h) ?_;simp only[push_cast,seval,reduceEqDiff,W];intros;exact Ai (by simp[get])
 | cons c a=>
  have aQ:=AH l;have y:=QB W0 c;have w:=Pv W0 c;have aC:=Ew c;rw[Es] at d;generalize FK [c]=A at *;have E:(x=b)=False:=eq_false (AhZ o);have F:(b=x)=False:=eq_false o;have O:(x=g)=False:=eq_false (AhZ ae);have R:(g=x)=False:=eq_false ae;have T:(b=g)=False:=eq_false (AhZ q7);have f6:(g=b)=False:=eq_false q7;simp only[Ah5] at q4;cases hI:QL c with
  | true=>
   rw[hI] at d y;simp only[if_true] at d;have hL:(G.length+1<=AK)=True:=eq_true (by unfold AK;omega);cases hK:decide (k<8) with
   | true=>
    rw[hK] at d;simp only[if_true] at d;have aR:=of_decide_eq_true hK;have Z:IntKind.i64.wrap (k+1)=k+1:=by rw[wrap64 (by omega) (by omega)]
    simp only[push_cast,seval,reduceEqDiff,l,Ad c (done:=done) (by omega),bS,E,F,O,R,T,f6,hL,Z,hK,Acr,Anz,AqW];have _h:=trivial;repeat' (first|(first|((first|apply Ab|apply Ag|apply Af)<;>intro _h)|refine Ac y ?_|refine Ac w ?_|refine As (by omega) ?_)<;>simp only[push_cast,seval,reduceEqDiff,_h,l,Ad c (done:=done) (by omega),bS,E,F,O,R,T,f6,hL,Z,hK,Acr,Anz,AqW]|intro _)
    rename_i X M L K j3 j2 j1 j0;generalize z:((n+1+X+1+M+1+L+1+K,25):Id)=f;have U:f≠x:=λr=>by grind
    have I:f≠b:=λr=>by grind
    have g3:x.1<f.1:=by grind
    have g4:f.1<n+1+X+1+M+1+L+1+K+1:=by grind
    clear z;refine AW (σi:=bS u x b out) (LZ W0 u x b out A o (by omega)) (Yn U I) (λn2 v σo ad hQ=>?_);obtain⟨rfl,H,i1,i2,rfl⟩:=hQ;have J:over (bS u x b out) (bS true x H (out++A)) [(f,Ax.arr 4 1 (List.map V.b G++[V.b true])),(x,Ax.tbox TB (.agg [wA u x,.arr b])),(b,Ax.arr 5 1 (Ay out))]=bS true x H (out++A)++[(f,Ax.arr 4 1 ((G++[true]).map V.b))]:=by rw[<-EX];exact RL U I
    rw[J];clear J;simp only[push_cast,seval,reduceEqDiff,l,Ad c (done:=done) (by omega)]
    repeat' (first|(((first|apply Ab|apply Ag|apply Af)<;>intro _h)<;>simp only[push_cast,seval,reduceEqDiff,_h,l,Ad c (done:=done) (by omega)])|(refine As (by omega) ?_;simp only[push_cast,seval,reduceEqDiff,l,Ad c (done:=done) (by omega)])|intro _)
    exact⟨_,_,Ab3 _,Ak.refl,done++[c],a,_,true,H,out++A,G++[true],k+1,f,by simp,rfl,d,by simp;omega,by omega,by simp;omega,by simp;omega,by omega,g3,λr=>by rw[<-r] at i1;omega,by omega,by omega,rfl⟩
   | false=>
    rw[hK] at d;simp only[if_false,AcY] at d;simp only[push_cast,seval,reduceEqDiff,l,Ad c (done:=done) (by omega),bS,E,F,O,R,T,f6,hL,hK,Acr,Anz,AqW];have _h:=trivial;repeat' (first|(first|((first|apply Ab|apply Ag|apply Af)<;>intro _h)|refine Ac y ?_|refine Ac w ?_|refine As (by omega) ?_)<;>simp only[push_cast,seval,reduceEqDiff,_h,l,Ad c (done:=done) (by omega),bS,E,F,O,R,T,f6,hL,hK,Acr,Anz,AqW]|intro _)
    rename_i M L K j3 j2 j1 j0;generalize z:((n+1+M+1+L+1+K+1+j3,25):Id)=f;have U:f≠x:=λr=>by grind
    have I:f≠b:=λr=>by grind
    have g3:x.1<f.1:=by grind
    have g4:f.1<n+1+M+1+L+1+K+1+j3+1:=by grind
    clear z;rw[EX];exact⟨_,_,Ab3 _,Ak.drop (σ':=bS u x b out++[(f,Ax.arr 4 1 ((G++[false]).map V.b))]) (Q4 U I) (Abm _),done++[c],a,_,u,b,out,G++[false],k,f,by simp,rfl,d,by simp;omega,q2,by simp;omega,by omega,Y,g3,I,by omega,by omega,rfl⟩
  | false=>
   rw[hI] at d y;simp only[if_false,AcY] at d;cases C:(c==8297) with
   | false=>
    rw[C] at d;simp only[if_false,AcY] at d;simp only[push_cast,seval,reduceEqDiff,l,Ad c (done:=done) (by omega),C];have _h:=trivial;repeat' (first|(first|((first|apply Ab|apply Ag|apply Af)<;>intro _h)|refine Ac y ?_|refine Ac w ?_|refine As (by omega) ?_)<;>simp only[push_cast,seval,reduceEqDiff,_h,l,Ad c (done:=done) (by omega),C]|intro _)
    refine AW (σi:=bS u x b out) (LZ W0 u x b out A o (by omega)) Qs (λn2 v σo ad hQ=>?_);obtain⟨rfl,H,i1,i2,rfl⟩:=hQ;rw[Pt (λp hp=>by grind)];simp only[push_cast,seval,reduceEqDiff,l,Ad c (done:=done) (by omega),C]
    repeat' (first|(((first|apply Ab|apply Ag|apply Af)<;>intro _h)<;>simp only[push_cast,seval,reduceEqDiff,_h,l,Ad c (done:=done) (by omega),C])|(refine As (by omega) ?_;simp only[push_cast,seval,reduceEqDiff,l,Ad c (done:=done) (by omega),C])|intro _)
    exact⟨_,_,Ab3 _,Ak.refl,done++[c],a,_,true,H,out++A,G,k,g,by simp,rfl,d,by simp;omega,q2,by simp;omega,by simp;omega,by omega,q6,λr=>by rw[<-r] at i1;omega,by omega,by omega,rfl⟩
   | true=>
    rw[C] at d;simp only[if_true] at d;rcases Ax8 G with rfl|⟨ops,N,rfl⟩
    ·simp only[List.getLast?_nil] at d;simp only[push_cast,seval,reduceEqDiff,l,Ad c (done:=done) (by omega),bS,E,F,O,R,T,f6,C,Acr,Anz,AqW,Alw];have _h:=trivial;repeat' (first|(first|((first|apply Ab|apply Ag|apply Af)<;>intro _h)|refine Ac y ?_|refine Ac w ?_|refine As (by omega) ?_)<;>simp only[push_cast,seval,reduceEqDiff,_h,l,Ad c (done:=done) (by omega),bS,E,F,O,R,T,f6,C,Acr,Anz,AqW,Alw]|intro _)
     exact⟨_,_,Ab3 _,Ak.refl,done++[c],a,_,u,b,out,[],k,g,by simp,rfl,d,by simp;omega,q2,by simp,by omega,Y,q6,q7,by omega,by omega,rfl⟩
    ·have aD:(ops++[N]).getLast?=some N:=by simp
     have am:(ops++[N]).dropLast=ops:=by simp
     rw[Ax9] at *;rw[aD,am] at d;have e0:(((ops++[N]).length:Int)==0)=false:=by grind
     have w5:IntKind.i64.wrap (((ops++[N]).length:Int)-1)=(ops.length:Int):=by simp only[Agz,Ah5,Alo] at q3⊢;rw[wrap64 (by omega) (by omega)];omega
     have e1:(List.map V.b (ops++[N]))[ops.length]?=some (.b N):=by simp
     have e2:(ops.length<(ops++[N]).length)=True:=eq_true (by simp);have e3:List.take ops.length (List.map V.b (ops++[N]))=List.map V.b ops:=by simp
     have e4:(ops.length<=(ops++[N]).length)=True:=eq_true (by simp);have w6:IntKind.i64.wrap (k-1)=k-1:=by rw[wrap64 (by omega) (by omega)]
     simp only[Agz,Ah5,Alo] at q3;cases N
     ·simp only at d;simp only[push_cast,seval,reduceEqDiff,l,Ad c (done:=done) (by omega),bS,E,F,O,R,T,f6,C,e0,e1,e2,e3,e4,w5,w6,Acr,Anz,AqW];have _h:=trivial;repeat' (first|(first|((first|apply Ab|apply Ag|apply Af)<;>intro _h)|refine Ac y ?_|refine Ac w ?_|refine As (by omega) ?_)<;>simp only[push_cast,seval,reduceEqDiff,_h,l,Ad c (done:=done) (by omega),bS,E,F,O,R,T,f6,C,e0,e1,e2,e3,e4,w5,w6,Acr,Anz,AqW]|intro _)
      rename_i j8 X M L K j3 j2 j1 j0;generalize z:((n+1+j8+1+X+1+M+1+L+1+K+1+j3,46):Id)=f;have U:f≠x:=λr=>by grind
      have I:f≠b:=λr=>by grind
      have g3:x.1<f.1:=by grind
      have g4:f.1<n+1+j8+1+X+1+M+1+L+1+K+1+j3+1:=by grind
      clear z;exact⟨_,_,Ab3 _,Ak.drop (σ':=bS u x b out++[(f,Ax.arr 4 1 (ops.map V.b))]) (Q4 U I) (Abm _),done++[c],a,_,u,b,out,ops,k,f,by simp,rfl,d,by simp;omega,q2,by simp;omega,by omega,Y,g3,I,by omega,by omega,rfl⟩
     ·simp only at d;simp only[push_cast,seval,reduceEqDiff,l,Ad c (done:=done) (by omega),bS,E,F,O,R,T,f6,C,e0,e1,e2,e3,e4,w5,w6,Acr,Anz,AqW];have _h:=trivial;repeat' (first|(first|((first|apply Ab|apply Ag|apply Af)<;>intro _h)|refine Ac y ?_|refine Ac w ?_|refine As (by omega) ?_)<;>simp only[push_cast,seval,reduceEqDiff,_h,l,Ad c (done:=done) (by omega),bS,E,F,O,R,T,f6,C,e0,e1,e2,e3,e4,w5,w6,Acr,Anz,AqW]|intro _)
      rename_i j9 j8 X M L K j3 j2 j1 j0;generalize z:((n+1+j9+1+j8+1+X+1+M+1+L+1+K,46):Id)=f;have U:f≠x:=λr=>by grind
      have I:f≠b:=λr=>by grind
      have g3:x.1<f.1:=by grind
      have g4:f.1<n+1+j9+1+j8+1+X+1+M+1+L+1+K+1:=by grind
      clear z;refine AW (σi:=bS u x b out) (LZ W0 u x b out A o (by omega)) (Yn U I) (λn2 v σo ad hQ=>?_);obtain⟨rfl,H,i1,i2,rfl⟩:=hQ;have J:over (bS u x b out) (bS true x H (out++A)) [(f,Ax.arr 4 1 (List.map V.b ops)),(x,Ax.tbox TB (.agg [wA u x,.arr b])),(b,Ax.arr 5 1 (Ay out))]=bS true x H (out++A)++[(f,Ax.arr 4 1 (ops.map V.b))]:=RL U I;rw[J];clear J;simp only[push_cast,seval,reduceEqDiff,l,Ad c (done:=done) (by omega)]
      repeat' (first|(((first|apply Ab|apply Ag|apply Af)<;>intro _h)<;>simp only[push_cast,seval,reduceEqDiff,_h,l,Ad c (done:=done) (by omega)])|(refine As (by omega) ?_;simp only[push_cast,seval,reduceEqDiff,l,Ad c (done:=done) (by omega)])|intro _)
      exact⟨_,_,Ab3 _,Ak.refl,done++[c],a,_,true,H,out++A,ops,k-1,f,by simp,rfl,d,by simp;omega,by omega,by simp;omega,by simp;omega,by omega,g3,λr=>by rw[<-r] at i1;omega,by omega,by omega,rfl⟩
def NT(s:Aa):Aa:=FK [8296]++TO s++FK [8297]
theorem Zc:∀(l:List Int) (a:List Bool) (k:Int) (out:Aa),k<=8->(Es l a k out).1.length<=out.length+4*l.length/\(Es l a k out).2<=8:=by
 intro l
 induction l with
 | nil=>intro a k out b;rw[Es];simp;exact b
 | cons c l e=>
  intro a k out b;have d:=Ew c;rw[Es];split
  ·grind
  ·split
   ·split
    ·grind
    ·grind
    grind
   grind
theorem bH(n:Nat):(Hl n).length<=4*n:=by
 induction n with
 | zero=>simp[Hl]
 | succ n a=>have:=Ew 8297;rw[Hl,Agz];omega
theorem WI(s:Aa):(TO s).length<=4*s.length+32:=by have b:=Zc (MF s) [] 0 [] (by omega);have c:=bH (Es (MF s) [] 0 []).2.toNat;have a:=Ol s s.length 0;unfold TO;rw[Agz];have d:(MF s).length<=s.length:=a;grind
theorem pL(s:Aa):(NT s).length<=4*s.length+40:=by have a:=WI s;have b:=Ew 8296;have c:=Ew 8297;unfold NT;grind
theorem AiT(s:Aa)(g:s.length<=2^24):An Tryz.prog W0 128 [.s s] [] (.s (NT s)) []:=by
 have f:=Zo W0 s g;have d:=Pv W0 8296;have e:=Pv W0 8297;have h:=WI s;have i:=Ew 8296;have j:=Ew 8297;unfold NT;generalize FK [8296]=b at *;generalize FK [8297]=c at *;generalize TO s=B at *;refine Ah (vs:=[.s (b++B++c)]) AgY (by simp) (by simp) λn0 a=>?_;clear a;simp only[push_cast,seval,reduceEqDiff];have _h:=trivial;repeat' (first|(first|((first|apply Ab|apply Ag|apply Af)<;>intro _h)|refine Ac f ?_|refine Ac d ?_|refine Ac e ?_|refine As (by simp only[Agz,Ah5,Alo,AA]<;>omega) ?_)<;>simp only[push_cast,seval,reduceEqDiff,_h]|intro _)
 exact Ai (by simp[get])
def KG(x:Ko):V:=.agg [.s x.L.tag,.s x.L.parent,.s x.L.dir,.sl (x.L.card.map A7.enc),.sl (x.L.ord.map A7.enc),.s x.L.dec,.s x.L.grp,.s x.L.minus,.s x.L.perc,.i .i64 x.L.prim,.i .i64 x.L.sec,.sl (x.L.lists.map CF.enc),.sl (x.L.units.map Dt.enc),.sl (x.L.dates.map CE.enc),.sl (x.L.months.map V.s),.sl (x.L.days.map V.s),.i .i64 x.y,.i .i64 x.m,.i .i64 x.d,.i .i64 x.wd]
structure OH (x:Ko) (c:Nat):Prop where
 y:x.y<2^40
 m1:1<=x.m
 m2:x.m<=12
 d:x.d<2^40
 wd:x.wd<7
 c24:24<=c
 ml:∀s∈x.L.months,s.length<=c
 dl:∀s∈x.L.days,s.length<=c
theorem M9(b:BV W0)(x:Ko)(c:Nat)(a:OH x c)(f:Aa):(EG x f).1.length<=c:=by
 have j:=a.c24;obtain⟨_,l1⟩:=F8 W0 b x.y (by have:=a.y;omega);obtain⟨_,k⟩:=F8 W0 b x.m (by have:=a.m2;omega);obtain⟨_,o⟩:=F8 W0 b x.d (by have:=a.d;omega);obtain⟨_,p⟩:=Gv W0 b x.m (by have:=a.m2;omega);obtain⟨_,q⟩:=Gv W0 b x.d (by have:=a.d;omega);have e:∀(l:List Aa) (i:Nat),(∀s∈l,s.length<=c)->(l.getD i []).length<=c:=by grind
 have g:=e x.L.months (x.m-1) a.ml;have h:=e x.L.days x.wd a.dl;unfold EG;grind
theorem Qu(x:Ko):∀(n m:Nat) (p out:Aa),p.length<n->p.length<m->BD x n p out=BD x m p out:=by
 intro n
 induction n with
 | zero=>intro m p out h;omega
 | succ n d=>
  intro m p out b c;cases m with
  | zero=>omega
  | succ m=>
   rw[BD,BD];split
   ·rfl
   ·rename_i hp;have a:1<=p.length:=by grind
    grind
theorem YA(p:Aa)(hp:p.length<=2^20)(A B:V)(τ:Al)(n0:Nat)(Q:Exit->St->Prop)
  (h:∀n,n0<=n->Q (.exit 2) ⟨[(1,.s p),(2,A),(6,B),(7,.i .i64 ((p.takeWhile DH).length:Nat)),(21,.b false)],τ,n⟩) :
  GX Tryz.prog W0 48 PT Q ⟨[(1,.s p),(2,A),(6,B),(7,.i .i64 0)],τ,n0⟩:=by
 refine Am p.length (Inv:=λm st=>∃done a n,p=done++a/\m=a.length/\(∀c∈done,DH c=true)/\n0<=n/\st=⟨[(1,.s p),(2,A),(6,B),(7,.i .i64 done.length)],τ,n⟩) ⟨_,Ak.refl,[],p,_,rfl,rfl,by simp,Abm _,rfl⟩ ?_;rintro m _ ⟨done,a,n,f,rfl,o,t,rfl⟩;cases a with
 | nil=>
  have g:p.takeWhile DH=done:=by have:=(oU (p:=DH) (w:=done) (r:=[]) o (by simp)).1;rw[f];simpa using this
  rw[g] at h;have j:decide ((done.length:Int)<(p.length:Int))=false:=by rw[f];simp
  simp only[push_cast,seval,reduceEqDiff,j];grind
 | cons c a=>
  have l:=AH f;have e:=gE W0 c;cases k:DH c with
  | true=>
   rw[k] at e;simp only[push_cast,seval,reduceEqDiff,f,Ad c (done:=done) (by omega)];have _h:=trivial;repeat' (first|(first|((first|apply Ab|apply Ag|apply Af)<;>intro _h)|refine Ac e ?_|refine As (by omega) ?_)<;>simp only[push_cast,seval,reduceEqDiff,_h,f,Ad c (done:=done) (by omega)]|intro _)
   exact⟨_,_,Ab3 _,Ak.refl,done++[c],a,_,by simp,rfl,λd q=>by grind
,by omega,rfl⟩
  | false=>
   rw[k] at e;have g:p.takeWhile DH=done:=by simp_all
   rw[g,f] at h;simp only[push_cast,seval,reduceEqDiff,f,Ad c (done:=done) (by omega)];have _h:=trivial;repeat' (first|(first|((first|apply Ab|apply Ag|apply Af)<;>intro _h)|refine Ac e ?_|refine As (by omega) ?_)<;>simp only[push_cast,seval,reduceEqDiff,_h,f,Ad c (done:=done) (by omega)]|intro _)
   exact h _ (by omega)
set_option maxHeartbeats 4000000 in
theorem zS(Z:BV W0)(x:Ko)(c:Nat)(z:OH x c)(p:Aa)(hp:p.length<=2^20)(hb:(p.length+1)*(c+1)<=2^29):An Tryz.prog W0 218 [KG x,.s p] [] (.tup [.s (I6 x p).1,.i .i64 (I6 x p).2]) []:=by
 generalize hS:I6 x p=S;unfold I6 at hS;have M:=M9 W0 Z x c z;unfold KG;refine Ah (vs:=[.s S.1,.i .i64 S.2]) Ai9 (by simp) (by simp) λn0 U=>?_;clear U;simp only[push_cast,seval,reduceEqDiff]
 repeat' (first|(((first|apply Ab|apply Ag|apply Af)<;>intro _h)<;>simp only[push_cast,seval,reduceEqDiff,_h])|(refine As (by omega) ?_;simp only[push_cast,seval,reduceEqDiff])|intro _)
 rename_i k1 k2;generalize aj:((n0+1+k1,6):Id)=bx;have h:bx.1<n0+1+k1+1+k2:=by grind
 have aa:n0<bx.1:=by grind
 generalize n0+1+k1+1+k2=n1 at *;have ak:OH x c:=z;obtain⟨Y,ag⟩:∃Y,Y=KG x:=⟨_,rfl⟩
 refine Am p.length (Inv:=λm st=>∃n u b q out,m=q.length/\BD x (q.length+1) q out=S/\q.length<=p.length/\out.length+q.length*(c+1)<=2^29/\bx.1<b.1/\b.1<n/\st=⟨[(1,.s q),(2,.ref (n0,2) 0),(6,.ref bx 0)],bS u bx b out++[((n0,2),.box (KG x))],n⟩) ⟨_,Ak.bld h,_,false,(n1,0),p,[],rfl,hS,Abm _,by grind,h,Ab3 _,rfl⟩ ?_;clear hS h;rintro m _ ⟨n,u,b,q,out,rfl,f,hq,V,L,ai,rfl⟩;have l:b≠bx:=λC=>by rw[C] at L;omega
 have f1:(bx=b)=False:=eq_false (AhZ l);have f2:(b=bx)=False:=eq_false l;have f3:∀j,(((n0,j):Id)=bx)=False:=λj=>eq_false λC=>by grind
 have f4:∀j,(bx=((n0,j):Id))=False:=λj=>eq_false λC=>by grind
 have f5:∀j,(((n0,j):Id)=b)=False:=λj=>eq_false λC=>by grind
 have f6:∀j,(b=((n0,j):Id))=False:=λj=>eq_false λC=>by grind
 have r:∀E:Ax,∀p∈[(((n0,2):Id),E)],p.1≠bx/\p.1≠b:=λE p hp=>by grind
 cases q with
 | nil=>rw[BD] at f;simp only[beq_self_eq_true,if_true] at f;subst f;have X:=UG W0 u bx b out l (by simp at V;omega);simp only[push_cast,seval,reduceEqDiff];intros;refine Bq X Qs ?_;simp only[push_cast,seval,reduceEqDiff];intros;refine Ae ?_;simp[push_cast,get]
 | cons A q=>
  obtain⟨R,t⟩:∃R,R=A::q:=⟨_,rfl⟩;have J:R.length=q.length+1:=by rw[t];simp
  have I:R[0]?=some A:=by rw[t];rfl
  have w:R.drop 1=q:=by rw[t];rfl
  have ah:R.take 1=[A]:=by rw[t];rfl
  have B:(R==([]:Aa))=false:=by rw[t];rfl
  rw[<-t] at f hq V⊢;clear t;rw[BD,B] at f;simp only[if_false,AcY] at f;simp only[push_cast,seval,reduceEqDiff,B];intros;refine YA W0 R (by omega) _ _ _ _ _ (λn3 am=>?_);have O:(R.takeWhile DH).length<=R.length:=(List.takeWhile_sublist _).length_le;have D:=oT W0 Z x (R.take (R.takeWhile DH).length) z.y ⟨z.m1,z.m2⟩ z.d z.wd;have al:=M (R.take (R.takeWhile DH).length);generalize(R.takeWhile DH).length=K at *;have a:((K:Int)==0)=(K==0):=by rw[Atk];simp
  cases k:(K==0) with
  | true=>
   rw[k] at f;simp only[if_true] at f;simp only[push_cast,seval,reduceEqDiff,a,k,I];intros;have W:out.length+1<=2^29:=by grind
   refine AW (σi:=bS u bx b out) (Aie W0 u bx b out A l (by omega)) Qs (λn2 v σo T H=>?_);obtain⟨rfl,G,i1,i2,rfl⟩:=H;rw[Pt (r _)];have g:(1<=R.length)=True:=eq_true (by omega);simp only[push_cast,seval,reduceEqDiff,g,w,Abm,Alj]
   repeat' (first|(((first|apply Ab|apply Ag|apply Af)<;>intro _h)<;>simp only[push_cast,seval,reduceEqDiff,_h,g,w,Abm,Alj])|(refine As (by omega) ?_;simp only[push_cast,seval,reduceEqDiff,g,w,Abm,Alj])|intro _)
   refine⟨_,_,show q.length<R.length by omega,Ak.refl,_,true,G,q,out++[A],rfl,?_,by omega,?_,by omega,by omega,rfl⟩
   ·grind
   ·rw[J,AxP] at V;grind
  | false=>
   rw[k] at f;simp only[if_false,AcY] at f;have N:1<=K:=by grind
   have g:(K<=R.length)=True:=eq_true O;generalize hF:EG x (R.take K)=F at *;have e:∀E:Ax,lk (bS u bx b out++[((n0,2),E)]) (n0,2)=some E:=λE=>by simp only[bS,Anz,AqW,lk,f1,f2,f3,f4,f5,f6,if_false,if_true]
   cases o:(F.2==0) with
   | true=>
    rw[o] at f;simp only[if_true] at f;have W:out.length+F.1.length<=2^29:=by have:1*(c+1)<=R.length*(c+1):=Awy _ (by omega);omega
    simp only[push_cast,seval,reduceEqDiff,a,k,e,KG,g,o,bne,Alq,Abm,Alj];intros;refine Ac (by exact D) ?_;simp only[push_cast,seval,reduceEqDiff,a,k,e,KG,g,o,bne,Alq,Abm,Alj]
    repeat' (first|(((first|apply Ab|apply Ag|apply Af)<;>intro _h)<;>simp only[push_cast,seval,reduceEqDiff,_h,a,k,e,KG,g,o,bne,Alq,Abm,Alj])|(refine As (by omega) ?_;simp only[push_cast,seval,reduceEqDiff,a,k,e,KG,g,o,bne,Alq,Abm,Alj])|intro _)
    refine AW (σi:=bS u bx b out) (LZ W0 u bx b out F.1 l (by omega)) Qs (λn2 v σo T H=>?_);obtain⟨rfl,G,i1,i2,rfl⟩:=H;rw[Pt (r _)];simp only[push_cast,seval,reduceEqDiff,a,g,Alq,Abm,Alj]
    repeat' (first|(((first|apply Ab|apply Ag|apply Af)<;>intro _h)<;>simp only[push_cast,seval,reduceEqDiff,_h,a,g,Alq,Abm,Alj])|(refine As (by omega) ?_;simp only[push_cast,seval,reduceEqDiff,a,g,Alq,Abm,Alj])|intro _)
    refine⟨_,_,show(R.drop K).length<R.length by simp;omega,Ak.refl,_,true,G,R.drop K,out++F.1,rfl,?_,by simp;omega,?_,by omega,?_,rfl⟩
    ·rw[Qu x _ R.length (R.drop K) _ (by omega) (by simp;omega)];exact f
    ·have h1:R.length*(c+1)=(R.drop K).length*(c+1)+K*(c+1):=by rw[<-AxP];congr 1;simp;omega
     have h2:1*(c+1)<=K*(c+1):=Awy _ N;grind
    ·omega
   | false=>
    rw[o] at f;simp only[if_false,AcY] at f;subst f;simp only[push_cast,seval,reduceEqDiff,a,k,e,KG,g,o,bne,Alq,Abm,Alj];intros;refine Ac (by exact D) ?_;simp only[push_cast,seval,reduceEqDiff,a,k,e,KG,g,o,bne,Alq,Abm,Alj]
    repeat' (first|(((first|apply Ab|apply Ag|apply Af)<;>intro _h)<;>simp only[push_cast,seval,reduceEqDiff,_h,a,k,e,KG,g,o,bne,Alq,Abm,Alj])|(refine As (by omega) ?_;simp only[push_cast,seval,reduceEqDiff,a,k,e,KG,g,o,bne,Alq,Abm,Alj])|intro _)
    refine Ae ?_;simp[push_cast,get]
structure sI (L:BO) (c:Nat):Prop where
 c24:24<=c
 ml:∀s∈L.months,s.length<=c
 dl:∀s∈L.days,s.length<=c
 n:L.dates.length<=2^20
 sk:∀p∈L.dates,p.skel.length<=2^20
 pt:∀p∈L.dates,p.pat.length<=2^20/\(p.pat.length+1)*(c+1)<=2^29
theorem bN(A:CO):∀(l:List CE) (i b a:Int),Dp A l i b a=b\/i<=Dp A l i b a/\Dp A l i b a<i+l.length:=by
 intro l
 induction l with
 | nil=>intro i b a;left;rw[Dp]
 | cons p l c=>intro i b a;rw[Dp];grind
theorem AcV{l:List CE}{a:Aa}(h:(Dz l a).2=0):∃(i:Nat) (p:CE),(Dz l a).1=i/\l[i]?=some p:=by
 unfold Dz at h⊢;cases b:Cu a with
 | none=>rw[b] at h;cases h
 | some w=>
  rw[b] at h;simp only at h⊢;have c:=bN (Fe w) l 0 (-1) 0;generalize Dp (Fe w) l 0 (-1) 0=B at *;by_cases hB:B<0
  ·grind
  ·rw[if_neg hB];refine⟨B.toNat,l[B.toNat]'(by omega),by simp only;omega,Ai0 (by omega)⟩
theorem Zm(l:List CE)(a:Aa):(Dz l a).2=0\/(Dz l a).2=3\/(Dz l a).2=8:=by unfold Dz;grind
set_option maxHeartbeats 4000000 in
theorem ZH(F:BV W0)(L:BO)(c:Nat)(k:sI L c)(b:Aa)(d:Int)(G:b.length<=2^24):An Tryz.prog W0 158 [L.enc,.s b,.i .i64 d] [] (.tup [.s (DB L b d).1,.i .i64 (DB L b d).2]) []:=by
 have e:=Agp W0 L.dates b G (by have:=k.n;omega) k.sk;have u:=Zm L.dates b;have v:=@AcV L.dates b;generalize hS:DB L b d=S;unfold DB at hS;rw[BO.enc_eq];cases m:DQ d with
 | false=>
  have l:=QU W0 d m;rw[m] at hS;refine Ah (vs:=[.s S.1,.i .i64 S.2]) MN (by simp) (by simp) λn0 a=>?_;clear a;simp only[push_cast,seval,reduceEqDiff]
  all_goals ((try simp only[bq,if_true,if_false,Int.reduceBEq,reduceCtorEq] at hS);subst hS)
  all_goals (try simp only[push_cast,seval,reduceEqDiff])
  all_goals (repeat' (first|((first|refine Ac (by exact l) ?_|refine As (by omega) ?_);(try simp only[push_cast,seval,reduceEqDiff]))|intro _))
  all_goals (first|(refine Ai ?_;simp[get];done)|(refine Ae ?_;simp[push_cast,get];done)|skip)
 | true=>
  have l:=Wy W0 d m;have t:=Zz W0 d m;obtain⟨q1,q2,q3,H,N,O⟩:=Qr m;have o:OH (Lp L d) c:=by
   have M:(d+25567).tmod 7<7:=Int.tmod_lt_of_pos _ (by omega);refine⟨?_,q3,H,?_,?_,k.c24,k.ml,k.dl⟩
   ·show(Hq d).1.toNat<_;omega
   ·show((FM d).2+1).toNat<_;omega
   ·show((d+25567).tmod 7).toNat<_;omega
  have h:=fun(p:Aa) (B:p.length<=2^20) (C:(p.length+1)*(c+1)<=2^29)=>zS W0 F (Lp L d) c o p B C;have z:(((Lp L d).y:Nat):Int)=(Hq d).1:=by show((Hq d).1.toNat:Int)=_;omega
  have A:(((Lp L d).d:Nat):Int)=(FM d).2+1:=by show(((FM d).2+1).toNat:Int)=_;omega
  unfold KG at h;rw[z,A] at h;rw[m] at hS;simp only[if_true] at hS;generalize D:(Dz L.dates b).1=J at *;generalize E:(Dz L.dates b).2=K at *;rcases u with rfl|rfl|rfl
  ·obtain⟨i,p,rfl,hp⟩:=v rfl;have j:=k.pt p (Aln hp);have q:=h p.pat j.1 j.2;have g:=Ap2 W0 p.pat j.1;have r:(L.dates.map CE.enc)[i]?=some p.enc:=by simp_all
   have f:(i<L.dates.length)=True:=eq_true (Alp.1 hp).1;have I:((0:Int)==8)=false:=rfl;have z2:((0:Int)==0)=true:=rfl;simp only[I,z2,if_true,if_false,AcY,AxS,hp] at hS;generalize I6 (Lp L d) p.pat=w at *;rw[CE.enc_eq] at r;cases x:Zj p.pat with
   | true=>
    rw[x] at g hS;simp only[if_true] at hS;subst hS;refine Ah (vs:=[.s w.1,.i .i64 w.2]) MN (by simp) (by simp) λn0 a=>?_;clear a;simp only[push_cast,seval,reduceEqDiff,r,f];have _h:=trivial;repeat' (first|(first|((first|apply Ab|apply Ag|apply Af)<;>intro _h)|refine Ac l ?_|refine Ac e ?_|refine Ac g ?_|refine Ac t ?_|refine Ac q ?_|refine As (by omega) ?_)<;>simp only[push_cast,seval,reduceEqDiff,_h,r,f]|intro _)
    refine Ae ?_;simp[push_cast,get]
   | false=>
    rw[x] at g hS;simp only[if_false,AcY] at hS;subst hS;refine Ah (vs:=[.s [],.i .i64 4]) MN (by simp) (by simp) λn0 a=>?_;clear a;simp only[push_cast,seval,reduceEqDiff,r,f];have _h:=trivial;repeat' (first|(first|((first|apply Ab|apply Ag|apply Af)<;>intro _h)|refine Ac l ?_|refine Ac e ?_|refine Ac g ?_|refine Ac t ?_|refine As (by omega) ?_)<;>simp only[push_cast,seval,reduceEqDiff,_h,r,f]|intro _)
    refine Ae ?_;simp[push_cast,get]
  ·simp only[show((3:Int)==8)=false from rfl,show((3:Int)==0)=false from rfl,if_false,AcY] at hS;subst hS;refine Ah (vs:=[.s [],.i .i64 3]) MN (by simp) (by simp) λn0 a=>?_;clear a;simp only[push_cast,seval,reduceEqDiff];have _h:=trivial;repeat' (first|(first|((first|apply Ab|apply Ag|apply Af)<;>intro _h)|refine Ac l ?_|refine Ac e ?_|refine As (by omega) ?_)<;>simp only[push_cast,seval,reduceEqDiff,_h]|intro _)
   refine Ae ?_;simp[push_cast,get]
  ·simp only[show((8:Int)==8)=true from rfl,if_true] at hS;subst hS;refine Ah (vs:=[.s [],.i .i64 18]) MN (by simp) (by simp) λn0 a=>?_;clear a;simp only[push_cast,seval,reduceEqDiff];have _h:=trivial;repeat' (first|(first|((first|apply Ab|apply Ag|apply Af)<;>intro _h)|refine Ac l ?_|refine Ac e ?_|refine As (by omega) ?_)<;>simp only[push_cast,seval,reduceEqDiff,_h]|intro _)
   refine Ae ?_;simp[push_cast,get]
end Go.Ir

namespace Go.Ir
open Go.Proofs
variable{P:Program}{W0:World}{nt n:Nat}{Q:Exit→St→Prop}{env:AE}{σ:Al}
def Yq:IC:=sQ (.ops [fA 22 2 1,l1 23 22,m1 24 1,o1 25 (.iaddr (.t 24) (ci 0) 9 1),l1 26 25,m1 27 1,o1 28 (.iaddr (.t 27) (ci 1) 9 1),l1 29 28,q3 30 280 23 26 29,sT 4 30 1] [4] [[0,1],[2,3],[3,4],[5,6],[6,7],[1,8],[4,8],[7,8],[1,9],[3,9],[4,9],[6,9],[7,9],[8,9]]) .ret
def XR:IC:=oS [bZ 16 .eql 12 1,m1 15 16] [1,2,4,5,12,15] (cD 15 (oR [m1 17 1,o1 18 (.iaddr (.t 17) (ci 0) 9 1),l1 19 18,sT 4 19 1] [4]) (oS [bZ 21 .eql 12 2,m1 20 21] [1,2,4,5,20] (cD 20 Yq .skip)))
def Ef:IC:=oS [m1 7 49] [2,4,6,7,50] (oP [m1 8 50] [2,4,6,7,8])
def Yo:IC:=sQ (oS [m1 57 7,bZ 58 .eql 57 0] [2,6,8,9,58] (cD 58 (oP [fA 59 2 2,l1 60 59,m1 9 60] [6,8,9]) .skip)) (oP [m1 61 9,m1 62 8,l1 63 6,q3 64 280 61 62 63,sT 6 64 1] [])
def El:IC:=.block 2 (sQ (oS [l1 51 6,nS 52 51,bZ 53 .gtr 52 20000] [2,4,6,7,8,53] (cD 53 (oR [l1 54 6,sT 4 54 1] []) .skip)) (oS [fA 55 2 3,l1 56 55,m1 9 56] [2,6,7,8,9] Yo))
def VT:IC:=sQ (sQ (.opx [m1 44 1,m1 45 5,bZ 46 .sub 45 2,o1 47 (.slL (.t 44) none (some (.t 46)) 1)] [2,4,6,47] 48 281 [.t 47] [] [2,4,6,48]) (.block 1 (.rfn (.t 48) [49,50] Ef El [2,4,6,49,50] [4,6]))) (oR [l1 65 6,sT 4 65 1] [4])
def UT:IC:=sQ (.ops [fA 31 2 4,l1 32 31,m1 33 1,m1 34 5,bZ 35 .sub 34 2,iA 36 33 35 9 1,l1 37 36,m1 38 1,m1 39 5,bZ 40 .sub 39 1,iA 41 38 40 9 1,l1 42 41,q3 43 280 32 37 42,o1 6 (.alloc (.s [])),sT 6 43 1] [1,2,4,5,6] [[0,1],[3,4],[2,5],[4,5],[5,6],[8,9],[7,10],[9,10],[10,11],[1,12],[6,12],[11,12],[1,14],[5,14],[6,14],[10,14],[11,14],[12,14],[13,14]]) VT
def v7:IC:=oS [m1 10 1,nL 11 10,m1 5 11] [1,2,4,5] (sQ (oS [m1 12 5] [1,2,4,5,12] (.block 0 (oS [bZ 14 .eql 12 0,m1 13 14] [1,2,4,5,12,13] (cD 13 (oR [o0 (.store (.t 4) (.c (.s [])) 1)] [4]) XR)))) UT)
def e9:IC:=oS [bX 2 0,o1 4 (.alloc (.s []))] [1,2,4] v7
@[push_cast]def Apg:List R:=[.c 4 1 false]
@[push_cast]def AuQ:=Ar Yq.eq_1<|Ar XR.eq_1<|Ar Ef.eq_1<|Ar Yo.eq_1<|Ar El.eq_1<|Ar VT.eq_1<|Ar UT.eq_1<|Ar v7.eq_1<|AM e9.eq_1
theorem Q5:Au Tryz.prog 220 66 e9 Apg=true:=by kernel_rfl
def kZ:IC:=oS [bX 1 0,mC 2 .nf] [1] (oR [o1 3 (.mkfn 314 [] [.t 1]),m1 2 3] [2])
@[push_cast]def Aos:List R:=[.t 2]
@[push_cast]def AuT:=AM kZ.eq_1
theorem Ajw:Au Tryz.prog 281 4 kZ Aos=true:=by kernel_rfl
def tR:IC:=sQ (.block 1 (sQ (.opxv [m1 11 0,m1 12 3,l1 13 1,m1 14 3,iA 15 13 14 9 1,l1 16 15] [0,1,3,11,12,16] 17 (.t 11) [.t 12,.t 16] [nT 18 17] [0,1,3,18]) (cD 18 .ret .skip))) (oP [m1 9 3,bZ 10 .sub 9 1,m1 3 10] [0,1,3])
def uA:IC:=oS [l1 4 1,nL 5 4,bZ 6 .sub 5 1,m1 3 6] [0,1,3] (.block 0 (.loop (sQ (oS [m1 7 3,bZ 8 .geq 7 0] [0,1,3,8] (cD 8 .skip (.exit 0))) tR)))
@[push_cast]def AoO:List R:=[]
@[push_cast]def Auz:=Ar tR.eq_1<|AM uA.eq_1
theorem Aj4:Au Tryz.prog 314 19 uA AoO=true:=by kernel_rfl
end Go.Ir
section
namespace Go.Ir
open Go.Proofs
section
variable{P:Program}{W0:World}{nt n:Nat}{env:AE}{σ:Al}
def Ar9(id:Id)(n:Nat)(R:Nat->Nat->V->Al->Prop)(e:Exit)(s:St):Prop:=
 ∃f c a d a2 i h g σ',e=eY f/\lk s.σ id=some (.loop c a d a2 i h g)/\(∀j x,lk σ' j=some x->lk (upd s.σ id (.loop c a d a2 i (bif f.isNone then .ready else .done) f)) j=some x)/\R n s.n (.b f.isNone) σ'
theorem AjR(s:GV P){id:Id}{vs:List V}{ps:List Nat}{a b:IC}{w:Option (Option Nat)}{R:Nat->Nat->V->Al->Prop}
  (m:lk σ id=some (.loop nt env ps a b .ready w))(i:vs.length=ps.length)(r:(ps.all λp=>Nat.blt p nt)=true)(q:(a.nr&&b.nr)=true)
  (h:∀n,(∀id e,lk σ id=some e->id.1<n)->aW P W0 nt a (λe j=>e=.normal/\∃d c g k l f,lk j.σ id=some (.loop d c g k l .ready f)/\
   aW P W0 nt b (QW W0 nt (Ar9 id n R)) ⟨j.env,upd j.σ id (.loop d c g k l .busy f),j.n⟩) ⟨Ix ps vs env,σ,n⟩):U5 P W0 (.arr id::vs) σ R:=
 Z0 s m i r q λn v=>Ng (Ch (h n v)) λe j ⟨u,d,c,g,k,l,f,o,t⟩=>⟨u,d,c,g,k,l,f,o,Mo (Ch t)⟩
theorem AiY(m:GV P){s:Nat}{ps:List Nat}{a b:IC}{f live:List Nat}{Q:Exit->St->Prop}{i:FuncId}{first c:List V}(q:get env s=.fn i first c){σi:Al}{R:Nat->Nat->V->Al->Prop}
  (p:Ex P W0 i (first++[.arr (n,0)]++c) σi R)(r:∀id e,lk σi id=some e->lk (((n,0),Ax.loop nt (restrict f env) ps a b .ready none)::σ) id=some e)
  (o:∀n' v σo,n+1<=n'->R (n+1) n' v σo->∃g d h k l s j,lk (over σi σo (((n,0),Ax.loop nt (restrict f env) ps a b .ready none)::σ)) (n,0)=some (.loop g d h k l s j)/\K3 s=false/\Q (eY j) ⟨restrict live env,del (over σi σo (((n,0),Ax.loop nt (restrict f env) ps a b .ready none)::σ)) (n,0),n'⟩) :
  Akh P W0 nt (.t s) ps a b f live Q ⟨env,σ,n⟩:=Acj (st:=⟨env,σ,n⟩) m q p r o
end
variable(W0:World)
theorem Ajz(es:List V):Ex Tryz.prog W0 281 [.sl es] [] (λn n' v σ'=>∃id:Id,n<=id.1/\id.1<n'/\v=.fn 314 [] [.ref id 0]/\σ'=[(id,.box (.sl es))]):=by generalize b:(fun(n n':Nat) (v:V) (σ':Al)=>∃id:Id,n<=id.1/\id.1<n'/\v=V.fn 314 [] [.ref id 0]/\σ'=[(id,.box (.sl es))])=R;refine Cc Ajw (by simp) λn0 a=>?_;clear a;simp only[push_cast,seval,reduceEqDiff];intro k1 k2;subst b;exact⟨_,Ak.refl,[.fn 314 [] [.ref (n0,1) 0]],_,⟨rfl,trivial⟩,λ_ _ h=>h,(n0,1),Abm _,by simp only;omega,rfl,rfl⟩
theorem yX(l:List Aa)(H:l.length<=2^30)(id a:Id)(Inv:Nat->Al->Prop)(c:Al->Prop)(hI:∀k σ,Inv k σ->lk σ a=none)
  (G:∀k σ e,Inv k σ->k<l.length->l[l.length-1-k]?=some e->∃R,U5 Tryz.prog W0 [.arr id,.i .i64 ((l.length:Int)-1-k),.s e] σ R/\∀n n' v σ',R n n' v σ'->(v=.b true/\Inv (k+1) σ')\/(v=.b false/\c σ'))
  (σ0:Al)(D:Inv 0 σ0):Ex Tryz.prog W0 314 [.arr id,.ref a 0] (σ0++[(a,.box (.sl (l.map V.s)))]) (λn n' v σ'=>Inv l.length σ'\/c σ'):=by
 have g:∀σ,lk σ a=none->lk (σ++[(a,.box (.sl (l.map V.s)))]) a=some (.box (.sl (l.map V.s))):=λσ h=>by rw[Ot,h];simp[lk]
 have z:∀σ σo,lk σ a=none->over σ σo (σ++[(a,.box (.sl (l.map V.s)))])=σo++[(a,.box (.sl (l.map V.s)))]:=λσ σo h=>by have o:=Eq (σi:=σ) (σo:=σo) (pre:=[]) (λp hp=>by cases hp);rw[AqW,Ary] at o;unfold over at o⊢;rw[Axh,<-AvS,o];simp[h]
 have w:(l.map V.s).length=l.length:=by simp
 generalize E:(fun(n n':Nat) (v:V) (σ':Al)=>Inv l.length σ'\/c σ')=R;refine Cc Aj4 (by simp) λn0 x=>?_;clear x;have u:=g _ (hI _ _ D);have B:IntKind.i64.wrap ((l.length:Int)-1)=(l.length:Int)-1:=wrap64 (by omega) (by omega);simp only[push_cast,seval,reduceEqDiff,u,w,B];intros;refine Am l.length (Inv:=λm st=>∃k σ n,m=l.length-k/\k<=l.length/\Inv k σ/\st=⟨[(0,.arr id),(1,.ref a 0),(3,.i .i64 ((l.length:Int)-1-k))],σ++[(a,.box (.sl (l.map V.s)))],n⟩) ⟨_,Ak.refl,0,σ0,_,rfl,Alq _,D,by rw[show((0:Nat):Int)=0 from rfl,Int.sub_zero]⟩ ?_;rintro m _ ⟨k,σ,n,rfl,M,j,rfl⟩;have I:=g _ (hI _ _ j);by_cases f:k<l.length
 ·obtain⟨e,F⟩:∃e,l[l.length-1-k]?=some e:=⟨l[l.length-1-k]'(by omega),Ai0 (by omega)⟩;obtain⟨L,q,r⟩:=G k σ e j f F;have t:(l.map V.s)[l.length-1-k]?=some (.s e):=by simp[F]
  have d:decide ((l.length:Int)-1-k>=0)=true:=by simp;omega
  have y:(0<=(l.length:Int)-1-k)=True:=by simp;omega
  have A:((l.length:Int)-1-k).toNat=l.length-1-k:=by omega
  have C:IntKind.i64.wrap ((l.length:Int)-1-k-1)=(l.length:Int)-1-(k+1:Nat):=by rw[wrap64 (by omega) (by omega)];omega
  simp only[push_cast,seval,reduceEqDiff,I,d,y,A,t];intro k1 k2;refine Ac4 q (λ_ _ h=>AP h) (λN v σo J K=>?_);rw[z _ _ (hI _ _ j)];rcases r _ _ _ _ K with⟨rfl,hi'⟩|⟨rfl,ho⟩
  ·simp only[push_cast,seval,reduceEqDiff,C];intros;exact⟨_,_,by omega,Ak.refl,k+1,σo,_,rfl,f,hi',rfl⟩
  ·simp only[push_cast,seval,reduceEqDiff];intros;subst E;exact⟨_,Ak.refl,[],σo,trivial,λ_ _ h=>AP h,.inr ho⟩
 ·have:k=l.length:=by omega
  subst this;have d:decide ((l.length:Int)-1-l.length>=0)=false:=by simp;omega
  simp only[push_cast,seval,reduceEqDiff,d];intros;subst E;exact⟨_,Ak.refl,[],σ,trivial,λ_ _ h=>AP h,.inl j⟩
end Go.Ir
end
namespace Go.Ir
open Go.Proofs
variable(W0:World)
theorem H8{W0:World}{nt n:Nat}{env:AE}{σ:Al}{s k:Nat}{b:Bool}{v u:V}{id:Id}{a:Nat}(h:get env s=.ref id a)(d:lk σ id=some (.box u))(f:sub u a k b=some v):Sb W0 nt [.c s k b] [v] [] .ret ⟨env,σ,n⟩:=
 ⟨_,Ak.refl,⟨⟨id,a,u,h,d,f⟩,trivial⟩,λid e h=>by simp[lk] at h⟩
theorem Ue(σ σo:Al):over [] σo σ=σo++σ:=by simp[over,lk]
theorem sP(p:CF)(l:List Aa)(hp:p.two.length<=2^20/\p.start.length<=2^20/\p.mid.length<=2^20/\p.fin.length<=2^20)(hl:l.length<=1000)(hs:∀s∈l,s.length<=2^20)
  (hf:∀q a b:Aa,q.length<=2^20->a.length<=2^21->b.length<=2^21->An Tryz.prog W0 280 [.s q,.s a,.s b] [] (.s (Fg q a b)) []/\(Fg q a b).length<=q.length+a.length+b.length) :
  An Tryz.prog W0 220 [p.enc,.sl (l.map V.s)] [] (.s (On p l)) []:=by
 obtain⟨aS,bh,bi,aT⟩:=hp;generalize hS:On p l=S;rw[CF.enc_eq]
 match l,hS with
 | [],hS=>have hS:[]=S:=hS;subst hS;refine Ah (vs:=[.s []]) Q5 (by simp) (by simp) λn0 C=>?_;clear C;simp only[push_cast,seval,reduceEqDiff];intros;exact H8 (u:=.s []) rfl (by simp[lk]) rfl
 | [a],hS=>have hS:a=S:=hS;subst hS;refine Ah (vs:=[.s a]) Q5 (by simp) (by simp) λn0 C=>?_;clear C;simp only[push_cast,seval,reduceEqDiff];intros;exact H8 (u:=.s a) rfl (by simp[lk]) rfl
 | [a,b],hS=>
  have hS:Fg p.two a b=S:=hS;have h1:=hs a (by simp);have h2:=hs b (by simp);have c1:=(hf p.two a b aS (by omega) (by omega)).1;subst hS;refine Ah (vs:=[.s (Fg p.two a b)]) Q5 (by simp) (by simp) λn0 C=>?_;clear C;simp only[push_cast,seval,reduceEqDiff];have _h:=trivial;repeat' (first|(first|((first|apply Ab|apply Ag|apply Af)<;>intro _h)|refine Ac c1 ?_)<;>simp only[push_cast,seval,reduceEqDiff,_h]|intro _)
  exact H8 (u:=.s (Fg p.two a b)) rfl (by simp[lk]) rfl
 | a::b::c::l,hS=>
  have hN:3<=(a::b::c::l).length:=by simp
  have hS:JR p ((a::b::c::l).take ((a::b::c::l).length-2)).reverse (Fg p.fin ((a::b::c::l).getD ((a::b::c::l).length-2) []) ((a::b::c::l).getD ((a::b::c::l).length-1) []))=S:=hS;generalize(a::b::c::l)=L at *;obtain⟨x,hx⟩:∃x,L[L.length-2]?=some x:=⟨L[L.length-2]'(by omega),Ai0 (by omega)⟩
  obtain⟨y,hy⟩:∃y,L[L.length-1]?=some y:=⟨L[L.length-1]'(by omega),Ai0 (by omega)⟩;rw[List.getD_eq_getElem?_getD,List.getD_eq_getElem?_getD,hx,hy] at hS;simp only[Option.getD_some] at hS;have h1:=hs x (Aln hx);have h2:=hs y (Aln hy);obtain⟨c1,bj⟩:=hf p.fin x y aT (by omega) (by omega);generalize Fg p.fin x y=r0 at *;have ac:(L.map V.s)[L.length-2]?=some (.s x):=by simp[hx]
  have ad:(L.map V.s)[L.length-1]?=some (.s y):=by simp[hy]
  have Y:(L.map V.s).length=L.length:=by simp
  have w1:IntKind.i64.wrap ((L.length:Int)-2)=(L.length:Int)-2:=wrap64 (by omega) (by omega);have w2:IntKind.i64.wrap ((L.length:Int)-1)=(L.length:Int)-1:=wrap64 (by omega) (by omega);have af:(0<=(L.length:Int)-2)=True:=eq_true (by omega);have ag:(0<=(L.length:Int)-1)=True:=eq_true (by omega);have t1:((L.length:Int)-2).toNat=L.length-2:=by omega
  have t2:((L.length:Int)-1).toNat=L.length-1:=by omega
  have q0:((L.length:Int)==0)=false:=beq_eq_false_iff_ne.2 (by omega);have q1:((L.length:Int)==1)=false:=beq_eq_false_iff_ne.2 (by omega);have q2:((L.length:Int)==2)=false:=beq_eq_false_iff_ne.2 (by omega);have H:(L.length-2<=L.length)=True:=eq_true (by omega);have hz:(0<=L.length-2)=True:=eq_true (by omega);have X:(∀y∈L.map V.s,(cells y).length=1)=True:=eq_true (by intro y hy;simp at hy;obtain⟨z,_,rfl⟩:=hy;rfl);have hT:∀s∈L.take (L.length-2),s.length<=2^20:=λs h=>hs s (Avv h);have a8:(L.take (L.length-2)).length<=1000:=by simp;omega
  have aa:(L.map V.s).take (L.length-2)=(L.take (L.length-2)).map V.s:=by simp
  generalize L.take (L.length-2)=T at *;refine Ah (vs:=[.s S]) Q5 (by simp) (by simp) λn0 C=>?_;clear C;simp only[push_cast,seval,reduceEqDiff,Y,w1,w2,af,ag,t1,t2,q0,q1,q2,ac,ad,H,hz,X,aa];have _h:=trivial;repeat' (first|(first|((first|apply Ab|apply Ag|apply Af)<;>intro _h)|refine Ac c1 ?_)<;>simp only[push_cast,seval,reduceEqDiff,_h,Y,w1,w2,af,ag,t1,t2,q0,q1,q2,ac,ad,H,hz,X,aa]|intro _)
  rename_i k1 k2 k3 k4 k5 k6 k7 k8;obtain⟨j,W⟩:∃x:Id,x=(n0+1+k1+1+k2+1+k3+1+k4+1+k5+1+k6,6):=⟨_,rfl⟩
  obtain⟨g,U⟩:∃x:Id,x=(n0,4):=⟨_,rfl⟩;obtain⟨o,O⟩:∃x:Id,x=(n0,2):=⟨_,rfl⟩;rw[<-W,<-U,<-O];have i6:j.1<n0+1+k1+1+k2+1+k3+1+k4+1+k5+1+k6+1+k7+1+k8:=by rw[W];simp only;omega
  have i4:g.1<n0+1+k1+1+k2+1+k3+1+k4+1+k5+1+k6+1+k7+1+k8:=by rw[U];simp only;omega
  have i2:o.1<n0+1+k1+1+k2+1+k3+1+k4+1+k5+1+k6+1+k7+1+k8:=by rw[O];simp only;omega
  have w:j≠g:=λB=>by grind
  have ap:j≠o:=λB=>by grind
  have ao:g≠o:=λB=>by grind
  clear W U O;generalize n0+1+k1+1+k2+1+k3+1+k4+1+k5+1+k6+1+k7+1+k8=n1 at *;refine AW (Ajz W0 (T.map V.s)) (λ_ _ h=>by cases h) (λn2 v σo H hR=>?_);obtain⟨f,ab,bl,rfl,rfl⟩:=hR;rw[Ue];simp only[push_cast,seval,reduceEqDiff,Y,w1,w2,af,ag,t1,t2,q0,q1,q2,ac,ad,H,hz,X,aa];intro k9;have j6:j.1<n2+1+k9:=by omega
  have j4:g.1<n2+1+k9:=by omega
  have j2:o.1<n2+1+k9:=by omega
  have js:f.1<n2+1+k9:=by omega
  have N:f≠j:=λB=>by rw[B] at ab;omega
  have M:f≠g:=λB=>by rw[B] at ab;omega
  have K:f≠o:=λB=>by rw[B] at ab;omega
  generalize n2+1+k9=n3 at *;obtain⟨ρ,ae⟩:∃x:Id,x=(n3,0):=⟨_,rfl⟩
  have r6:ρ≠j:=λB=>by grind
  have r4:ρ≠g:=λB=>by grind
  have r2:ρ≠o:=λB=>by grind
  have rs:ρ≠f:=λB=>by grind
  obtain⟨Bp,A⟩:∃x,x=V.agg [.s p.style,.s p.two,.s p.start,.s p.mid,.s p.fin]:=⟨_,rfl⟩;obtain⟨F,aq⟩:∃x:AE,x=[(2,.ref o 0),(4,.ref g 0),(6,.ref j 0),(49,.any),(50,.any)]:=⟨_,rfl⟩;obtain⟨LP,m⟩:∃x:LoopState->Option (Option Nat)->Ax,x=λs D=>.loop 66 F [49,50] Ef El s D:=⟨_,rfl⟩;obtain⟨t,aM⟩:∃x:LoopState->Option (Option Nat)->Aa->Aa->Al,x=λs D r q=>[(ρ,LP s D),(j,.box (.s r)),(g,.box (.s q)),(o,.box Bp)]:=⟨_,rfl⟩;have d:∀s D r q,t s D r q=[(ρ,LP s D),(j,.box (.s r)),(g,.box (.s q)),(o,.box Bp)]:=λs D r q=>by rw[aM]
  have Z:∀s D r q,lk (t s D r q) ρ=some (LP s D):=λs D r q=>by rw[d];simp[lk]
  have hI:∀s D r q,lk (t s D r q) f=none:=λs D r q=>by rw[d];simp[lk,rs,AhZ N,AhZ M,AhZ K]
  have hY:∀k σ e,(∃r:Aa,JR p (T.reverse.drop k) r=S/\r.length<=2^22/\σ=t .ready none r [])->k<T.length->T[T.length-1-k]?=some e->
    ∃R,U5 Tryz.prog W0 [.arr ρ,.i .i64 ((T.length:Int)-1-k),.s e] σ R/\∀n n' v σ',R n n' v σ'->(v=.b true/\∃r:Aa,JR p (T.reverse.drop (k+1)) r=S/\r.length<=2^22/\σ'=t .ready none r [])\/(v=.b false/\∃r:Aa,σ'=t .done (some none) r S):=by
   rintro k _ e ⟨r,E,bk,rfl⟩ hk B;obtain⟨R,hR⟩:∃R:Nat->Nat->V->Al->Prop,R=λn n' v σ'=>(v=.b true/\∃r:Aa,JR p (T.reverse.drop (k+1)) r=S/\r.length<=2^22/\σ'=t .ready none r [])\/(v=.b false/\∃r:Aa,σ'=t .done (some none) r S):=⟨_,rfl⟩;refine⟨R,?_,λn n' v σ' h=>by rw[hR] at h;exact h⟩;have hd:T.reverse.drop k=e::T.reverse.drop (k+1):=by
    rw[Axt (by simpa using hk)];congr 1;have:T.reverse[k]?=some e:=by rw[List.getElem?_reverse hk];exact B
    rw[Ai0 (by simpa using hk)] at this;exact Option.some.inj this
   have aN:(T.reverse.drop (k+1)).isEmpty=((T.length:Int)-1-k==0):=by rw[Atk,Aw4,List.drop_eq_nil_iff,beq_iff_eq,AxJ];omega
   rw[hd,JR,aN] at E;have au:=Z .ready none r [];rw[m] at au;refine AjR gG au rfl rfl rfl λn hn=>?_;clear hn;rw[aq];simp only[Ix];rw[d,A];have f1:(ρ=j)=False:=eq_false r6;have f2:(ρ=g)=False:=eq_false r4;have f3:(ρ=o)=False:=eq_false r2;have I:(j=g)=False:=eq_false w;have f5:(j=o)=False:=eq_false ap;have f6:(g=o)=False:=eq_false ao;have f7:(g=j)=False:=eq_false (AhZ w);have f8:(j=ρ)=False:=eq_false (AhZ r6);have f9:(g=ρ)=False:=eq_false (AhZ r4);have ba:e.length<=2^20:=hT e (Aln B);simp only[push_cast,seval,reduceEqDiff,f1,f2,f3,I,f5,f6,f7,f8,f9];intro k1 k2;refine⟨66,F,[49,50],Ef,El,none,by rw[m],?_⟩;cases hg:decide ((r.length:Int)>20000) with
   | true=>
    rw[if_pos (of_decide_eq_true hg)] at E;subst E;simp only[push_cast,seval,reduceEqDiff,f1,f2,f3,I,f5,f6,f7,f8,f9,hg];intros;refine⟨_,Ak.refl,some none,66,F,[49,50],Ef,El,.busy,none,t .done (some none) r r,rfl,?_,?_,?_⟩
    ·simp[lk]
    ·rw[d,m,A];simp only[upd,if_true];exact λ_ _ h=>h
    ·rw[hR];exact .inr ⟨rfl,r,rfl⟩
   | false=>
    have aP:=of_decide_eq_false hg;rw[if_neg aP] at E;obtain⟨Q,hQ⟩:∃Q:Aa,Q=if((T.length:Int)-1-k==0)=true then p.start else p.mid:=⟨_,rfl⟩
    have aL:Q.length<=2^20:=by rw[hQ];split<;>assumption
    rw[<-hQ] at E;obtain⟨c2,bd⟩:=hf Q e r aL (by omega) (by omega);generalize bc:Fg Q e r=r' at *;cases G:((T.length:Int)-1-k==0) with
    | true=>
     rw[G,if_pos rfl] at hQ;subst hQ;simp only[push_cast,seval,reduceEqDiff,f1,f2,f3,I,f5,f6,f7,f8,f9,hg,G];have _h:=trivial;repeat' (first|(first|((first|apply Ab|apply Ag|apply Af)<;>intro _h)|refine Ac c2 ?_)<;>simp only[push_cast,seval,reduceEqDiff,_h,f1,f2,f3,I,f5,f6,f7,f8,f9]|intro _)
     refine⟨_,Ak.refl,none,66,F,[49,50],Ef,El,.busy,none,t .ready none r' [],rfl,?_,?_,?_⟩
     ·simp[lk]
     ·rw[d,m,A];simp only[upd,if_true];exact λ_ _ h=>h
     ·rw[hR];exact .inl ⟨rfl,r',E,by omega,rfl⟩
    | false=>
     rw[G,if_neg (by simp)] at hQ;subst hQ;simp only[push_cast,seval,reduceEqDiff,f1,f2,f3,I,f5,f6,f7,f8,f9,hg,G];have _h:=trivial;repeat' (first|(first|((first|apply Ab|apply Ag|apply Af)<;>intro _h)|refine Ac c2 ?_)<;>simp only[push_cast,seval,reduceEqDiff,_h,f1,f2,f3,I,f5,f6,f7,f8,f9]|intro _)
     refine⟨_,Ak.refl,none,66,F,[49,50],Ef,El,.busy,none,t .ready none r' [],rfl,?_,?_,?_⟩
     ·simp[lk]
     ·rw[d,m,A];simp only[upd,if_true];exact λ_ _ h=>h
     ·rw[hR];exact .inl ⟨rfl,r',E,by omega,rfl⟩
  rw[<-A];have J:restrict [2,4,6,49,50] [(2,V.ref o 0),(4,.ref g 0),(6,.ref j 0),(48,.fn 314 [] [.ref f 0])]=F:=by rw[aq];simp[restrict,get]
  refine AiY gG rfl (yX W0 T (by omega) (n3,0) f (λk σ=>∃r:Aa,JR p (T.reverse.drop k) r=S/\r.length<=2^22/\σ=t .ready none r []) (λσ=>∃r:Aa,σ=t .done (some none) r S) ?_ (by rw[<-ae];exact hY) (t .ready none r0 []) ⟨r0,by simpa using hS,by omega,rfl⟩) ?_ ?_
  ·rintro k _ ⟨r,_,_,rfl⟩;exact hI _ _ _ _
  ·rw[J,<-ae,d,m];intro id e h;simp only[lk,Anz,AqW] at h⊢;by_cases x1:f=id
   ·subst x1;simpa[rs,AhZ N,AhZ M,AhZ K] using h
   ·simpa[x1] using h
  ·rintro n' v σo bf ho;rw[J,<-ae];have aR:over (t .ready none r0 []++[(f,.box (.sl (T.map V.s)))]) σo [(ρ,Ax.loop 66 F [49,50] Ef El .ready none),(f,.box (.sl (T.map V.s))),(j,.box (.s r0)),(g,.box (.s [])),(o,.box Bp)]=σo:=by unfold over;rw[d];simp[lk,r6,r4,r2,rs,w,ap,ao,AhZ N,AhZ M,AhZ K]
   rw[aR];rcases ho with⟨r,E,_,rfl⟩|⟨r,rfl⟩
   ·rw[List.drop_eq_nil_of_le (by simp),JR] at E;subst E;refine⟨66,F,[49,50],Ef,El,.ready,none,by rw[Z,m],rfl,?_⟩;rw[d,A];have I:(j=g)=False:=eq_false w;have f8:(j=ρ)=False:=eq_false (AhZ r6);have f9:(g=ρ)=False:=eq_false (AhZ r4);have fa:(o=ρ)=False:=eq_false (AhZ r2);have fb:(j=g)=False:=eq_false w;simp only[push_cast,seval,reduceEqDiff,I,eY,f8,f9,fa,fb];intro k;exact H8 (u:=.s r) rfl (by simp[lk,w]) rfl
   ·refine⟨66,F,[49,50],Ef,El,.done,some none,by rw[Z,m],rfl,?_⟩;rw[d,A];have f8:(j=ρ)=False:=eq_false (AhZ r6);have f9:(g=ρ)=False:=eq_false (AhZ r4);have fa:(o=ρ)=False:=eq_false (AhZ r2);simp only[push_cast,seval,reduceEqDiff,eY,f8,f9,fa];exact H8 (u:=.s S) rfl (by simp[lk,w]) rfl
theorem AbC(i:Nat)(h:i<2):(AR i).length=3:=by
 have:i=0\/i=1:=by omega
 rcases this with rfl|rfl<;>(unfold AR Lib.decDigits;rfl)
theorem Je:∀(s p:Aa),Lib.index s p=-1\/0<=Lib.index s p/\Lib.index s p+p.length<=s.length
 | [],p=>by unfold Lib.index;grind
 | b::l,p=>by
  unfold Lib.index;split
  ·grind
  ·split
   ·left;rfl
   ·rename_i h;right;rcases Je l p with a|⟨a,c⟩
    ·grind
    grind
theorem yZ(s p:Aa)(hp:p.length=3)(h:Lib.count s p=1):(Lib.replace s p [0] 1).length<=s.length:=by
 have a:(p==[0])=false:=by grind
 unfold Lib.replace Lib.replaceNum;rw[a];simp only[AcY,if_false,h];have b:¬((1:Int)<0\/((1:Nat):Int)<1):=by omega
 rw[if_neg b];show(Lib.replaceK p [0] 1 s).length<=s.length;unfold Lib.replaceK;split
 ·omega
 ·rename_i d;rcases Je s p with c|⟨c,e⟩
  ·grind
  ·unfold Lib.replaceK;grind
theorem Oq(y:B8 W0)(s:Aa)(n:Nat)(E:1<=n)(F:n<=2)(A:s.length<=2^20):An Tryz.prog W0 212 [.s s,.i .i64 n] [] (.b (Q0 s n)) []:=by
 generalize hS:Q0 s n=S;unfold Q0 at hS;have r:decide ((n:Int)<1)=false:=by simp;omega
 have t:decide ((n:Int)>9)=false:=by simp;omega
 refine Ah (vs:=[.b S]) AjI (by simp) (by simp) λn0 u=>?_;clear u;simp only[push_cast,seval,reduceEqDiff,r,t]
 repeat' (first|(((first|apply Ab|apply Ag|apply Af)<;>intro _h)<;>simp only[push_cast,seval,reduceEqDiff,_h,r,t])|(refine As (by simp only[Agz,Ah5,Alo,AA]<;>omega) ?_;simp only[push_cast,seval,reduceEqDiff,r,t])|intro _)
 refine Am n (Inv:=λm st=>∃k q i,m+i=n/\Sl m i q=S/\q.length<=2^20/\st=⟨[(0,.s q),(13,.i .i64 n),(14,.i .i64 (i:Nat))],[],k⟩) ⟨_,Ak.refl,_,s,0,rfl,hS,A,rfl⟩ ?_;clear hS A;rintro m _ ⟨k,q,i,H,d,I,rfl⟩;cases m with
 | zero=>
  rw[Sl] at d;subst d;have a:decide ((i:Int)<(n:Int))=false:=by simp;omega
  have C:=rM W0 q (by omega);simp only[push_cast,seval,reduceEqDiff,a];have _h:=trivial;repeat' (first|(first|((first|apply Ab|apply Ag|apply Af)<;>intro _h)|refine Ac C ?_|refine As (by simp only[Agz,Ah5,Alo,AA]<;>omega) ?_)<;>simp only[push_cast,seval,reduceEqDiff,_h,a]|intro _)
  exact Ai (by simp[get])
 | succ m=>
  have a:decide ((i:Int)<(n:Int))=true:=by simp;omega
  have g:=AbC i (by omega);have l:=AgI W0 i (by omega);have j:=Acn W0 y q (AR i) (by omega) (by omega);rw[Sl] at d;have v:=yZ q (AR i) g;have e:123::Lib.decDigits i++[125]=AR i:=by unfold AR;simp
  have D:(Lib.decDigits i).length=1:=by unfold AR at g;simp at g;omega
  have w:=fun(h:(Lib.replace q (AR i) [0] 1).length<=AA)=>Nv W0 y q (AR i) [0] 1 (by omega) (by omega) (by simp;omega) h;have p:IntKind.i64.wrap ((i:Int)+1)=((i+1:Nat):Int):=by rw[wrap64 (by omega) (by omega)];omega
  have k1:(1+(Lib.decDigits i).length<=AA)=True:=eq_true (by unfold AA;omega);have k2:((123::Lib.decDigits i).length+1<=AA)=True:=eq_true (by simp;unfold AA;omega);have c:((Lib.count q (AR i):Int)==1)=(Lib.count q (AR i)==1):=by rw[Atk];simp;omega
  generalize G:AR i=x at *;cases f:(Lib.count q x==1) with
  | true=>
   rw[f] at d;simp only[if_true] at d;have z:=v (by simpa using f);have o:=w (by unfold AA;omega);generalize Lib.replace q x [0] 1=B at *;simp only[push_cast,seval,reduceEqDiff,a,p,k1,k2,e,c,f,bne];have _h:=trivial;repeat' (first|(first|((first|apply Ab|apply Ag|apply Af)<;>intro _h)|refine Ac l ?_|refine Ac j ?_|refine Ac o ?_|refine As (by simp only[Agz,Ah5,Alo,AA]<;>omega) ?_)<;>simp only[push_cast,seval,reduceEqDiff,_h,a,p,k1,k2,e,c,f,bne]|intro _)
   exact⟨m,_,Ab3 _,Ak.refl,_,B,i+1,by omega,d,by omega,by rw[Int.natCast_add];rfl⟩
  | false=>
   rw[f] at d;simp only[if_false,AcY] at d;subst d;simp only[push_cast,seval,reduceEqDiff,a,p,k1,k2,e,c,f,bne];have _h:=trivial;repeat' (first|(first|((first|apply Ab|apply Ag|apply Af)<;>intro _h)|refine Ac l ?_|refine Ac j ?_|refine As (by simp only[Agz,Ah5,Alo,AA]<;>omega) ?_)<;>simp only[push_cast,seval,reduceEqDiff,_h,a,p,k1,k2,e,c,f,bne]|intro _)
   exact Ai (by simp[get])
theorem Ql(s p:Aa):(Lib.cut s p).1.length+(Lib.cut s p).2.1.length<=s.length:=by unfold Lib.cut;grind
def Ag5:CF:=⟨[],[],[],[],[]⟩
theorem Ach(L:BO)(c:Aa)(l:L.lists.length<=2^20):An Tryz.prog W0 219 [L.enc,.s c] [] (.tup [((Hf c L.lists).getD Ag5).enc,.b (Hf c L.lists).isSome]) []:=by
 generalize hS:Hf c L.lists=S;rw[BO.enc_eq];refine Ah (vs:=[(S.getD Ag5).enc,.b S.isSome]) AiF (by simp) (by simp) λn0 h=>?_;clear h;simp only[push_cast,seval,reduceEqDiff]
 repeat' (first|(((first|apply Ab|apply Ag|apply Af)<;>intro _h)<;>simp only[push_cast,seval,reduceEqDiff,_h])|(refine As (by omega) ?_;simp only[push_cast,seval,reduceEqDiff])|intro _)
 rename_i k1 k2;refine Am L.lists.length (Inv:=λm st=>∃done a n,L.lists=done++a/\m=a.length/\Hf c a=S/\st=⟨[(1,.s c),(4,.ref (n0,4) 0),(9,.sl (L.lists.map CF.enc)),(10,.i .i64 L.lists.length),(11,.i .i64 done.length)],[((n0,4),.box (.agg [.s [],.s [],.s [],.s [],.s []]))],n⟩) ⟨_,Ak.pre (σ:=[_]) (Abm _),[],L.lists,_,rfl,rfl,hS,rfl⟩ ?_;clear hS;rintro m _ ⟨done,a,n,f,rfl,d,rfl⟩;cases a with
 | nil=>
  rw[Hf] at d;subst d;simp only[push_cast,seval,reduceEqDiff,f]
  repeat' (first|(((first|apply Ab|apply Ag|apply Af)<;>intro _h)<;>simp only[push_cast,seval,reduceEqDiff,_h])|(refine As (by omega) ?_;simp only[push_cast,seval,reduceEqDiff])|intro _)
  refine Ae ?_;simp[push_cast,get,Ag5]
 | cons p a=>
  have j:=AH f;rw[Hf] at d;have g:∀k:Nat,(((n+1+k,7):Id)=(n0,4))=False:=λk=>by simp
  cases e:(p.style==c) with
  | true=>
   rw[e] at d;simp only[if_true] at d;subst d;simp only[push_cast,seval,reduceEqDiff,f,Ad p (done:=done) (by omega),g,e]
   repeat' (first|(((first|apply Ab|apply Ag|apply Af)<;>intro _h)<;>simp only[push_cast,seval,reduceEqDiff,_h,f,Ad p (done:=done) (by omega),g,e])|(refine As (by omega) ?_;simp only[push_cast,seval,reduceEqDiff,f,Ad p (done:=done) (by omega),g,e])|intro _)
   refine Ae ?_;simp[push_cast,get]
  | false=>
   rw[e] at d;simp only[if_false,AcY] at d;simp only[push_cast,seval,reduceEqDiff,f,Ad p (done:=done) (by omega),g,e]
   repeat' (first|(((first|apply Ab|apply Ag|apply Af)<;>intro _h)<;>simp only[push_cast,seval,reduceEqDiff,_h,f,Ad p (done:=done) (by omega),g,e])|(refine As (by omega) ?_;simp only[push_cast,seval,reduceEqDiff,f,Ad p (done:=done) (by omega),g,e])|intro _)
   exact⟨_,_,Ab3 _,Ak.drop1 (by simp[lk]) (Abm _),done++[p],a,_,by simp,rfl,d,rfl⟩
theorem Aji(j:B8 W0)(p a b:Aa)(hp:p.length<=2^20)(q:a.length<=2^21)(r:b.length<=2^21):An Tryz.prog W0 280 [.s p,.s a,.s b] [] (.s (Fg p a b)) []/\(Fg p a b).length<=p.length+a.length+b.length:=by
 have e0:AR 0=[123,48,125]:=by unfold AR Lib.decDigits;rfl
 have m:AR 1=[123,49,125]:=by unfold AR Lib.decDigits;rfl
 have i:=UB W0 j p (AR 0) (by omega);have o:=Ql p (AR 0);have d:=UB W0 j (Lib.cut p (AR 0)).1 (AR 1) (by omega);have l1:=Ql (Lib.cut p (AR 0)).1 (AR 1);have f:=UB W0 j (Lib.cut p (AR 0)).2.1 (AR 1) (by omega);have l:=Ql (Lib.cut p (AR 0)).2.1 (AR 1);generalize hS:Fg p a b=S;unfold Fg at hS;rw[e0] at i o d l1 f l hS;rw[m] at d l1 f l hS;generalize Lib.cut p [123,48,125]=e at *;generalize Lib.cut e.1 [123,49,125]=g at *;generalize Lib.cut e.2.1 [123,49,125]=k at *;cases h:g.2.2 with
 | true=>
  rw[h] at d hS;simp only[if_true] at hS;subst hS;refine⟨?_,by simp only[Agz];omega⟩;refine Ah (vs:=[.s (g.1++b++g.2.1++a++e.2.1)]) sU (by simp) (by simp) λn0 c=>?_;clear c;simp only[push_cast,seval,reduceEqDiff];have _h:=trivial;repeat' (first|(first|((first|apply Ab|apply Ag|apply Af)<;>intro _h)|refine Ac i ?_|refine Ac d ?_|refine Ac f ?_|refine As (by simp only[Agz,Ah5,Alo,AA]<;>omega) ?_)<;>simp only[push_cast,seval,reduceEqDiff,_h]|intro _)
  exact Ai (by simp[get])
 | false=>
  rw[h] at d hS;simp only[if_false,AcY] at hS;subst hS;refine⟨?_,by simp only[Agz];omega⟩;refine Ah (vs:=[.s (e.1++a++k.1++b++k.2.1)]) sU (by simp) (by simp) λn0 c=>?_;clear c;simp only[push_cast,seval,reduceEqDiff];have _h:=trivial;repeat' (first|(first|((first|apply Ab|apply Ag|apply Af)<;>intro _h)|refine Ac i ?_|refine Ac d ?_|refine Ac f ?_|refine As (by simp only[Agz,Ah5,Alo,AA]<;>omega) ?_)<;>simp only[push_cast,seval,reduceEqDiff,_h]|intro _)
  exact Ai (by simp[get])
structure Af7 (L:BO):Prop where
 n:L.lists.length<=2^20
 t:∀p∈L.lists,p.two.length<=2^20/\p.start.length<=2^20/\p.mid.length<=2^20/\p.fin.length<=2^20
theorem O8{st:Aa}:∀{l:List CF} {p:CF},Hf st l=some p->p∈l
 | [],p,h=>by cases h
 | x::l,p,h=>by
  rw[Hf] at h;split at h
  ·cases h;simp
  ·exact AaC _ (O8 h)
theorem AcT(f:B8 W0)(p:CF)(l:List Aa)(hp:p.two.length<=2^20/\p.start.length<=2^20/\p.mid.length<=2^20/\p.fin.length<=2^20)(g:l.length<=1000)(h:∀s∈l,s.length<=2^20):An Tryz.prog W0 220 [p.enc,.sl (l.map V.s)] [] (.s (On p l)) []:=by exact sP W0 p l hp g h (λq a b c d e=>Aji W0 f q a b c d e)
theorem YC(D:B8 W0)(L:BO)(C:Af7 L)(c:Aa)(l:List Aa)(K:l.length<=2^30)(I:∀s∈l,s.length<=2^20):An Tryz.prog W0 159 [L.enc,.s c,.sl (l.map V.s)] [] (.tup [.s (Eh L c l).1,.i .i64 (Eh L c l).2]) []:=by
 have j:=Ach W0 L c C.n;generalize hS:Eh L c l=S;unfold Eh at hS;rw[BO.enc_eq] at j⊢;cases y:Hf c L.lists with
 | none=>
  rw[y] at j hS;simp only[Option.getD_none,AtT] at j;simp only at hS;subst hS;refine Ah (vs:=[.s [],.i .i64 18]) jD (by simp) (by simp) λn0 o=>?_;clear o;simp only[push_cast,seval,reduceEqDiff];have _h:=trivial;repeat' (first|(first|((first|apply Ab|apply Ag|apply Af)<;>intro _h)|refine Ac j ?_|refine As (by omega) ?_)<;>simp only[push_cast,seval,reduceEqDiff,_h]|intro _)
  refine Ae ?_;simp[push_cast,get]
 | some p=>
  have B:=C.t p (O8 y);rw[y] at j hS;simp only[Option.getD_some,Ars] at j;simp only at hS;have u:=λh=>AcT W0 D p l B h I;generalize On p l=w at *;rw[CF.enc_eq] at j u;have k:kL p=[p.two,p.start,p.mid,p.fin].all λs=>Q0 s 2:=rfl;obtain⟨Q,v⟩:∃Q,Q=[p.two,p.start,p.mid,p.fin]:=⟨_,rfl⟩
  have A:∀s∈Q,s.length<=2^20:=by grind
  have z:Q.length=4:=by rw[v];rfl
  have r:Q.map V.s=[.s p.two,.s p.start,.s p.mid,.s p.fin]:=by rw[v];rfl
  rw[<-v] at k;generalize kL p=J at *;clear v;refine Ah (vs:=[.s S.1,.i .i64 S.2]) jD (by simp) (by simp) λn0 o=>?_;clear o;simp only[push_cast,seval,reduceEqDiff];have _h:=trivial;repeat' (first|(first|((first|apply Ab|apply Ag|apply Af)<;>intro _h)|refine Ac j ?_|refine As (by omega) ?_)<;>simp only[push_cast,seval,reduceEqDiff,_h]|intro _)
  rename_i k1 k2 k3 M;have g:(4:Int)=(Q.length:Int):=by rw[z];rfl
  generalize H:((n0+1+k1,8):Id)=F;refine Am Q.length (Inv:=λm st=>∃done a n,Q=done++a/\m=a.length/\(if a.all (λs=>Q0 s 2) then(if(l.length:Int)>1000 then(([]:Aa),(6:Int)) else if(w.length:Int)>20000 then([],6) else(w,0)) else([],4))=S/\st=⟨[(2,.sl (l.map V.s)),(8,.ref F 0),(29,.sl (Q.map V.s)),(30,.i .i64 Q.length),(31,.i .i64 done.length)],[(F,.box (.agg [.s p.style,.s p.two,.s p.start,.s p.mid,.s p.fin]))],n⟩) ⟨_,Ak.pre (σ:=[_]) (Abm _),[],Q,_,rfl,rfl,by rw[<-k];exact hS,by rw[r,<-g];rfl⟩ ?_;clear hS k r g;rintro m _ ⟨done,a,n,f,rfl,b,rfl⟩;cases a with
  | nil=>
   simp only[List.all_nil,if_true] at b;cases d:decide ((l.length:Int)>1000) with
   | true=>
    rw[if_pos (of_decide_eq_true d)] at b;subst b;simp only[push_cast,seval,reduceEqDiff,d,f]
    repeat' (first|(((first|apply Ab|apply Ag|apply Af)<;>intro _h)<;>simp only[push_cast,seval,reduceEqDiff,_h,d])|(refine As (by omega) ?_;simp only[push_cast,seval,reduceEqDiff,d])|intro _)
    refine Ae ?_;simp[push_cast,get]
   | false=>
    have x:=of_decide_eq_false d;rw[if_neg x] at b;have E:=u (by omega);cases q:decide ((w.length:Int)>20000) with
    | true=>
     rw[if_pos (of_decide_eq_true q)] at b;subst b;simp only[push_cast,seval,reduceEqDiff,d,q,f];have _h:=trivial;repeat' (first|(first|((first|apply Ab|apply Ag|apply Af)<;>intro _h)|refine Ac E ?_|refine As (by omega) ?_)<;>simp only[push_cast,seval,reduceEqDiff,_h,d,q]|intro _)
     refine Ae ?_;simp[push_cast,get]
    | false=>
     rw[if_neg (of_decide_eq_false q)] at b;subst b;simp only[push_cast,seval,reduceEqDiff,d,q,f];have _h:=trivial;repeat' (first|(first|((first|apply Ab|apply Ag|apply Af)<;>intro _h)|refine Ac E ?_|refine As (by omega) ?_)<;>simp only[push_cast,seval,reduceEqDiff,_h,d,q]|intro _)
     refine Ae ?_;simp[push_cast,get]
  | cons s a=>
   have G:=AH f;have e:=Oq W0 D s 2 (by omega) (by omega) (A s (by rw[f];simp));rw[Axc] at b;cases hB:Q0 s 2 with
   | true=>
    rw[hB] at b e;simp only[AtA] at b;simp only[push_cast,seval,reduceEqDiff,f,Ad s (done:=done) (by omega)];have _h:=trivial;repeat' (first|(first|((first|apply Ab|apply Ag|apply Af)<;>intro _h)|refine Ac e ?_|refine As (by omega) ?_)<;>simp only[push_cast,seval,reduceEqDiff,_h,f,Ad s (done:=done) (by omega)]|intro _)
    exact⟨_,_,Ab3 _,Ak.refl,done++[s],a,_,by simp,rfl,b,rfl⟩
   | false=>
    rw[hB] at b e;simp only[AvE,AcY,if_false] at b;subst b;simp only[push_cast,seval,reduceEqDiff,f,Ad s (done:=done) (by omega)];have _h:=trivial;repeat' (first|(first|((first|apply Ab|apply Ag|apply Af)<;>intro _h)|refine Ac e ?_|refine As (by omega) ?_)<;>simp only[push_cast,seval,reduceEqDiff,_h,f,Ad s (done:=done) (by omega)]|intro _)
    refine Ae ?_;simp[push_cast,get]
def Kj(l:List (Aa×Aa×Aa)):List (V×V):=l.map λe=>(.agg [.s e.1,.s e.2.1],.s e.2.2)
def UK:CD:=.st [(0,.str),(1,.str)]
def F9(u c:Aa):List (Aa×Aa×Aa)->Option Aa
 | []=>none
 | e::l=>if u==e.1&&c==e.2.1 then some e.2.2 else F9 u c l
theorem UJ(u c:Aa):∀(l:List (Aa×Aa×Aa)) (n:Nat),(∃i p,F9 u c l=some p/\Br UK (.agg [.s u,.s c]) (Kj l) n=some (some (i,.s p)))\/(F9 u c l=none/\Br UK (.agg [.s u,.s c]) (Kj l) n=some none):=by
 intro l
 induction l with
 | nil=>intro n;right;exact⟨rfl,rfl⟩
 | cons e l d=>
  intro n;have a:Et UK (.agg [.s u,.s c]) (.agg [.s e.1,.s e.2.1])=some (u==e.1&&c==e.2.1):=by unfold UK Et;simp only[Ah5,Alo,and_self,if_true,eqO,Awq,Avm,Eb];cases(u==e.1)<;>cases(c==e.2.1)<;>rfl
  have b:Br UK (.agg [.s u,.s c]) (Kj (e::l)) n=(match Et UK (.agg [.s u,.s c]) (.agg [.s e.1,.s e.2.1]) with
   | some true=>some (some (n,.s e.2.2))
   | some false=>Br UK (.agg [.s u,.s c]) (Kj l) (n+1)
   | none=>none):=rfl
  rw[b,a,F9];grind
def OV(l:List (Aa×Aa×Aa))(x:Dt):List (Aa×Aa×Aa):=match F9 x.unit x.cls l with
 | some _=>l
 | none=>l++[(x.unit,x.cls,x.pat)]
theorem ZD(u c:Aa)(l:List (Aa×Aa×Aa))(e:Aa×Aa×Aa):F9 u c (l++[e])=match F9 u c l with
  | some p=>some p
  | none=>if u==e.1&&c==e.2.1 then some e.2.2 else none:=by
 induction l with
 | nil=>rfl
 | cons x l a=>rw[Anz,F9,F9];grind
theorem LW(u c:Aa):∀(us:List Dt) (l:List (Aa×Aa×Aa)),F9 u c (us.foldl OV l)=match F9 u c l with
  | some p=>some p
  | none=>KV u c us:=by
 intro us
 induction us with
 | nil=>intro l;simp only[AwR,KV];split<;>simp_all
 | cons x us b=>
  intro l;rw[Awx,b,KV];have a:(x.unit==u&&x.cls==c)=(u==x.unit&&c==x.cls):=by grind
  rw[a];unfold OV;cases d:F9 x.unit x.cls l with
  | some p=>grind
  | none=>simp only;rw[ZD];grind
theorem KP(l:List (Aa×Aa×Aa))(u c p:Aa):Kj l++[(.agg [.s u,.s c],.s p)]=Kj (l++[(u,c,p)]):=by simp[Kj]
theorem Ak1(L:BO)(y:L.units.length<=2^20):Jh Tryz.prog W0 268 [L.enc] [] (.map (Kj (L.units.foldl OV []))) []:=by
 generalize hS:L.units.foldl OV []=S;rw[BO.enc_eq];refine XE (s:=2) AjS (by simp) (by simp[lk]) λn0 t=>?_;clear t;simp only[push_cast,seval,reduceEqDiff]
 repeat' (first|(((first|apply Ab|apply Ag|apply Af)<;>intro _h)<;>simp only[push_cast,seval,reduceEqDiff,_h])|(refine As (by omega) ?_;simp only[push_cast,seval,reduceEqDiff])|intro _)
 rename_i k1 k2 k3;generalize v:((n0+1+k1,9):Id)=mid;have r:mid.1<n0+1+k1+1+k2+1+k3:=by grind
 generalize n0+1+k1+1+k2+1+k3=z at *;refine Am L.units.length (Inv:=λm st=>∃done b n M,L.units=done++b/\m=b.length/\b.foldl OV M=S/\mid.1<n/\st=⟨[(3,.arr mid),(11,.sl (L.units.map Dt.enc)),(12,.i .i64 L.units.length),(13,.i .i64 done.length)],[(mid,.map (Kj M))],n⟩) ⟨_,Ak.drop (λi e h=>AP (τ:=[_]) h) (Abm _),[],L.units,_,[],rfl,rfl,hS,r,rfl⟩ ?_;clear hS r;rintro m _ ⟨done,b,n,M,o,rfl,g,x,rfl⟩;cases b with
 | nil=>simp only[AwR] at g;subst g;simp only[push_cast,seval,reduceEqDiff,o];intros;exact Acd rfl (by simp[lk])
 | cons u b=>
  have w:=AH o;rw[Awx] at g;have f:∀k j,(mid=(n+1+k,j))=False:=λk j=>eq_false λq=>by grind
  have d:∀k j,((n+1+k,j)=mid)=False:=λk j=>eq_false λq=>of_eq_false (f k j) q.symm;have c:∀k l j,(mid=(n+1+k+1+l,j))=False:=λk l j=>eq_false λq=>by grind
  have a:∀k l j,((n+1+k+1+l,j)=mid)=False:=λk l j=>eq_false λq=>of_eq_false (c k l j) q.symm;unfold OV at g;rcases UJ u.unit u.cls M 0 with⟨i,p,h1,h2⟩|⟨h1,h2⟩
  ·rw[h1] at g;simp only at g;unfold UK at h2;simp only[push_cast,seval,reduceEqDiff,o,Ad u (done:=done) (by omega),h2,f,d,c,a]
   repeat' (first|(((first|apply Ab|apply Ag|apply Af)<;>intro _h)<;>simp only[push_cast,seval,reduceEqDiff,_h,o,Ad u (done:=done) (by omega),h2,f,d,c,a])|(refine As (by omega) ?_;simp only[push_cast,seval,reduceEqDiff,o,Ad u (done:=done) (by omega),h2,f,d,c,a])|intro _)
   exact⟨_,_,Ab3 _,Ak.drop (λi e h=>by obtain⟨rfl,rfl⟩:=WH h;simp[lk,d,a]) (Abm _),done++[u],b,_,_,by simp,rfl,g,by omega,rfl⟩
  ·rw[h1] at g;simp only at g;unfold UK at h2;simp only[push_cast,seval,reduceEqDiff,o,Ad u (done:=done) (by omega),h2,f,d,c,a,KP]
   repeat' (first|(((first|apply Ab|apply Ag|apply Af)<;>intro _h)<;>simp only[push_cast,seval,reduceEqDiff,_h,o,Ad u (done:=done) (by omega),h2,f,d,c,a,KP])|(refine As (by omega) ?_;simp only[push_cast,seval,reduceEqDiff,o,Ad u (done:=done) (by omega),h2,f,d,c,a,KP])|intro _)
   exact⟨_,_,Ab3 _,Ak.drop (λi e h=>by obtain⟨rfl,rfl⟩:=WH h;simp[lk,d,a]) (Abm _),done++[u],b,_,_,by simp,rfl,g,by omega,rfl⟩
theorem fF(L:BO)(u c:Aa):Kh L u c=match F9 u c (L.units.foldl OV []) with
  | some p=>some p
  | none=>F9 u [111,116,104,101,114] (L.units.foldl OV []):=by
 unfold Kh;rw[LW,LW];rfl
theorem Acf(L:BO)(u c:Aa)(g:L.units.length<=2^20):An Tryz.prog W0 211 [L.enc,.s u,.s c] [] (.tup [.s ((Kh L u c).getD []),.b (Kh L u c).isSome]) []:=by
 have hp:=Ak1 W0 L g;generalize hS:Kh L u c=S;rw[fF] at hS;generalize L.units.foldl OV []=M at *;rw[BO.enc_eq] at hp⊢;have d:=UJ u c M 0;have f:=UJ u [111,116,104,101,114] M 0;unfold UK at d f;refine Ah (vs:=[.s (S.getD []),.b S.isSome]) Aju (by simp) (by simp) λn0 a=>?_;clear a;simp only[push_cast,seval,reduceEqDiff];intro k1;refine LE hp (λi e h=>by simp[lk] at h) ?_;rw[HE];rcases d with⟨i,p,h1,h2⟩|⟨h1,h2⟩
 ·rw[h1] at hS;simp only at hS;subst hS;simp only[push_cast,seval,reduceEqDiff,h2]
  repeat' (first|(((first|apply Ab|apply Ag|apply Af)<;>intro _h)<;>simp only[push_cast,seval,reduceEqDiff,_h,h2])|(refine As (by omega) ?_;simp only[push_cast,seval,reduceEqDiff,h2])|intro _)
  refine Ae ?_;simp[push_cast,get]
 ·rw[h1] at hS;simp only at hS;rcases f with⟨i,p,h3,h4⟩|⟨h3,h4⟩
  ·rw[h3] at hS;subst hS;simp only[push_cast,seval,reduceEqDiff,h2,h4]
   repeat' (first|(((first|apply Ab|apply Ag|apply Af)<;>intro _h)<;>simp only[push_cast,seval,reduceEqDiff,_h,h2,h4])|(refine As (by omega) ?_;simp only[push_cast,seval,reduceEqDiff,h2,h4])|intro _)
   refine Ae ?_;simp[push_cast,get]
  ·rw[h3] at hS;subst hS;simp only[push_cast,seval,reduceEqDiff,h2,h4]
   repeat' (first|(((first|apply Ab|apply Ag|apply Af)<;>intro _h)<;>simp only[push_cast,seval,reduceEqDiff,_h,h2,h4])|(refine As (by omega) ?_;simp only[push_cast,seval,reduceEqDiff,h2,h4])|intro _)
   refine Ae ?_;simp[push_cast,get]
structure We (L:BO):Prop where
 n:L.units.length<=2^20
 p:∀u∈L.units,u.pat.length<=2^16
theorem Kn{u c:Aa}:∀{l:List Dt} {p:Aa},KV u c l=some p->∃x∈l,x.pat=p
 | [],p,h=>by cases h
 | x::l,p,h=>by
  rw[KV] at h;split at h
  ·grind
  ·obtain⟨y,a,b⟩:=Kn h;grind
theorem ON{L:BO}(b:We L){u c p:Aa}(h:Kh L u c=some p):p.length<=2^16:=by
 unfold Kh at h;split at h
 ·rename_i q d;cases h;obtain⟨x,a,rfl⟩:=Kn d;exact b.p x a
 ·obtain⟨x,a,rfl⟩:=Kn h;exact b.p x a
theorem GP(L:BO)(a:Lj L)(n st:Aa)(b:n.length<=2^30):(Cw L n st).1.length<=2^23+2^19:=by
 have l1:=DY L a (CQ n).1 (K0 n);have d:=DY L a (CI n).1 (KO n);have e:=a.perc;unfold Cw;cases hB:DF n with
 | false=>simp
 | true=>have c:=DY L a n (Pi hB);grind
def Eg(L:BO)(u n:Aa):Aa×Int:=
 if(C7 L.card n).2==0 then
  match Kh L u (C7 L.card n).1 with
  | none=>([],18)
  | some p=>if Q0 p 1 then(if(Cw L n []).2==0 then(Lib.replace p [123,48,125] (Cw L n []).1 1,0) else([],(Cw L n []).2)) else([],4)
 else([],(C7 L.card n).2)
theorem RK(s p t:Aa):(Lib.replace s p t 1).length<=s.length+t.length:=by
 have c:∀s,(Lib.replaceK p t 1 s).length<=s.length+t.length:=by
  intro s;unfold Lib.replaceK;split
  ·omega
  ·rename_i d;rcases Je s p with b|⟨b,e⟩
   ·grind
   ·unfold Lib.replaceK;grind
 unfold Lib.replace Lib.replaceNum;split
 ·omega
 ·split
  ·rename_i h;have a:Lib.count s p=0:=by omega
   rw[a];unfold Lib.replaceK;omega
  ·exact c s
theorem Zp(t:B8 W0)(L:BO)(r:Lj L)(v:We L)(u n:Aa)(h:n.length<=2^30)(y:A9 L.card<=2^30):An Tryz.prog W0 157 [L.enc,.s u,.s n] [] (.tup [.s (Eg L u n).1,.i .i64 (Eg L u n).2]) []:=by
 have e:=VD W0 L.card n h y;have g:=Acf W0 L u (C7 L.card n).1 v.n;have f:=N4 W0 L r n [] h;have j:=GP L r n [] h;have m:=@ON L v u (C7 L.card n).1;generalize hS:Eg L u n=S;unfold Eg at hS;generalize C7 L.card n=C at *;generalize Cw L n []=N at *;generalize Kh L u C.1=U at *;rw[BO.enc_eq] at *;obtain⟨A,q⟩:=C;obtain⟨o,w⟩:=N;simp only at *;cases b:(q==0) with
 | false=>
  rw[b] at hS;simp only[AcY,if_false] at hS;subst hS;refine Ah (vs:=[.s [],.i .i64 q]) Nl (by simp) (by simp) λn0 a=>?_;clear a;simp only[push_cast,seval,reduceEqDiff,bne,b];have _h:=trivial;repeat' (first|(first|((first|apply Ab|apply Ag|apply Af)<;>intro _h)|refine Ac e ?_|refine As (by omega) ?_)<;>simp only[push_cast,seval,reduceEqDiff,_h,bne,b]|intro _)
  refine Ae ?_;simp[push_cast,get]
 | true=>
  rw[b] at hS;simp only[if_true] at hS;cases U with
  | none=>
   simp only at hS;subst hS;refine Ah (vs:=[.s [],.i .i64 18]) Nl (by simp) (by simp) λn0 a=>?_;clear a;simp only[push_cast,seval,reduceEqDiff,bne,b,Option.getD_none,AtT];have _h:=trivial;repeat' (first|(first|((first|apply Ab|apply Ag|apply Af)<;>intro _h)|refine Ac e ?_|refine Ac g ?_|refine As (by omega) ?_)<;>simp only[push_cast,seval,reduceEqDiff,_h,bne,b,Option.getD_none,AtT]|intro _)
   refine Ae ?_;simp[push_cast,get]
  | some p=>
   have k:=m rfl;have c:=Oq W0 t p 1 (by omega) (by omega) (by omega);have z:=RK p [123,48,125] o;have l:=Nv W0 t p [123,48,125] o 1 (by omega) (by simp) (All (AxN k j) (by omega)) (by unfold AA;omega);simp only at hS;cases hB:Q0 p 1 with
   | false=>
    rw[hB] at hS c;simp only[AcY,if_false] at hS;subst hS;refine Ah (vs:=[.s [],.i .i64 4]) Nl (by simp) (by simp) λn0 a=>?_;clear a;simp only[push_cast,seval,reduceEqDiff,bne,b,Option.getD_some,Ars];have _h:=trivial;repeat' (first|(first|((first|apply Ab|apply Ag|apply Af)<;>intro _h)|refine Ac e ?_|refine Ac g ?_|refine Ac c ?_|refine As (by omega) ?_)<;>simp only[push_cast,seval,reduceEqDiff,_h,bne,b,Option.getD_some,Ars]|intro _)
    refine Ae ?_;simp[push_cast,get]
   | true=>
    rw[hB] at hS c;simp only[if_true] at hS;cases d:(w==0) with
    | false=>
     rw[d] at hS;simp only[AcY,if_false] at hS;subst hS;refine Ah (vs:=[.s [],.i .i64 w]) Nl (by simp) (by simp) λn0 a=>?_;clear a;simp only[push_cast,seval,reduceEqDiff,bne,b,d,Option.getD_some,Ars];have _h:=trivial;repeat' (first|(first|((first|apply Ab|apply Ag|apply Af)<;>intro _h)|refine Ac e ?_|refine Ac g ?_|refine Ac c ?_|refine Ac f ?_|refine As (by omega) ?_)<;>simp only[push_cast,seval,reduceEqDiff,_h,bne,b,d,Option.getD_some,Ars]|intro _)
     refine Ae ?_;simp[push_cast,get]
    | true=>
     rw[d] at hS;simp only[if_true] at hS;subst hS;generalize Lib.replace p [123,48,125] o 1=x at *;refine Ah (vs:=[.s x,.i .i64 0]) Nl (by simp) (by simp) λn0 a=>?_;clear a;simp only[push_cast,seval,reduceEqDiff,bne,b,d,Option.getD_some,Ars];have _h:=trivial;repeat' (first|(first|((first|apply Ab|apply Ag|apply Af)<;>intro _h)|refine Ac e ?_|refine Ac g ?_|refine Ac c ?_|refine Ac f ?_|refine Ac l ?_|refine As (by omega) ?_)<;>simp only[push_cast,seval,reduceEqDiff,_h,bne,b,d,Option.getD_some,Ars]|intro _)
     refine Ae ?_;simp[push_cast,get]
def Nk(k t:Int):Bool:=if k==2 then !(t==4) else if k==5 then t==3 else if k==6 then t==4 else t==2
theorem Ak9(k:Int)(v:AY):An Tryz.prog W0 156 [.i .i64 k,v.enc] [] (.b (Nk k v.type)) []:=by
 generalize hS:Nk k v.type=S;unfold Nk at hS;rw[AY.enc_eq];refine Ah (vs:=[.b S]) Ah4 (by simp) (by simp) λn0 e=>?_;clear e;simp only[push_cast,seval,reduceEqDiff,bne]
 all_goals (cases a:(k==2)<;>cases c:(k==5)<;>cases d:(k==6))
 all_goals ((try simp only[a,c,d,bq,if_true,if_false,Int.reduceBEq,reduceCtorEq] at hS);subst hS)
 all_goals (try simp only[push_cast,seval,reduceEqDiff,a,c,d,bne])
 all_goals (repeat' (first|((first|refine As (by omega) ?_);(try simp only[push_cast,seval,reduceEqDiff,a,c,d,bne]))|intro _))
 all_goals (first|(refine Ai ?_;simp[get];done)|(refine Ae ?_;simp[push_cast,get];done)|skip)
def Lv(L:BO)(k:Int)(st:Aa)(v:AY):Aa×Int:=
 if k<2||k>6 then([],1) else if !(Gh v&&Nk k v.type) then([],11)
 else if k==3 then Cw L v.text st else if k==4 then Eg L st v.text else if k==5 then DB L st v.date else if k==6 then Eh L st v.list
 else if !(v.type==3) then(v.text,0) else if D0 v.date==[] then([],2) else(D0 v.date,0)
structure jU (L:BO) (c:Nat):Prop where
 sym:Lj L
 uni:We L
 lst:Af7 L
 dat:sI L c
 card:A9 L.card<=2^30
structure Ww (v:AY):Prop where
 text:v.text.length<=2^30
 len:v.list.length<=2^30
 list:∀s∈v.list,s.length<=2^20
set_option maxHeartbeats 4000000 in
theorem TF(y:B8 W0)(z:BV W0)(L:BO)(c:Nat)(m:jU L c)(x:Aj)(v:AY)(o:Ww v)(I:x.style.length<=2^24):An Tryz.prog W0 108 [L.enc,x.enc,v.enc] [] (.tup [.s (Lv L x.kind x.style v).1,.i .i64 (Lv L x.kind x.style v).2]) []:=by
 have p:=K1 W0 v o.text;have q:=Ak9 W0 x.kind v;have r:=N4 W0 L m.sym v.text x.style o.text;have t:=Zp W0 y L m.sym m.uni x.style v.text o.text m.card;have u:=ZH W0 z L c m.dat x.style v.date I;have w:=YC W0 y L m.lst x.style v.list o.len o.list;have H:=(MQ W0 z v.date).1;generalize hS:Lv L x.kind x.style v=S;unfold Lv at hS;rw[AY.enc_eq] at p q⊢;rw[BO.enc_eq] at r t u w⊢;rw[Aj.enc_eq];generalize x.kind=k at *;generalize x.style=st at *;generalize D0 v.date=A at *;generalize Cw L v.text st=D at *;generalize Eg L st v.text=E at *;generalize DB L st v.date=F at *;generalize Eh L st v.list=G at *;obtain⟨K,R⟩:=D;obtain⟨M,T⟩:=E;obtain⟨N,U⟩:=F;obtain⟨O,V⟩:=G;simp only at r t u w;generalize Gh v=C at *;generalize J:Nk k v.type=B at *;cases b:decide (k<2) with
 | true=>
  rw[b] at hS;simp only[Bool.true_or,if_true] at hS;subst hS;refine Ah (vs:=[.s [],.i .i64 1]) LV (by simp) (by simp) λn0 a=>?_;clear a;simp only[push_cast,seval,reduceEqDiff,b]
  repeat' (first|(((first|apply Ab|apply Ag|apply Af)<;>intro _h)<;>simp only[push_cast,seval,reduceEqDiff,_h,b])|(refine As (by omega) ?_;simp only[push_cast,seval,reduceEqDiff,b])|intro _)
  refine Ae ?_;simp[push_cast,get]
 | false=>
  cases d:decide (k>6) with
  | true=>
   rw[b,d] at hS;simp only[AwZ,if_true] at hS;subst hS;refine Ah (vs:=[.s [],.i .i64 1]) LV (by simp) (by simp) λn0 a=>?_;clear a;simp only[push_cast,seval,reduceEqDiff,b,d]
   repeat' (first|(((first|apply Ab|apply Ag|apply Af)<;>intro _h)<;>simp only[push_cast,seval,reduceEqDiff,_h,b,d])|(refine As (by omega) ?_;simp only[push_cast,seval,reduceEqDiff,b,d])|intro _)
   refine Ae ?_;simp[push_cast,get]
  | false=>
   rw[b,d] at hS;simp only[Aw1,AcY,if_false] at hS;cases C with
   | false=>
    simp only[AvE,Av9,if_true] at hS;subst hS;refine Ah (vs:=[.s [],.i .i64 11]) LV (by simp) (by simp) λn0 a=>?_;clear a;simp only[push_cast,seval,reduceEqDiff,b,d];have _h:=trivial;repeat' (first|(first|((first|apply Ab|apply Ag|apply Af)<;>intro _h)|refine Ac p ?_|refine As (by omega) ?_)<;>simp only[push_cast,seval,reduceEqDiff,_h,b,d]|intro _)
    refine Ae ?_;simp[push_cast,get]
   | true=>
    cases B with
    | false=>
     simp only[AuB,Av9,if_true] at hS;subst hS;refine Ah (vs:=[.s [],.i .i64 11]) LV (by simp) (by simp) λn0 a=>?_;clear a;simp only[push_cast,seval,reduceEqDiff,b,d];have _h:=trivial;repeat' (first|(first|((first|apply Ab|apply Ag|apply Af)<;>intro _h)|refine Ac p ?_|refine Ac q ?_|refine As (by omega) ?_)<;>simp only[push_cast,seval,reduceEqDiff,_h,b,d]|intro _)
     refine Ae ?_;simp[push_cast,get]
    | true=>
     simp only[Auy,Av6,AcY,if_false] at hS;refine Ah (vs:=[.s S.1,.i .i64 S.2]) LV (by simp) (by simp) λn0 a=>?_;clear a;simp only[push_cast,seval,reduceEqDiff,b,d,bne]
     all_goals (cases e:(k==3)<;>cases f:(k==4)<;>cases g:(k==5)<;>cases h:(k==6)<;>cases j:(v.type==3)<;>cases l:(A==[]))
     all_goals ((try simp only[e,f,g,h,j,l,bq,if_true,if_false,Int.reduceBEq,reduceCtorEq] at hS);subst hS)
     all_goals (try simp only[push_cast,seval,reduceEqDiff,e,f,g,h,j,l,b,d,bne])
     all_goals (repeat' (first|((first|refine Ac (by exact p) ?_|refine Ac (by exact q) ?_|refine Ac (by exact r) ?_|refine Ac (by exact t) ?_|refine Ac (by exact u) ?_|refine Ac (by exact w) ?_|refine Ac (by exact H) ?_|refine As (by omega) ?_);(try simp only[push_cast,seval,reduceEqDiff,e,f,g,h,j,l,b,d,bne]))|intro _))
     all_goals (first|(refine Ai ?_;simp[get];done)|(refine Ae ?_;simp[push_cast,get];done)|skip)
end Go.Ir

namespace Go.Ir
open Go.Proofs Go.RowKit
variable(W0:World)
def zC{a:Type}(f:V->Option a):List V->Option (List a)
 | []=>some []
 | v::vs=>match f v with
  | some w=>match zC f vs with
   | some b=>some (w::b)
   | none=>none
  | none=>none
theorem O2{d:Type}{f:V->Option d}:∀{l:List V} {a:List d},zC f l=some a->l.length=a.length/\∀(k:Nat) (c:V) (e:d),l[k]?=some c->a[k]?=some e->f c=some e
 | [],a,h=>by cases h;grind
 | v::vs,a,h=>by
  rw[zC] at h;split at h
  ·rename_i w j;split at h
   ·rename_i m b;cases h;obtain⟨g,i⟩:=O2 b;grind
   ·cases h
  ·cases h
def Sq{a:Type}(f:V->Option a):V->Option (List a)
 | .sl es=>zC f es
 | .nil=>some []
 | _=>none
def Iv{a:Type}(f:V->Option a)(enc:a->V):Prop:=∀v x,f v=some x->Lz (λ_=>none) v (enc x)/\(cells (enc x)).length=(cells v).length/\v.ok=true/\(enc x).ok=true
theorem HU{i:Type}{f:V->Option i}{enc:i->V}(g:Iv f enc):Iv (Sq f) λl=>.sl (l.map enc):=by
 intro v l h;cases v with
 | sl es=>
  obtain⟨m,e⟩:=O2 (f:=f) h;refine⟨.sl _ _ (by simpa using m) (λk c j b a=>?_) (λk c j b a=>?_),rfl,rfl,rfl⟩
  ·rw[Aru] at a;obtain⟨x,d,rfl⟩:=AdW.1 a;exact(g _ _ (e k c x b d)).1
  ·rw[Aru] at a;obtain⟨x,d,rfl⟩:=AdW.1 a;exact(g _ _ (e k c x b d)).2
 | nil=>cases h;exact⟨.nil,rfl,rfl,rfl⟩
 | _=>cases h
def D6:V->Option Aa
 | .s l=>some l
 | _=>none
theorem BS:Iv D6 V.s:=by intro v l h;cases v<;>cases h;exact⟨.refl _,rfl,rfl,rfl⟩
def IL:V->Option Int
 | .i .i64 n=>some n
 | _=>none
theorem Gs:Iv IL (V.i .i64):=by
 intro v n h;unfold IL at h;split at h
 ·cases h;exact⟨.refl _,rfl,rfl,rfl⟩
 ·cases h
def AkU(f:V->Option (List Aj)):V->Option AJ
 | .agg [k,ps]=>match D6 k with
  | some k=>match f ps with
   | some ps=>some (k,ps)
   | none=>none
  | none=>none
 | _=>none
def aM:Nat->V->Option Aj
 | 0=>λ_=>none
 | n+1=>λv=>match v with
  | .agg [a,t,m,st,cs,ps]=>(IL a).bind λa=>(D6 t).bind λt=>(D6 m).bind λm=>(D6 st).bind λst=>(Sq (AkU (Sq (aM n))) cs).bind λcs=>(Sq (aM n) ps).bind λps=>some ⟨a,t,m,st,cs,ps⟩
  | _=>none
theorem yN{f:V->Option (List Aj)}(e:Iv f λl=>.sl (l.map Aj.enc)):Iv (AkU f) AJ.enc:=by
 intro v c h;unfold AkU at h;split at h
 ·rename_i k ps;split at h
  ·rename_i q g;split at h
   ·rename_i i a;cases h;have o:=BS _ _ g;have p:=e _ _ a;rw[AJ.enc_eq];refine⟨.agg _ _ rfl λj c m b d=>?_,rfl,rfl,rfl⟩
    match j with
    | 0=>grind
    | 1=>grind
    | j+2=>simp at b
   ·cases h
  ·cases h
 ·cases h
theorem Pr:∀n,Iv (aM n) Aj.enc
 | 0=>λv x h=>by cases h
 | n+1=>by
  intro v p h;have a:=HU (Pr n);have b:=HU (yN a);unfold aM at h;split at h
  ·obtain⟨A,d,h⟩:=Adr.1 h;obtain⟨t,e,h⟩:=Adr.1 h;obtain⟨m,f,h⟩:=Adr.1 h;obtain⟨st,g,h⟩:=Adr.1 h;obtain⟨cs,i,h⟩:=Adr.1 h;obtain⟨ps,k,h⟩:=Adr.1 h;cases h;have r:=Gs _ _ d;have s:=BS _ _ e;have u:=BS _ _ f;have w:=BS _ _ g;have y:=b _ _ i;have z:=a _ _ k;rw[Aj.enc_eq];refine⟨.agg _ _ rfl λj c q l o=>?_,rfl,rfl,rfl⟩
   match j with
   | 0=>grind
   | 1=>grind
   | 2=>grind
   | 3=>grind
   | 4=>simp_all
   | 5=>simp_all
   | j+6=>simp at l
  ·cases h
def PU:List V->Option V
 | [v]=>(Sq (aM 40) v).bind λps=>bif Nat.ble (AU ps) 1000000 then some (.i .i64 (CC ps)) else none
 | _=>none
theorem iI:AX Tryz.prog W0 (onP 96 PU):=nA λargs v h=>by
 unfold PU at h;split at h
 ·rename_i x;obtain⟨ps,f,c⟩:=Adr.1 h;cases e:Nat.ble (AU ps) 1000000 with
  | false=>rw[e] at c;cases c
  | true=>
   rw[e] at c;cases c;have i:=Axk e;refine⟨HZ (Sp W0 _ ps (Ab3 _) (by omega)) rfl λk a g d b=>?_,rfl⟩
   match k with
   | 0=>simp at d b;subst d b;exact(HU (Pr 40) _ _ f).1
   | k+1=>simp at d
 ·cases h
end Go.Ir

namespace Go.Ir
open Go.Proofs
variable(W0:World)
def Iu(L:BO)(k:Int):List A7:=if k==7 then L.card else if k==8 then L.ord else[]
def Qz(L:BO)(k:Int):V:=if k==7 then .sl (L.card.map A7.enc) else if k==8 then .sl (L.ord.map A7.enc) else .nil
theorem W6(L:BO)(k:Int):Lz (λ_=>none) (Qz L k) (.sl ((Iu L k).map A7.enc)):=by
 unfold Qz Iu;split
 ·exact .refl _
 ·split
  ·exact .refl _
  ·exact .nil
theorem OP(L:BO)(k:Int):An Tryz.prog W0 153 [L.enc,.i .i64 k] [] (Qz L k) []:=by
 generalize hS:Qz L k=S;unfold Qz at hS;rw[BO.enc_eq];refine Ah (vs:=[S]) AiX (by simp) (by simp) λn0 a=>?_;clear a;simp only[push_cast,seval,reduceEqDiff]
 repeat' (first|(((first|apply Ab|apply Ag|apply Af)<;>intro _h)<;>(simp only[push_cast,seval,reduceEqDiff,_h];try (have _g:=_h;simp at _g)))|intro _)
 all_goals (simp only[*,bq,if_true,if_false,Int.reduceBEq,reduceCtorEq] at hS;subst hS;exact Ai (by simp[get]))
def M3(k:Int)(v:AY):Bool:=if k==9 then Gh v&&v.type==1 else Gh v&&v.type==2
theorem Aiv(k:Int)(v:AY)(c:v.text.length<=2^30):An Tryz.prog W0 154 [.i .i64 k,v.enc] [] (.b (M3 k v)) []:=by
 have hp:=K1 W0 v c;generalize hS:M3 k v=S;unfold M3 at hS;generalize Gh v=A at *;rw[AY.enc_eq] at hp⊢;refine Ah (vs:=[.b S]) AhB (by simp) (by simp) λn0 a=>?_;clear a;simp only[push_cast,seval,reduceEqDiff];have _h:=trivial;repeat' (first|(first|((first|apply Ab|apply Ag|apply Af)<;>intro _h)|refine Ac hp ?_)<;>simp only[push_cast,seval,reduceEqDiff,_h]|intro _)
 all_goals (simp only[*,bq,if_true,if_false,Int.reduceBEq,reduceCtorEq] at hS;subst hS;exact Ai (by simp[get, *]))
def Pg:Aa:=[111,116,104,101,114]
def F0(L:BO)(k:Int)(v:AY):List Aa:=if k==9 then[v.text,Pg] else[61::v.text,(C7 (Iu L k) v.text).1,Pg]
theorem uP(L:BO)(k:Int)(v:AY)(q:v.text.length<=2^29)(p:A9 L.card+A9 L.ord<=2^24):An Tryz.prog W0 209 [L.enc,.i .i64 k,v.enc] [] (.sl ((F0 L k v).map V.s)) []:=by
 have f:=OP W0 L k;have h:A9 (Iu L k)<=2^30:=by
  unfold Iu;split
  ·omega
  ·split
   ·omega
   ·simp[A9]
 have g:An Tryz.prog W0 210 [Qz L k,.s v.text] [] (.tup [.s (C7 (Iu L k) v.text).1,.i .i64 (C7 (Iu L k) v.text).2]) []:=by
  refine HZ (VD W0 (Iu L k) v.text (by omega) h) rfl λj a o c b=>?_
  match j with
  | 0=>simp at c b;subst c b;exact W6 L k
  | 1=>simp at c b;subst c b;exact .refl _
  | j+2=>simp at c
 generalize hS:F0 L k v=S;unfold F0 at hS;generalize(C7 (Iu L k) v.text).1=l at *;generalize(C7 (Iu L k) v.text).2=m at *;generalize Qz L k=R at *;rw[BO.enc_eq] at f⊢;rw[AY.enc_eq];have d:1+v.text.length<=AA:=by unfold AA;omega
 refine Ah (vs:=[.sl (S.map V.s)]) Akm (by simp) (by simp) λn0 e=>?_;clear e;simp only[push_cast,seval,reduceEqDiff,eq_true d];have _h:=trivial;repeat' (first|(first|((first|apply Ab|apply Ag|apply Af)<;>intro _h)|refine Ac f ?_|refine Ac g ?_)<;>simp only[push_cast,seval,reduceEqDiff,_h,eq_true d]|intro _)
 all_goals (simp only[*,bq,if_true,if_false,Int.reduceBEq,reduceCtorEq] at hS;subst hS)
 ·exact Ai (by simp[get,Pg])
 ·exact Ai (by simp[get,Pg])
def Dr(a:List Aa):List Aa->Int
 | []=>-1
 | w::b=>if Cb (λx=>w==x) a<0 then Dr a b else Cb (λx=>w==x) a
theorem aI(a:List Aa)(b:List Aa):-1<=Dr a b/\Dr a b<a.length:=by
 induction b with
 | nil=>simp only[Dr];omega
 | cons w b c=>
  rw[Dr];split
  ·exact c
  ·have:=yU (λx=>w==x) a;omega
theorem Zk(L:BO)(k:Int)(a:List Aa)(v:AY)(r:v.text.length<=2^29)(o:A9 L.card+A9 L.ord<=2^24)(t:a.length<=2^30) :
  An Tryz.prog W0 155 [L.enc,.i .i64 k,.sl (a.map V.s),v.enc] [] (.i .i64 (Dr a (F0 L k v))) []:=by
 have d:=uP W0 L k v r o;have f:=λw:Aa=>Mi W0 AeP a w (by omega);generalize hS:Dr a (F0 L k v)=S;have l:(F0 L k v).length<=3:=by unfold F0;split<;>simp
 generalize F0 L k v=W at *;rw[BO.enc_eq] at d⊢;rw[AY.enc_eq] at d⊢;refine Ah (vs:=[.i .i64 S]) AhD (by simp) (by simp) λn0 g=>?_;clear g;simp only[push_cast,seval,reduceEqDiff,Acr];have _h:=trivial;repeat' (first|(first|((first|apply Ab|apply Ag|apply Af)<;>intro _h)|refine Ac d ?_)<;>simp only[push_cast,seval,reduceEqDiff,_h,Acr]|intro _)
 obtain⟨τ,j⟩:∃τ:Al,τ=[]:=⟨[],rfl⟩;refine Am W.length (Inv:=λm st=>∃done b n,W=done++b/\m=b.length/\Dr a b=S/\st=⟨[(2,.sl (a.map V.s)),(15,.sl (W.map V.s)),(16,.i .i64 W.length),(17,.i .i64 done.length)],τ,n⟩) ⟨_,by rw[j];exact Ak.drop (λ_ _ h=>by cases h) (Abm _),[],W,_,rfl,rfl,hS,rfl⟩ ?_;clear hS d;rintro m _ ⟨done,b,n,e,rfl,c,rfl⟩;cases b with
 | nil=>rw[Dr] at c;subst c;simp only[push_cast,seval,reduceEqDiff,Acr,e];intros;exact Ai (by simp[get])
 | cons w b=>
  have p:=AH e;rw[Dr] at c;have q:=f w;generalize Cb (λx=>w==x) a=I at *;simp only[push_cast,seval,reduceEqDiff,e,Ad w (done:=done) (by omega)];have _h:=trivial;repeat' (first|(first|((first|apply Ab|apply Ag|apply Af)<;>intro _h)|refine Ac q ?_)<;>simp only[push_cast,seval,reduceEqDiff,_h,e,Ad w (done:=done) (by omega)]|intro _)
  ·have hI:I>=0:=of_decide_eq_true _h;rw[if_neg (by omega)] at c;subst c;exact Ai (by simp[get])
  ·have hI:¬I>=0:=of_decide_eq_false _h;rw[if_pos (by omega)] at c;exact⟨_,_,Ab3 _,Ak.refl,done++[w],b,_,by simp,rfl,c,rfl⟩
def Fw(L:BO)(p:Aj)(vs:List AY):Int×Int:=
 if !Bf p.kind then(0,1) else if !Db [] (Iu L p.kind) then(0,18) else match Bt vs p.name with
 | none=>(0,12)
 | some v=>if !M3 p.kind v then(0,11) else if Dr (p.cases.map (·.1)) (F0 L p.kind v)<0 then(0,13) else(Dr (p.cases.map (·.1)) (F0 L p.kind v),0)
set_option maxHeartbeats 4000000 in
theorem r8(L:BO)(p:Aj)(vs:List AY)(hb:A9 L.card+A9 L.ord<=2^24)(hw:p.wt<=2^24)(hl:vs.length<=2^40)(ht:∀v∈vs,v.text.length<=2^29/\v.list.length<=2^30) :
  An Tryz.prog W0 107 [L.enc,p.enc,.sl (vs.map AY.enc)] [] (.tup [.i .i64 (Fw L p vs).1,.i .i64 (Fw L p vs).2]) []:=by
 have C:=M5 W0 vs p.name hl (λv N=>(ht v N).2);have hs:=D9 W0 p.kind;have ax:=p.wt_eq;have av:=Ep p.cases;have T:=OP W0 L p.kind;have ae:A9 (Iu L p.kind)<=2^30:=by
  unfold Iu;split
  ·omega
  ·split
   ·omega
   ·simp[A9]
 have N:An Tryz.prog W0 152 [Qz L p.kind] [] (.b (Db [] (Iu L p.kind))) []:=by
  refine HZ (JF W0 (Iu L p.kind) ae) rfl λj a a' X H=>?_
  match j with
  | 0=>simp at X H;subst X H;exact W6 L p.kind
  | j+1=>simp at X
 generalize hS:Fw L p vs=S;unfold Fw at hS;generalize Db [] (Iu L p.kind)=R at *;generalize Qz L p.kind=RV at *;have ab:∀v,Bt vs p.name=some v->v∈vs:=λv h=>FX h;generalize Bt vs p.name=G at *;generalize Bf p.kind=O at *;rw[BO.enc_eq] at T⊢;rw[Aj.enc_eq];cases G with
 | none=>
  simp only[Jl,gV,M1,AtT] at C;refine Ah (vs:=[.i .i64 S.1,.i .i64 S.2]) oD (by simp) (by simp) λn0 u=>?_;clear u;cases O<;>cases R
  all_goals (simp only[bq,if_true,if_false,Int.reduceBEq,reduceCtorEq] at hS;subst hS;simp only[push_cast,seval,reduceEqDiff])
  all_goals (repeat' (first|(first|refine Ac (by exact C) ?_|refine Ac (by exact hs) ?_|refine Ac (by exact T) ?_|refine Ac (by exact N) ?_)|intro _)<;>(try simp only[push_cast,seval,reduceEqDiff]))
  all_goals (refine Ae ?_;simp[push_cast,get])
 | some v=>
  obtain⟨ay,az⟩:=ht v (ab v rfl);have w:=Aiv W0 p.kind v (by omega);simp only[Jl,gV,Ars] at C;simp only at hS;rw[AY.enc_eq] at C w;generalize M3 p.kind v=U at *;refine Ah (vs:=[.i .i64 S.1,.i .i64 S.2]) oD (by simp) (by simp) λn0 u=>?_;clear u;by_cases q:(O&&R&&U)=true
  ·simp only[Aan] at q;obtain⟨⟨rfl,rfl⟩,rfl⟩:=q;simp only[bq,if_true,if_false,Int.reduceBEq,reduceCtorEq] at hS;have K:=Zk W0 L p.kind (p.cases.map (·.1)) v (by omega) hb (by simp;omega);rw[BO.enc_eq,AY.enc_eq] at K;generalize Dr (p.cases.map (·.1)) (F0 L p.kind v)=FI at *;simp only[push_cast,seval,reduceEqDiff]
   repeat' (first|(first|refine Ac (by exact C) ?_|refine Ac (by exact hs) ?_|refine Ac (by exact T) ?_|refine Ac (by exact N) ?_|refine Ac (by exact w) ?_)|intro _)<;>(try simp only[push_cast,seval,reduceEqDiff])
   rename_i k1 k2 k3 k4 k5 k6 k7 k8;obtain⟨o,g⟩:∃x:Id,x=(n0+1+k1,8):=⟨_,rfl⟩
   obtain⟨A,M⟩:∃n,n=n0+1+k1+1+k2+1+k3+1+k4+1+k5+1+k6+1+k7+1+k8:=⟨_,rfl⟩;rw[<-g,<-M];have Y:o.1<A:=by rw[g];simp only;omega
   have ap:n0<A:=by omega
   have F:((n0,4):Id)≠o:=by rw[g];simp
   have E:((n0,3):Id)≠o:=by rw[g];simp
   clear g M;generalize l:((o,_)::_:Al)=τ;have t3:lk τ (n0,3)=some (.box (.agg [.s L.tag,.s L.parent,.s L.dir,.sl (L.card.map A7.enc),.sl (L.ord.map A7.enc),.s L.dec,.s L.grp,.s L.minus,.s L.perc,.i .i64 L.prim,.i .i64 L.sec,.sl (L.lists.map CF.enc),.sl (L.units.map Dt.enc),.sl (L.dates.map CE.enc),.sl (L.months.map V.s),.sl (L.days.map V.s)])):=by rw[<-l];simp[lk,E,AhZ E]
   have t4:lk τ (n0,4)=some (.box (.agg [.i .i64 p.kind,.s p.text,.s p.name,.s p.style,.sl (p.cases.map AJ.enc),.sl (p.parts.map Aj.enc)])):=by rw[<-l];simp[lk,F,AhZ F]
   have t8:lk τ o=some (.box (.agg [.s v.name,.i .i64 v.type,.s v.text,.i .i64 v.date,.sl (v.list.map V.s)])):=by rw[<-l];simp[lk]
   have tn:∀id:Id,A<=id.1->lk τ id=none/\del τ id=τ:=by
    intro id ar;have e1:o≠id:=λB=>by rw[B] at Y;omega
    have e2:((n0,4):Id)≠id:=λB=>by grind
    have e3:((n0,3):Id)≠id:=λB=>by grind
    rw[<-l];exact⟨by simp[lk,e1,e2,e3],by simp[del,e1,e2,e3]⟩
   clear l;refine Am p.cases.length (Inv:=λm st=>∃done d n id,p.cases=done++d/\m=d.length/\A<=n/\A<=id.1/\id.1<n/\st=⟨[(3,.ref (n0,3) 0),(4,.ref (n0,4) 0),(8,.ref o 0),(10,.arr id),(43,.sl (p.cases.map AJ.enc)),(44,.i .i64 p.cases.length),(45,.i .i64 done.length)],(id,.arr 9 1 ((done.map (·.1)).map V.s))::τ,n⟩) ⟨_,(Ak.own (s:=10) (e:=9) (sz:=1) (k:=0) rfl).trans (Ak.envD (env':=[(3,.ref (n0,3) 0),(4,.ref (n0,4) 0),(8,.ref o 0),(10,.arr (A,0)),(43,.sl (p.cases.map AJ.enc)),(44,.i .i64 p.cases.length),(45,.i .i64 0)]) (λt=>?_) (Abm _)),[],p.cases,_,(A,0),rfl,rfl,?_,Abm _,Ab3 _,rfl⟩ ?_
   ·left;simp only[get];grind
   ·omega
   rintro m _ ⟨done,d,n,id,D,rfl,hn,J,aq,rfl⟩;have td:=(tn id J).2;cases d with
   | nil=>
    have r:decide ((done.length:Int)<(p.cases.length:Int))=false:=by rw[D];simp
    simp only[push_cast,seval,reduceEqDiff,r];intros;refine Ha (Ak.frzAt (s:=10) (id:=id) rfl (tn id J).1 (λy hy=>by obtain⟨z,_,rfl⟩:=Alx.1 hy;rfl) (Abm _)) ?_;rw[show done=p.cases by rw[D];simp];simp only[push_cast,seval,reduceEqDiff,t3,t4,t8];have _h:=trivial;repeat' (first|(first|((first|apply Ab|apply Ag|apply Af)<;>intro _h)|refine Ac K ?_)<;>simp only[push_cast,seval,reduceEqDiff,_h,t3,t4,t8]|intro _)
    ·have f:FI<0:=of_decide_eq_true _h;rw[if_pos f] at hS;subst hS;refine Ae ?_;simp[push_cast,get]
    ·have f:¬FI<0:=of_decide_eq_false _h;rw[if_neg f] at hS;subst hS;refine Ae ?_;simp[push_cast,get]
   | cons c d=>
    have Z:=AH D;have r:decide ((done.length:Int)<(p.cases.length:Int))=true:=by rw[D];simp;omega
    have I:(p.cases.map AJ.enc)[done.length]?=some (AJ.enc c):=by rw[D];simp
    have af:IntKind.i64.wrap ((done.length:Int)+1)=((done++[c]).length:Int):=Ad c (by omega);have aa:done.length+1<=AK:=by unfold AK;omega
    have f1:∀k j:Nat,((n+1+k,j)=id)=False:=λk j=>eq_false λB=>(by grind)
    have W:∀k j:Nat,(id=(n+1+k,j))=False:=λk j=>eq_false λB=>of_eq_false (f1 k j) B.symm;simp only[push_cast,seval,reduceEqDiff,r,I,af,if_pos Z,f1,W,td,Acr,eq_true aa];intros;have hm:List.map V.s (List.map (λx=>x.1) done)++[V.s c.1]=((done++[c]).map (·.1)).map V.s:=by simp
    rw[hm];exact⟨_,_,Ab3 _,Ak.dropM (tn _ (by simp only;omega)).1 (Abm _),done++[c],d,_,_,by rw[D];simp,rfl,by omega,by simp only;omega,by simp only;omega,rfl⟩
  ·have ac:O=false\/R=false\/U=false:=by grind
   clear q;cases O<;>cases R<;>cases U
   all_goals (first|(simp at ac;done)|skip)
   all_goals (simp only[bq,if_true,if_false,Int.reduceBEq,reduceCtorEq] at hS;subst hS;simp only[push_cast,seval,reduceEqDiff])
   all_goals (repeat' (first|(first|refine Ac (by exact C) ?_|refine Ac (by exact hs) ?_|refine Ac (by exact T) ?_|refine Ac (by exact N) ?_|refine Ac (by exact w) ?_)|intro _)<;>(try simp only[push_cast,seval,reduceEqDiff]))
   all_goals (refine Ae ?_;simp[push_cast,get])
end Go.Ir
section
namespace Go.Ir
open Go.Proofs
variable(W0:World)
inductive Ev where
 | pc (s:Aa)
 | er (e:Int)
def Jk(a:Bool)(r:Aa×Int):Ev:=if r.2==0 then .pc (if a then NT r.1 else r.1) else .er r.2
def Lw(X:WX)(k:Int)(a cnt:Aa):Aa:=if k==9 then cnt else match Bt X.vs a with
 | some v=>v.text
 | none=>[]
mutual
def aF(X:WX):Aj->Aa->List Ev
 | ⟨k,t,a,st,cs,ps⟩,cnt=>
  if k==1 then[.pc t]
  else if k==10 then[Jk X.iso (Cw X.L cnt [])]
  else if k==11 then .pc (60::(a++[62]))::(Dh X ps cnt++[.pc (60::47::(a++[62]))])
  else if k==7||(k==8||k==9) then
   (if(Fw X.L ⟨k,t,a,st,cs,ps⟩ X.vs).2==0 then(JJ X cs (Lw X k a cnt))[(Fw X.L ⟨k,t,a,st,cs,ps⟩ X.vs).1.toNat]?.getD [] else[.er (Fw X.L ⟨k,t,a,st,cs,ps⟩ X.vs).2])
  else match Bt X.vs a with
   | none=>[.er 12]
   | some v=>[Jk X.iso (Lv X.L k st v)]
def Dh(X:WX):List Aj->Aa->List Ev
 | [],_=>[]
 | p::ps,cnt=>aF X p cnt++Dh X ps cnt
def JJ(X:WX):List (Aa×List Aj)->Aa->List (List Ev)
 | [],_=>[]
 | c::cs,cnt=>evC X c cnt::JJ X cs cnt
def evC(X:WX):Aa×List Aj->Aa->List Ev
 | (_,ps),cnt=>Dh X ps cnt
end
theorem Kc(X:WX)(cnt:Aa):Dh X [] cnt=[]:=by simp only[Dh]
theorem Ik(X:WX)(p:Aj)(ps:List Aj)(cnt:Aa):Dh X (p::ps) cnt=aF X p cnt++Dh X ps cnt:=by simp only[Dh]
theorem XN(X:WX)(cnt:Aa):∀(cs:List AJ) (i:Nat) (c:AJ),cs[i]?=some c->(JJ X cs cnt)[i]?=some (Dh X c.2 cnt)
 | [],i,c,h=>by simp at h
 | (k,ps)::cs,0,c,h=>by simp at h;subst h;simp only[JJ,evC];rfl
 | (k,ps)::cs,i+1,c,h=>by simp only[JJ,Avm];exact XN X cnt cs i c (by simpa using h)
def Gc(st:Aa×Int):Ev->Aa×Int
 | .pc s=>(st.1++s,if((st.1++s).length:Int)>20000 then 6 else st.2)
 | .er e=>(st.1,e)
def CU:Aa×Int->List Ev->Aa×Int
 | st,[]=>st
 | st,ev::es=>if st.2==0 then CU (Gc st ev) es else st
theorem HY(st:Aa×Int)(h:(st.2==0)=false)(es:List Ev):CU st es=st:=by
 cases es with
 | nil=>rfl
 | cons ev es=>rw[CU,h];rfl
theorem QN(a b:List Ev):∀st,CU st (a++b)=CU (CU st a) b:=by
 induction a with
 | nil=>intro st;rfl
 | cons ev a c=>
  intro st;rw[Anz,CU,CU];split
  ·exact c _
  ·rename_i h;rw[HY st (by simpa using h)]
def Fv(a:Id)(X:WX)(u:Bool)(b:Id)(st:Aa×Int):Al:=[(a,.tbox TW (wC X (wA u a) b st.2)),(b,.arr 5 1 (Ay st.1))]
theorem Kz{a b:Id}{X:WX}{u:Bool}{l:Aa}:Fv a X u b (l,0)=Km a X u b l:=rfl
def cC(c:Id)(X:WX)(b:Id)(st:Aa×Int)(n n':Nat)(v:V)(σ':Al):Prop:=v=.tup []/\∃(d:Bool) (a:Id),(n<=a.1/\a.1<n'\/a=b)/\σ'=Fv c X d a st
theorem KF{a b:Id}{X:WX}{u:Bool}{st:Aa×Int}{τ:Al}:lk (Fv a X u b st++τ) a=some (.tbox TW (wC X (wA u a) b st.2)):=by simp[Fv,lk]
theorem JQ{a b:Id}{X:WX}{u:Bool}{st:Aa×Int}:lk (Fv a X u b st) a=some (.tbox TW (wC X (wA u a) b st.2)):=by simp[Fv,lk]
theorem Ig{a b x:Id}{X:WX}{u:Bool}{st:Aa×Int}{e:Ax}(c:a≠x)(d:b≠x):lk (Fv a X u b st++[(x,e)]) x=some e:=by simp[Fv,lk,c,d]
theorem Js{a b x:Id}{X:WX}{u:Bool}{st:Aa×Int}(c:a≠x)(d:b≠x):lk (Fv a X u b st) x=none:=by simp[Fv,lk,c,d]
theorem Sw{a b x:Id}{X:WX}{u:Bool}{st:Aa×Int}{e:Ax}{σo:Al}(d:a≠x)(f:b≠x):over (Fv a X u b st) σo ((x,e)::Fv a X u b st)=σo++[(x,e)]:=
 Eq (pre:=[(x,e)]) (λp hp q c=>by simp[Fv] at hp c;grind)
theorem Of{a b x:Id}{X:WX}{u:Bool}{st:Aa×Int}{e:Ax}{σo:Al}(d:a≠x)(f:b≠x):over (Fv a X u b st) σo (Fv a X u b st++[(x,e)])=σo++[(x,e)]:=by have:=H5 (σi:=Fv a X u b st) (σo:=σo) (pre:=[]) (post:=[(x,e)]) (λp hp=>by cases hp) (λp hp q c=>by simp[Fv] at hp c;grind);simpa using this
theorem FC{a b x:Id}{X:WX}{u:Bool}{st:Aa×Int}{e:Ax}:∀i z,lk (Fv a X u b st) i=some z->lk (Fv a X u b st++[(x,e)]) i=some z:=λi z h=>AP h
theorem Ho(a b:Id)(X:WX)(u:Bool)(l t:Aa)(g:b≠a)(h:l.length+t.length<=2^30) :
  Ex Tryz.prog W0 103 [.ref a 0,.s t] (Fv a X u b (l,0)) (cC a X b (Gc (l,0) (.pc t))):=by
 generalize i:cC a X b (Gc (l,0) (.pc t))=R;refine Cc Aku (by simp) λn0 e=>?_;rw[Kz] at *;have w:a.1<n0:=e a _ (by simp[Km,lk];rfl);have r:b.1<n0:=e b _ (by simp[Km,lk,AhZ g];rfl);clear e;simp only[push_cast,seval,reduceEqDiff];intro k1;refine AW (t6 W0 a b X u l t g (by omega)) (λ_ _ h=>h) (λx v σo q i=>?_);obtain⟨rfl,f,⟨j,o⟩,rfl⟩:=i;rw[GI];simp only[push_cast,seval,reduceEqDiff];intro k2;have c:f≠a:=λp=>by rw[p] at j;omega
 refine Bq (Ala W0 a f X true (l++t) c) (λ_ _ h=>h) ?_;rw[CS];cases d:decide (((l++t).length:Int)>20000) with
 | false=>simp only[push_cast,seval,reduceEqDiff,d];intro k3;subst i;refine⟨_,Ak.refl,[],_,trivial,λ_ _ h=>h,rfl,true,f,.inl ⟨by omega,by simp only;omega⟩,?_⟩;unfold Gc;simp only;rw[if_neg (of_decide_eq_false d)];rfl
 | true=>have k:(a=f)=False:=eq_false (AhZ c);have m:(f=a)=False:=eq_false c;simp only[push_cast,seval,reduceEqDiff,d,Bw,Km,k,m];intros;subst i;refine⟨_,Ak.refl,[],_,trivial,λ_ _ h=>h,rfl,true,f,.inl ⟨by omega,by simp only;omega⟩,?_⟩;unfold Gc;simp only;rw[if_pos (of_decide_eq_true d)];rfl
theorem Vs(a b:Id)(X:WX)(u:Bool)(l:Aa)(r:Aa×Int)(d:b≠a)(E:l.length<=20000)(A:r.1.length<=2^24) :
  Ex Tryz.prog W0 104 [.ref a 0,.s r.1,.i .i64 r.2] (Fv a X u b (l,0)) (cC a X b (Gc (l,0) (Jk X.iso r))):=by
 obtain⟨t,e⟩:=r;simp only at *;have B:=pL t;have q:=AiT W0 t A;generalize c:Jk X.iso (t,e)=T;unfold Jk at c;simp only at c;generalize o:cC a X b (Gc (l,0) T)=R;refine Cc Ako (by simp) λn0 k=>?_;rw[Kz] at *;have F:a.1<n0:=k a _ (by simp[Km,lk];rfl);have D:b.1<n0:=k b _ (by simp[Km,lk,AhZ d];rfl);clear k;cases f:(e==0) with
 | false=>rw[f] at c;simp only[AcY,if_false] at c;subst c;have y:(a=b)=False:=eq_false (AhZ d);have z:(b=a)=False:=eq_false d;simp only[push_cast,seval,reduceEqDiff,bne,f,Bw,Km,y,z];intros;subst o;exact⟨_,Ak.refl,[],_,trivial,λ_ _ h=>h,rfl,u,b,.inr rfl,rfl⟩
 | true=>
  rw[f] at c;simp only[if_true] at c;cases hI:X.iso with
  | true=>
   rw[hI] at c;simp only[if_true] at c;subst c;generalize NT t=x at *;simp only[push_cast,seval,reduceEqDiff,bne,f,hI,Bw];have _h:=trivial;repeat' (first|(first|((first|apply Ab|apply Ag|apply Af)<;>intro _h)|refine Ac q ?_)<;>simp only[push_cast,seval,reduceEqDiff,_h,bne,f,hI,Bw]|intro _)
   refine AW (Ho W0 a b X u l x d (by omega)) (λ_ _ h=>h) (λC v σo p g=>?_);obtain⟨rfl,w,m,j,rfl⟩:=g;rw[Kz,GI];simp only[push_cast,seval,reduceEqDiff,bne,f,hI,Bw];intros;subst o;exact⟨_,Ak.refl,[],_,trivial,λ_ _ h=>h,rfl,w,m,DN j (by omega) (by simp only;omega),rfl⟩
  | false=>rw[hI] at c;simp only[AcY,if_false] at c;subst c;simp only[push_cast,seval,reduceEqDiff,bne,f,hI,Bw];intros;refine AW (Ho W0 a b X u l t d (by omega)) (λ_ _ h=>h) (λC v σo p g=>?_);obtain⟨rfl,w,m,j,rfl⟩:=g;rw[Kz,GI];simp only[push_cast,seval,reduceEqDiff,bne,f,hI,Bw];intros;subst o;exact⟨_,Ak.refl,[],_,trivial,λ_ _ h=>h,rfl,w,m,DN j (by omega) (by simp only;omega),rfl⟩
def U0(st:Aa×Int):Prop:=(st.2==0)=true->st.1.length<=20000
theorem Od{st:Aa×Int}(h:st.1.length<=20000)(ev:Ev):U0 (Gc st ev):=by
 cases ev with
 | pc s=>intro a;unfold Gc at a⊢;grind
 | er e=>intro _;exact h
theorem Md(es:List Ev):∀(st:Aa×Int),U0 st->U0 (CU st es):=by
 induction es with
 | nil=>intro st h;exact h
 | cons ev es b=>
  intro st h;rw[CU];split
  ·rename_i a;exact b _ (Od (h a) ev)
  ·exact h
theorem AiA{a b:Id}{X:WX}{u:Bool}{st:Aa×Int}(h:(st.2==0)=true):Fv a X u b st=Fv a X u b (st.1,0):=by grind
structure xU (X:WX) (c:Nat):Prop where
 L:jU X.L c
 rules:A9 X.L.card+A9 X.L.ord<=2^24
 vals:∀v∈X.vs,Ww v/\v.text.length<=2^24
 n:X.vs.length<=2^40
 dlen:∀sk d,(DB X.L sk d).1.length<=2^24
theorem Aat(N c:Nat)
  (ih:∀(ps:List Aj) (cnt:Aa) (a b:Id) (X:WX) (u:Bool) (st:Aa×Int),xU X c->AU ps<N->cnt.length<=2^24->b≠a->U0 st->AU ps<=2^24->
   Ex Tryz.prog W0 44 [.ref a 0,.sl (ps.map Aj.enc),.s cnt] (Fv a X u b st) (cC a X b (CU st (Dh X ps cnt))))
  (p:Aj)(cnt:Aa)(a b:Id)(X:WX)(u:Bool)(l:Aa)(W:xU X c)(V:AU p.parts<N)(Z:cnt.length<=2^24)(w:b≠a)(h:l.length<=20000)(M:p.wt<=2^24) :
  Ex Tryz.prog W0 106 [.ref a 0,p.enc,.s cnt] (Fv a X u b (l,0)) (cC a X b (CU (l,0) (.pc (60::(p.name++[62]))::(Dh X p.parts cnt++[.pc (60::47::(p.name++[62]))])))):=by
 have ad:=p.wt_eq;have ac:p.name.length<=2^24:=by omega
 rw[show CU (l,0) (.pc (60::(p.name++[62]))::(Dh X p.parts cnt++[.pc (60::47::(p.name++[62]))]))=CU (CU (Gc (l,0) (.pc (60::(p.name++[62])))) (Dh X p.parts cnt)) [.pc (60::47::(p.name++[62]))] from by rw[CU,QN];rfl];have B:=Od (st:=(l,0)) h (.pc (60::(p.name++[62])));have A:=Ho W0 a b X u l (60::(p.name++[62])) w (by grind);generalize Gc (l,0) (.pc (60::(p.name++[62])))=I at *;have H:=Md (Dh X p.parts cnt) I B;have F:=λo J (D:o≠a)=>ih p.parts cnt a o X J I W V Z D B (by omega);generalize CU I (Dh X p.parts cnt)=g at *;generalize i:cC a X b (CU g [.pc (60::47::(p.name++[62]))])=R;refine Cc Aic (by simp) λn0 m=>?_;have M:a.1<n0:=m a _ (by simp[Fv,lk];rfl);have Y:b.1<n0:=m b _ (by simp[Fv,lk,AhZ w];rfl);clear m;simp only[push_cast,seval,reduceEqDiff];intro k1;refine As (by unfold AA;omega) ?_;simp only[push_cast,seval,reduceEqDiff];refine As (by unfold AA;omega) ?_;simp only[push_cast,seval,reduceEqDiff];obtain⟨x,O⟩:∃x:Id,x=(n0,4):=⟨_,rfl⟩
 have ae:x.1=n0:=by rw[O]
 rw[<-O];have d:a≠x:=λf=>by rw[f] at M;omega
 have t:b≠x:=λf=>by rw[f] at Y;omega
 intros;refine AW A (C3 (Js d t)) (λn2 v σo ab i=>?_);obtain⟨rfl,J,o,q,rfl⟩:=i;rw[Sw d t];have j:o≠x:=λf=>by grind
 have y:o≠a:=λf=>by grind
 simp only[push_cast,seval,reduceEqDiff,KF,Ig d j];intros;refine AW (F o J y) FC (λn3 v σo K i=>?_);obtain⟨rfl,S,C,r,rfl⟩:=i;rw[Of d j];have e:C≠x:=λf=>by grind
 have z:C≠a:=λf=>by grind
 cases f:(g.2==0) with
 | false=>simp only[push_cast,seval,reduceEqDiff,KF,Ig d e,f];intros;subst i;rw[HY g f];exact⟨_,Ak.refl,[],_,trivial,FC,rfl,S,C,W4 (DN q (by omega) (by simp only;omega)) (DN r (by omega) (by simp only;omega)),rfl⟩
 | true=>
  have aa:=H f;have k:=Ho W0 a C X S g.1 (60::47::(p.name++[62])) z (by grind);rw[<-AiA f] at k;simp only[push_cast,seval,reduceEqDiff,KF,Ig d e,f];intros;refine As (by unfold AA;omega) ?_;simp only[push_cast,seval,reduceEqDiff,KF,Ig d e,f];refine As (by unfold AA;omega) ?_;simp only[push_cast,seval,reduceEqDiff,KF,Ig d e,f];intros;refine AW k FC (λn4 v σo L i=>?_);obtain⟨rfl,u3,T,E,rfl⟩:=i;rw[Of d e];simp only[push_cast,seval,reduceEqDiff,KF,Ig d e,f];intros;subst i;have G:CU g [.pc (60::47::(p.name++[62]))]=Gc (g.1,0) (.pc (60::47::(p.name++[62]))):=by
   have D:g.2=0:=by simpa using f
   have U:g=(g.1,0):=by rw[<-D]
   rw[CU,f,U];rfl
  rw[G];exact⟨_,Ak.refl,[],_,trivial,FC,rfl,u3,T,W4 (W4 (DN q (by omega) (by simp only;omega)) (DN r (by omega) (by simp only;omega))) (DN E (by omega) (by simp only;omega)),rfl⟩
theorem Akd(X:WX)(p:Aj)(cnt:Aa):aF X p cnt=if p.kind==1 then[.pc p.text]
  else if p.kind==10 then[Jk X.iso (Cw X.L cnt [])]
  else if p.kind==11 then .pc (60::(p.name++[62]))::(Dh X p.parts cnt++[.pc (60::47::(p.name++[62]))])
  else if p.kind==7||(p.kind==8||p.kind==9) then
   (if(Fw X.L p X.vs).2==0 then(JJ X p.cases (Lw X p.kind p.name cnt))[(Fw X.L p X.vs).1.toNat]?.getD [] else[.er (Fw X.L p X.vs).2])
  else match Bt X.vs p.name with
   | none=>[.er 12]
   | some v=>[Jk X.iso (Lv X.L p.kind p.style v)]:=by cases p;simp only[aF]
theorem Air{L:BO}{p:Aj}{vs:List AY}(h:((Fw L p vs).2==0)=true):∃(v:AY) (i:Nat) (c:AJ),Bt vs p.name=some v/\(Fw L p vs).1=i/\p.cases[i]?=some c:=by
 have a:(Fw L p vs).2=0:=by simpa using h
 clear h;unfold Fw at a⊢;split at a
 ·cases a
 ·rename_i b;rw[if_neg b];split at a
  ·cases a
  ·rename_i d;rw[if_neg d];split at a
   ·cases a
   ·rename_i v g;rw[g]
    try simp only
    split at a
    ·cases a
    ·rename_i c3;rw[if_neg c3];split at a
     ·cases a
     ·rename_i e;rw[if_neg e];have f:=aI (p.cases.map (·.1)) (F0 L p.kind v);rw[Acr] at f;refine⟨v,(Dr (p.cases.map (·.1)) (F0 L p.kind v)).toNat,p.cases[(Dr (p.cases.map (·.1)) (F0 L p.kind v)).toNat]'(by omega),rfl,by omega,Ai0 (by omega)⟩
theorem Rc(L:BO)(a:Lj L)(b:We L)(u n:Aa)(c:n.length<=2^30):(Eg L u n).1.length<=2^16+(2^23+2^19):=by
 have d:=GP L a n [] c;unfold Eg;split
 ·split
  ·simp
  ·rename_i p hp;have:=ON b hp;have:=RK p [123,48,125] (Cw L n []).1;grind
 ·simp
theorem Sa(L:BO)(st:Aa)(l:List Aa):(Eh L st l).1.length<=20000:=by unfold Eh;grind
theorem eF(b:BV W0)(X:WX)(c:Nat)(a:xU X c)(k:Int)(st:Aa)(v:AY)(d:v∈X.vs):(Lv X.L k st v).1.length<=2^24:=by obtain⟨f,v2⟩:=a.vals v d;have e:=GP X.L a.L.sym v.text st (by omega);have a2:=Rc X.L a.L.sym a.L.uni st v.text (by omega);have a3:=a.dlen st v.date;have a4:=Sa X.L st v.list;have a5:=(MQ W0 b v.date).2;unfold Lv;grind
theorem AbW{pre σ:Al}(h:∀q∈pre,lk σ q.1=none):∀i e,lk σ i=some e->lk (pre++σ) i=some e:=by
 induction pre with
 | nil=>intro i e h;exact h
 | cons a pre g=>intro i e f;obtain⟨c,b⟩:=a;have d:=h (c,b) (by simp);show(if c=i then some b else lk (pre++σ) i)=some e;grind
theorem Na{a b x y:Id}{X:WX}{u:Bool}{st:Aa×Int}{c d:Ax}{σo:Al}(f:a≠x)(g:b≠x)(h:a≠y)(i:b≠y):over (Fv a X u b st) σo ((y,c)::(x,d)::Fv a X u b st)=σo++[(y,c),(x,d)]:=
 Eq (pre:=[(y,c),(x,d)]) (λp hp q e=>by
  simp[Fv] at hp e;rcases hp with rfl|rfl<;>rcases e with rfl|rfl
  ·exact AhZ h
  ·exact AhZ i
  ·exact AhZ f
  ·exact AhZ g)
theorem LH{a b x y:Id}{X:WX}{u:Bool}{st:Aa×Int}{c d:Ax}(g:a≠x)(h:b≠x)(j:a≠y)(k:b≠y):∀i e,lk (Fv a X u b st) i=some e->lk ((y,c)::(x,d)::Fv a X u b st) i=some e:=
 AbW (pre:=[(y,c),(x,d)]) λq f=>by
  simp at f;rcases f with rfl|rfl
  ·exact Js j k
  ·exact Js g h
set_option maxHeartbeats 4000000 in
theorem Aa1(hM:B8 W0)(hT:BV W0)(N c:Nat)
  (ih:∀(ps:List Aj) (cnt:Aa) (f b:Id) (X:WX) (u:Bool) (st:Aa×Int),xU X c->AU ps<N->cnt.length<=2^24->b≠f->U0 st->AU ps<=2^24->
   Ex Tryz.prog W0 44 [.ref f 0,.sl (ps.map Aj.enc),.s cnt] (Fv f X u b st) (cC f X b (CU st (Dh X ps cnt))))
  (p:Aj)(cnt:Aa)(f b:Id)(X:WX)(u:Bool)(l:Aa)(W:xU X c)(hN:p.wt<=N)(hc:cnt.length<=2^24)(O:b≠f)(h:l.length<=20000)(ak:p.wt<=2^24) :
  Ex Tryz.prog W0 72 [.ref f 0,p.enc,.s cnt] (Fv f X u b (l,0)) (cC f X b (CU (l,0) (aF X p cnt))):=by
 have aX:=p.wt_eq;have e:=Akd X p cnt;generalize hE:aF X p cnt=E at *;generalize hR:cC f X b (CU (l,0) E)=R;refine Cc Aps (by simp) λn0 al=>?_;have hw:f.1<n0:=al f _ (by simp[Fv,lk];rfl);have hb:b.1<n0:=al b _ (by simp[Fv,lk,AhZ O];rfl);clear al hE;obtain⟨x,J⟩:∃x:Id,x=(n0,4):=⟨_,rfl⟩
 have aj:x.1=n0:=by rw[J]
 have m:f≠x:=λA=>by rw[A] at hw;omega
 have k:b≠x:=λA=>by rw[A] at hb;omega
 have a:(x=f)=False:=eq_false (AhZ m);have d:(f=x)=False:=eq_false m;have G:(x=b)=False:=eq_false (AhZ k);have D:(b=x)=False:=eq_false k;have F:(f=b)=False:=eq_false (AhZ O);have C:(b=f)=False:=eq_false O;rw[Kz];cases I:(p.kind==1) with
 | true=>rw[I] at e;simp only[if_true] at e;subst e;have au:=Ho W0 f b X u l p.text O (by omega);rw[Kz] at au;simp only[push_cast,seval,reduceEqDiff,I,<-J];intros;refine AW au (C3 (PE m k)) (λn2 v σo Z t=>?_);obtain⟨rfl,u1,Y,w,rfl⟩:=t;rw[LR m k];simp only[push_cast,seval,reduceEqDiff,I,<-J];intros;subst hR;exact⟨_,Ak.refl,[],_,trivial,FC,rfl,u1,Y,DN w (by omega) (by simp only;omega),rfl⟩
 | false=>
  rw[I] at e;simp only[AcY,if_false] at e;cases K:(p.kind==10) with
  | true=>
   rw[K] at e;simp only[if_true] at e;subst e;have ar:=N4 W0 X.L W.L.sym cnt [] (by omega);have aW:=GP X.L W.L.sym cnt [] (by omega);have ag:=Vs W0 f b X u l (Cw X.L cnt []) O h (by omega);rw[Kz] at ag;rw[BO.enc_eq] at ar;generalize Cw X.L cnt []=NF at *;simp only[push_cast,seval,reduceEqDiff,I,K,<-J,Bw,a];have _h:=trivial;repeat' (first|(first|((first|apply Ab|apply Ag|apply Af)<;>intro _h)|refine Ac ar ?_)<;>simp only[push_cast,seval,reduceEqDiff,_h,I,K,<-J,Bw,a]|intro _)
   refine AW ag (C3 (PE m k)) (λn2 v σo Z t=>?_);obtain⟨rfl,u1,Y,w,rfl⟩:=t;rw[LR m k];simp only[push_cast,seval,reduceEqDiff,I,K,<-J,Bw,a];intros;subst hR;exact⟨_,Ak.refl,[],_,trivial,FC,rfl,u1,Y,DN w (by omega) (by simp only;omega),rfl⟩
  | false=>
   rw[K] at e;simp only[AcY,if_false] at e;cases M:(p.kind==11) with
   | true=>rw[M] at e;simp only[if_true] at e;subst e;have ap:=Aat W0 N c ih p cnt f b X u l W (by omega) hc O h ak;rw[Aj.enc_eq,Kz] at ap;simp only[push_cast,seval,reduceEqDiff,I,K,M,<-J];intros;refine AW ap (C3 (PE m k)) (λn2 v σo Z t=>?_);obtain⟨rfl,u1,Y,w,rfl⟩:=t;rw[LR m k];simp only[push_cast,seval,reduceEqDiff,I,K,M,<-J];intros;subst hR;exact⟨_,Ak.refl,[],_,trivial,FC,rfl,u1,Y,DN w (by omega) (by simp only;omega),rfl⟩
   | false=>
    rw[M] at e;simp only[AcY,if_false] at e;have B:=M5 W0 X.vs p.name W.n (λv hv=>(W.vals v hv).1.len);cases e4:(p.kind==7||(p.kind==8||p.kind==9)) with
    | true=>
     rw[e4] at e;simp only[if_true] at e;have ae:=r8 W0 X.L p X.vs W.rules ak W.n (λv hv=>⟨by have:=(W.vals v hv).2;omega,(W.vals v hv).1.len⟩);have aK:=@Air X.L p X.vs;rw[BO.enc_eq,Aj.enc_eq] at ae;generalize Fw X.L p X.vs=CH at *;obtain⟨ci,ce⟩:=CH;simp only at *;have ao:((p.kind==7)=true/\(p.kind==8)=false/\(p.kind==9)=false)\/((p.kind==7)=false/\(p.kind==8)=true/\(p.kind==9)=false)\/((p.kind==7)=false/\(p.kind==8)=false/\(p.kind==9)=true):=by grind
     cases hC:(ce==0) with
     | false=>
      rw[hC] at e;simp only[AcY,if_false] at e;subst e;subst hR;rcases ao with⟨h7,h8,h9⟩|⟨h7,h8,h9⟩|⟨h7,h8,h9⟩
      all_goals
       skip;simp only[push_cast,seval,reduceEqDiff,I,K,M,bne,hC,h7,h8,h9,<-J,Km,a,d,G,D,F,C];have _h:=trivial;repeat' (first|(first|((first|apply Ab|apply Ag|apply Af)<;>intro _h)|refine Ac ae ?_|refine As (by omega) ?_)<;>simp only[push_cast,seval,reduceEqDiff,_h,I,K,M,bne,hC,h7,h8,h9,<-J,Km,a,d,G,D,F,C]|intro _)
       exact⟨_,Ak.refl,[],Fv f X u b (l,ce),trivial,C3 (Js m k),rfl,u,b,.inr rfl,rfl⟩
     | true=>
      rw[hC] at e;simp only[if_true] at e;obtain⟨v,i,cs,hv,rfl,hi⟩:=aK hC;have aq:=Aln hi;have aV:=Cm aq;have aJ:=(Alp.1 hi).1;have j:(i<p.cases.length)=True:=eq_true aJ;have g:(p.cases.map AJ.enc)[i]?=some (.agg [.s cs.1,.sl (cs.2.map Aj.enc)]):=by rw[Aru,hi];simp[AJ.enc_eq]
      have aH:=λcn=>XN X cn p.cases i cs hi;rw[hv] at B;simp only[Jl,gV,Ars] at B;rw[AY.enc_eq] at B;obtain⟨av,am⟩:=W.vals v (FX hv);rw[AxS,aH] at e;simp only[Option.getD_some] at e;subst e;have ah:=λcn (aI:cn.length<=2^24)=>ih cs.2 cn f b X u (l,0) W (by omega) aI O (λ_=>h) (by omega);simp only[Kz] at ah;rcases ao with⟨h7,h8,h9⟩|⟨h7,h8,h9⟩|⟨h7,h8,h9⟩
      ·have af:Lw X p.kind p.name cnt=v.text:=by unfold Lw;rw[h9,hv];rfl
       rw[af] at hR;simp only[push_cast,seval,reduceEqDiff,I,K,M,bne,hC,h7,h8,h9,<-J,Bw,a,d,g,j,Acr];have _h:=trivial;repeat' (first|(first|((first|apply Ab|apply Ag|apply Af)<;>intro _h)|refine Ac ae ?_|refine Ac B ?_|refine As (by omega) ?_)<;>simp only[push_cast,seval,reduceEqDiff,_h,I,K,M,bne,hC,h7,h8,h9,<-J,Bw,a,d,g,j,Acr]|intro _)
       generalize hy:((_,8):Id)=y;have q:n0<y.1:=by grind
       have o:y≠f:=λA=>by rw[A] at q;omega
       have r:y≠b:=λA=>by rw[A] at q;omega
       have H:y≠x:=λA=>by rw[A,aj] at q;omega
       have S:=eq_false o;have T:=eq_false (AhZ o);have U:=eq_false H;have V:=eq_false (AhZ H);simp only[push_cast,seval,reduceEqDiff,a,d,S,T,U,V,Bw,g,j,Acr]
       repeat' (first|(((first|apply Ab|apply Ag|apply Af)<;>intro _h)<;>simp only[push_cast,seval,reduceEqDiff,_h,a,d,S,T,U,V,Bw,g,j,Acr])|(refine As (by omega) ?_;simp only[push_cast,seval,reduceEqDiff,a,d,S,T,U,V,Bw,g,j,Acr])|intro _)
       refine AW (ah v.text am) (LH (st:=(l,0)) m k (AhZ o) (AhZ r)) (λn2 v σo Z t=>?_);obtain⟨rfl,u1,Y,w,rfl⟩:=t;rw[<-Kz,Na m k (AhZ o) (AhZ r)];simp only[push_cast,seval,reduceEqDiff,a,d,S,T,U,V,Bw,g,j,Acr];intros;subst hR;exact⟨_,Ak.refl,[],_,trivial,λi z h=>AP h,rfl,u1,Y,DN w (by omega) (by simp only;omega),rfl⟩
      ·have af:Lw X p.kind p.name cnt=v.text:=by unfold Lw;rw[h9,hv];rfl
       rw[af] at hR;simp only[push_cast,seval,reduceEqDiff,I,K,M,bne,hC,h7,h8,h9,<-J,Bw,a,d,g,j,Acr];have _h:=trivial;repeat' (first|(first|((first|apply Ab|apply Ag|apply Af)<;>intro _h)|refine Ac ae ?_|refine Ac B ?_|refine As (by omega) ?_)<;>simp only[push_cast,seval,reduceEqDiff,_h,I,K,M,bne,hC,h7,h8,h9,<-J,Bw,a,d,g,j,Acr]|intro _)
       generalize hy:((_,8):Id)=y;have q:n0<y.1:=by grind
       have o:y≠f:=λA=>by rw[A] at q;omega
       have r:y≠b:=λA=>by rw[A] at q;omega
       have H:y≠x:=λA=>by rw[A,aj] at q;omega
       have S:=eq_false o;have T:=eq_false (AhZ o);have U:=eq_false H;have V:=eq_false (AhZ H);simp only[push_cast,seval,reduceEqDiff,a,d,S,T,U,V,Bw,g,j,Acr]
       repeat' (first|(((first|apply Ab|apply Ag|apply Af)<;>intro _h)<;>simp only[push_cast,seval,reduceEqDiff,_h,a,d,S,T,U,V,Bw,g,j,Acr])|(refine As (by omega) ?_;simp only[push_cast,seval,reduceEqDiff,a,d,S,T,U,V,Bw,g,j,Acr])|intro _)
       refine AW (ah v.text am) (LH (st:=(l,0)) m k (AhZ o) (AhZ r)) (λn2 v σo Z t=>?_);obtain⟨rfl,u1,Y,w,rfl⟩:=t;rw[<-Kz,Na m k (AhZ o) (AhZ r)];simp only[push_cast,seval,reduceEqDiff,a,d,S,T,U,V,Bw,g,j,Acr];intros;subst hR;exact⟨_,Ak.refl,[],_,trivial,λi z h=>AP h,rfl,u1,Y,DN w (by omega) (by simp only;omega),rfl⟩
      ·have af:Lw X p.kind p.name cnt=cnt:=by unfold Lw;rw[h9];rfl
       rw[af] at hR;skip;simp only[push_cast,seval,reduceEqDiff,I,K,M,bne,hC,h7,h8,h9,<-J,Bw,a,d,g,j,Acr];have _h:=trivial;repeat' (first|(first|((first|apply Ab|apply Ag|apply Af)<;>intro _h)|refine Ac ae ?_|refine As (by omega) ?_)<;>simp only[push_cast,seval,reduceEqDiff,_h,I,K,M,bne,hC,h7,h8,h9,<-J,Bw,a,d,g,j,Acr]|intro _)
       refine AW (ah cnt hc) (C3 (PE m k)) (λn2 v σo Z t=>?_);obtain⟨rfl,u1,Y,w,rfl⟩:=t;rw[LR m k];simp only[push_cast,seval,reduceEqDiff,I,K,M,bne,hC,h7,h8,h9,<-J,Bw,a,d,g,j,Acr];intros;subst hR;exact⟨_,Ak.refl,[],_,trivial,FC,rfl,u1,Y,DN w (by omega) (by simp only;omega),rfl⟩
    | false=>
     rw[e4] at e;simp only[Au8] at e4;obtain⟨e5,e6,e7⟩:=e4;simp only[AcY,if_false] at e;cases hG:Bt X.vs p.name with
     | none=>
      rw[hG] at e B;simp only at e;subst e;simp only[Jl,gV,M1,AtT] at B;simp only[push_cast,seval,reduceEqDiff,I,K,M,e5,e6,e7,<-J,Km,lk,a,d,G,D,F,C];have _h:=trivial;repeat' (first|(first|((first|apply Ab|apply Ag|apply Af)<;>intro _h)|refine Ac B ?_|refine As (by omega) ?_)<;>simp only[push_cast,seval,reduceEqDiff,_h,I,K,M,e5,e6,e7,<-J,Km,lk,a,d,G,D,F,C]|intro _)
      generalize hy:((_,10):Id)=y;have q:n0<y.1:=by grind
      have o:y≠f:=λA=>by rw[A] at q;omega
      have r:y≠b:=λA=>by rw[A] at q;omega
      have H:y≠x:=λA=>by rw[A,aj] at q;omega
      have S:=eq_false o;have T:=eq_false (AhZ o);have y3:=eq_false r;have y4:=eq_false (AhZ r);have U:=eq_false H;have V:=eq_false (AhZ H);simp only[push_cast,seval,reduceEqDiff,a,d,G,D,F,C,S,T,y3,y4,U,V]
      repeat' (first|(((first|apply Ab|apply Ag|apply Af)<;>intro _h)<;>simp only[push_cast,seval,reduceEqDiff,_h,a,d,G,D,F,C,S,T,y3,y4,U,V])|(refine As (by omega) ?_;simp only[push_cast,seval,reduceEqDiff,a,d,G,D,F,C,S,T,y3,y4,U,V])|intro _)
      subst hR;exact⟨_,Ak.refl,[],Fv f X u b (l,12),trivial,LH m k (AhZ o) (AhZ r),rfl,u,b,.inr rfl,rfl⟩
     | some v=>
      rw[hG] at e B;simp only at e;subst e;obtain⟨av,am⟩:=W.vals v (FX hG);have ad:=TF W0 hM hT X.L c W.L p v av (by omega);have aG:=eF W0 hT X c W p.kind p.style v (FX hG);have ag:=Vs W0 f b X u l (Lv X.L p.kind p.style v) O h aG;rw[Kz] at ag;rw[BO.enc_eq,Aj.enc_eq,AY.enc_eq] at ad;simp only[Jl,gV,Ars] at B;rw[AY.enc_eq] at B;generalize Lv X.L p.kind p.style v=NF at *;simp only[push_cast,seval,reduceEqDiff,I,K,M,e5,e6,e7,<-J,Bw,a,d];have _h:=trivial;repeat' (first|(first|((first|apply Ab|apply Ag|apply Af)<;>intro _h)|refine Ac B ?_|refine Ac ad ?_|refine As (by omega) ?_)<;>simp only[push_cast,seval,reduceEqDiff,_h,I,K,M,e5,e6,e7,<-J,Bw,a,d]|intro _)
      generalize hy:((_,10):Id)=y;have q:n0<y.1:=by grind
      have o:y≠f:=λA=>by rw[A] at q;omega
      have r:y≠b:=λA=>by rw[A] at q;omega
      have H:y≠x:=λA=>by rw[A,aj] at q;omega
      have S:=eq_false o;have T:=eq_false (AhZ o);have y3:=eq_false r;have y4:=eq_false (AhZ r);have U:=eq_false H;have V:=eq_false (AhZ H);simp only[push_cast,seval,reduceEqDiff,a,d,S,T,U,V,Bw];have _h:=trivial;repeat' (first|(first|((first|apply Ab|apply Ag|apply Af)<;>intro _h)|refine Ac ad ?_|refine As (by omega) ?_)<;>simp only[push_cast,seval,reduceEqDiff,_h,a,d,S,T,U,V,Bw]|intro _)
      refine AW ag (LH (st:=(l,0)) m k (AhZ o) (AhZ r)) (λn2 v σo Z t=>?_);obtain⟨rfl,u1,Y,w,rfl⟩:=t;rw[<-Kz,Na m k (AhZ o) (AhZ r)];simp only[push_cast,seval,reduceEqDiff,a,d,S,T,U,V,Bw];intros;subst hR;exact⟨_,Ak.refl,[],_,trivial,λi z h=>AP h,rfl,u1,Y,DN w (by omega) (by simp only;omega),rfl⟩
set_option maxHeartbeats 4000000 in
theorem mY(U:B8 W0)(V:BV W0)(c:Nat):∀(N:Nat) (ps:List Aj) (cnt:Aa) (a b:Id) (X:WX) (u:Bool) (st:Aa×Int),xU X c->AU ps<N->cnt.length<=2^24->b≠a->U0 st->AU ps<=2^24->
   Ex Tryz.prog W0 44 [.ref a 0,.sl (ps.map Aj.enc),.s cnt] (Fv a X u b st) (cC a X b (CU st (Dh X ps cnt))):=by
 intro N
 induction N with
 | zero=>intro ps cnt a b X u st _ h;omega
 | succ N ih=>
 intro ps cnt a r X u0 D W hN hc z hI M;have L:=Ez ps;generalize hS:CU D (Dh X ps cnt)=S;generalize E:cC a X r S=R;refine Cc Ap7 (by simp) λn0 o=>?_;have hw:a.1<n0:=o a _ (by simp[Fv,lk];rfl);have Y:r.1<n0:=o r _ (by simp[Fv,lk,AhZ z];rfl);clear o;simp only[push_cast,seval,reduceEqDiff];intros;refine Am ps.length (Inv:=λm st=>∃done d n u b w,ps=done++d/\m=d.length/\CU w (Dh X d cnt)=S/\U0 w/\AU d<=AU ps/\n0<=n/\(n0<=b.1/\b.1<n\/b=r)/\st=⟨[(0,.ref a 0),(2,.s cnt),(8,.sl (ps.map Aj.enc)),(9,.i .i64 ps.length),(10,.i .i64 done.length)],Fv a X u b w,n⟩) ⟨_,Ak.refl,[],ps,_,u0,r,D,rfl,rfl,hS,hI,Abm _,?_,.inr rfl,rfl⟩ ?_
 ·omega
 clear hS hI;rintro m _ ⟨done,d,n,u,b,w,q,rfl,j,hI,J,hn,G,rfl⟩;cases d with
 | nil=>rw[Kc] at j;simp only[CU] at j;subst j;simp only[push_cast,seval,reduceEqDiff,q];intros;subst E;exact⟨_,Ak.refl,[],_,trivial,λ_ _ h=>h,rfl,u,b,DN G (Abm _) (by simp only;omega),rfl⟩
 | cons p d=>
  have Z:=AH q;rw[Ik,QN] at j;rw[Bk] at J;have ac:=p.wt_eq;have I:b≠a:=λg=>by grind
  obtain⟨x,O⟩:∃x:Nat->Id,x=λk=>(n+1+k,7):=⟨_,rfl⟩;have C:∀k,(n+1+k,7)=x k:=λk=>by rw[O]
  have ad:∀k,(x k).1=n+1+k:=λk=>by rw[O]
  have f:∀k,a≠x k:=λk g=>by grind
  have t:∀k,b≠x k:=λk g=>by grind
  have y:∀k,lk (Fv a X u b w) (x k)=none:=λk=>Js (f k) (t k);cases g:(w.2==0) with
  | false=>
   rw[HY w g,HY w g] at j;subst j;simp only[push_cast,seval,reduceEqDiff,q,Ad p (done:=done) (by omega),C,JQ,eq_false (f _),eq_false (AhZ (f _)),g,bne];intros;subst E;refine⟨_,Ak.refl,[],Fv a X u b w,trivial,?_,rfl,u,b,DN G (Abm _) (by simp only;omega),rfl⟩
   first|exact λ_ _ h=>h|exact C3 (y _)
  | true=>
   have B:w.2=0:=by simpa using g
   obtain⟨l,e⟩:=w;simp only at B;subst B;have K:=hI g;simp only at K;have F:=Md (aF X p cnt) (l,0) hI;have A:=Aa1 W0 U V N c ih p cnt a b X u l W (by omega) hc I K (by omega);rw[Aj.enc_eq] at A;generalize CU (l,0) (aF X p cnt)=w' at *;simp only[push_cast,seval,reduceEqDiff,q,Ad p (done:=done) (by omega),C,JQ,eq_false (f _),eq_false (AhZ (f _))];intros;refine AW A (C3 (y _)) (λn2 v σo ab E=>?_);obtain⟨rfl,u1,T,H,rfl⟩:=E;rw[Sw (f _) (t _)];simp only[push_cast,seval,reduceEqDiff,q,Ad p (done:=done) (by omega)];intros;exact⟨_,_,Ab3 _,Ak.pre (Abm _),done++[p],d,_,u1,T,w',by simp,rfl,j,F,by rw[<-q];omega,by omega,W4 (DN G (Abm _) (by omega)) (DN H (by omega) (by omega)),rfl⟩
def FL(L:BO)(ps:List Aj)(vs:List AY)(a:Bool):Aa×Int:=
 if Da ps then(if(CU ([],0) (Dh ⟨L,vs,a⟩ ps [])).2==0 then CU ([],0) (Dh ⟨L,vs,a⟩ ps []) else([],(CU ([],0) (Dh ⟨L,vs,a⟩ ps [])).2)) else([],1)
set_option maxHeartbeats 4000000 in
theorem Om(F:B8 W0)(H:BV W0)(c:Nat)(L:BO)(vs:List AY)(d:Bool)(ps:List Aj)(I:xU ⟨L,vs,d⟩ c)(D:AU ps<=2^24) :
  An Tryz.prog W0 26 [L.enc,.sl (ps.map Aj.enc),.sl (vs.map AY.enc),.b d] [] (.tup [.s (FL L ps vs d).1,.i .i64 (FL L ps vs d).2]) []:=by
 have j:=Wr W0 ps D;have q:=λf b (g:b≠f)=>mY W0 F H c _ ps [] f b ⟨L,vs,d⟩ false ([],0) I (Ab3 _) (by simp) g (λ_=>by simp) D;have o:=Md (Dh ⟨L,vs,d⟩ ps []) ([],0) (λ_=>by simp);generalize hS:FL L ps vs d=S;unfold FL at hS;generalize Da ps=E at *;generalize CU ([],0) (Dh ⟨L,vs,d⟩ ps [])=w at *;refine Ah (vs:=[.s S.1,.i .i64 S.2]) Am4 (by simp) (by simp) λn0 z=>?_;clear z;cases E with
 | false=>
  simp only[AcY,if_false] at hS;subst hS;simp only[push_cast,seval,reduceEqDiff];have _h:=trivial;repeat' (first|(first|((first|apply Ab|apply Ag|apply Af)<;>intro _h)|refine Ac j ?_|refine As (by omega) ?_)<;>simp only[push_cast,seval,reduceEqDiff,_h]|intro _)
  refine Ae ?_;simp[push_cast,get]
 | true=>
  simp only[if_true] at hS;simp only[push_cast,seval,reduceEqDiff];have _h:=trivial;repeat' (first|(first|((first|apply Ab|apply Ag|apply Af)<;>intro _h)|refine Ac j ?_)<;>simp only[push_cast,seval,reduceEqDiff,_h]|intro _)
  rename_i k1 k2 k3;obtain⟨f,k⟩:∃x:Id,x=(n0+1+k1+1+k2,18):=⟨_,rfl⟩
  have B:f.1<n0+1+k1+1+k2+1+k3:=by rw[k];simp only;omega
  rw[<-k];generalize n0+1+k1+1+k2+1+k3=C at B⊢;have g:((C,0):Id)≠f:=λm=>by grind
  refine Ha (((Ak.pre (Abm _) (σ:=[_])).trans (Ak.ownTbox (A:=[.np]) 5 1 0)).trans (Ak.drop (σ':=Fv f ⟨L,vs,d⟩ false (C,0) ([],0)) (JH (AhZ g)) (Abm _))) ?_;simp only[push_cast,seval,reduceEqDiff];intros;refine AW (q f (C,0) g) (λ_ _ h=>h) (λN v σo K G=>?_);obtain⟨rfl,u,b,M,rfl⟩:=G;have p:b≠f:=λm=>by grind
  rw[GI];cases m:(w.2==0) with
  | false=>rw[m] at hS;simp only[AcY,if_false] at hS;subst hS;simp only[push_cast,seval,reduceEqDiff,JQ,m,bne];intros;refine Ae ?_;simp[push_cast,get]
  | true=>
   rw[m] at hS;simp only[if_true] at hS;subst hS;have J:=o m;have y:w.2=0:=by simpa using m
   obtain⟨l,e⟩:=w;simp only at y J;subst y;simp only[push_cast,seval,reduceEqDiff,JQ];intros;have t:=OB (W0:=W0) (T:=TW) (id:=f) (bid:=b) (l:=l) (a:=wA u f) (r:=[.s L.tag,.s L.parent,.s L.dir,.sl (L.card.map A7.enc),.sl (L.ord.map A7.enc),.s L.dec,.s L.grp,.s L.minus,.s L.perc,.i .i64 L.prim,.i .i64 L.sec,.sl (L.lists.map CF.enc),.sl (L.units.map Dt.enc),.sl (L.dates.map CE.enc),.sl (L.months.map V.s),.sl (L.days.map V.s),.sl (vs.map AY.enc),.b d,.i .i64 0]) p (by unfold AA;omega);refine Bq t (λ_ _ h=>h) ?_;simp only[push_cast,seval,reduceEqDiff,JQ];intros;refine Ae ?_;simp[push_cast,get]
end Go.Ir
end
namespace Go.Ir
end Go.Ir

namespace Go.Ir
open Go.Proofs
variable(W0:World)
theorem AbV(c:UInt8):DH c=Ba.contains c:=by
 have h:∀n:_root_.Fin 256,DH (UInt8.ofNat n.val)=Ba.contains (UInt8.ofNat n.val):=by decide +kernel
 have:=h ⟨c.toNat,c.toNat_lt⟩;simpa using this
theorem ZU(p:Aa):Lib.trimLeftS p Ba=p.drop (p.takeWhile DH).length/\p.length-(Lib.trimLeftS p Ba).length=(p.takeWhile DH).length:=by
 have a:Lib.trimLeftS p Ba=p.dropWhile DH:=by unfold Lib.trimLeftS;congr 1;funext c;rw[AbV]
 have b:p.takeWhile DH++p.dropWhile DH=p:=List.takeWhile_append_dropWhile;grind
theorem mO(o:BV W0)(x:Ko)(c:Nat)(s:OH x c):∀(n:Nat) (p:Aa) (out g:List Aa),C6 n p out=some g->out.length<=g.length/\∀(m:Nat) (a:Aa),(BD x m p a).1.length<=a.length+p.length+(g.length-out.length)*c:=by
 intro n
 induction n with
 | zero=>intro p out g h;simp[C6] at h
 | succ n j=>
  intro p out g h;rw[C6] at h;obtain⟨t,t2⟩:=ZU p;rw[t2,t] at h;split at h
  ·rename_i d;cases h;refine⟨Abm _,λm a=>?_⟩;cases m with
   | zero=>rw[BD];simp only;omega
   | succ m=>rw[BD,if_pos d];simp only;omega
  ·rename_i d;have q:1<=p.length:=by grind
   have r:(p.takeWhile DH).length<=p.length:=(List.takeWhile_sublist _).length_le;generalize f:(p.takeWhile DH).length=k at *;split at h
   ·rename_i l;have b:k=0:=by simp_all
    obtain⟨e,i2⟩:=j _ _ _ h;refine⟨e,λm a=>?_⟩;cases m with
    | zero=>rw[BD];simp only;omega
    | succ m=>rw[BD,if_neg d,f,if_pos (by simp[b])];grind
   ·rename_i l;have b:1<=k:=by grind
    split at h
    ·obtain⟨e,i2⟩:=j _ _ _ h;rw[Agz,List.length_singleton] at e i2;refine⟨by omega,λm a=>?_⟩;have i:(g.length-out.length)*c=(g.length-(out.length+1))*c+c:=by rw[show g.length-out.length=(g.length-(out.length+1))+1 by omega,Nat.succ_mul]
     cases m with
     | zero=>rw[BD];simp only;omega
     | succ m=>have u:=M9 W0 o x c s (p.take k);rw[BD,if_neg d,f,if_neg (by simp;omega)];grind
    ·cases h
theorem R9:∀(n:Nat) (p:Aa) (out g:List Aa),C6 n p out=some g->(∀f∈out,FR f=true)->∀f∈g,FR f=true:=by
 intro n
 induction n with
 | zero=>intro p out g h;simp[C6] at h
 | succ n b=>intro p out g h a;rw[C6] at h;grind
theorem U1{f:Aa}(h:FR f=true):f.take 1∈CZ:=by unfold FR Fk at h;simp only[AxD,decide_eq_true_eq] at h;simp only[AqN,AvJ,or_false] at h;rcases h with rfl|rfl|rfl|rfl|rfl|rfl|rfl<;>decide
theorem PP{Q:List Aa}(f:Q.Pairwise (λx y=>x<=y))(a:(Lib.compact Q).length=Q.length):Q.Nodup:=by
 unfold Lib.compact Lib.compactUpTo at a;rw[Acr] at a;have b:((List.range Q.length).filter (Lib.keeps Q.toArray)).length=(List.range Q.length).length:=by rw[a,List.length_range]
 rw[List.length_filter_eq_length_iff] at b;rw[List.pairwise_iff_getElem] at f;unfold List.Nodup;rw[List.pairwise_iff_getElem];intro i j h d c g;have e:=b j (by simpa using d);unfold Lib.keeps at e;grind
theorem mQ{p:Aa}(h:Zj p=true):∃g,Hn p=some g/\g.length<=4:=by
 have:∃l,DL l p=true:=by unfold Zj at h;simp only[Awl] at h;grind
 obtain⟨l,h⟩:=this;unfold DL at h;split at h
 ·rename_i w g s d;simp only[Aan] at h;refine⟨g,d,?_⟩;have e:=h.2.1;unfold GG at e;simp only[beq_iff_eq] at e;have k:(Lc (g.map λf=>f.take 1)).length=g.length:=by unfold Lc;simp_all
  have o:=PP (Q:=Lc (g.map λf=>f.take 1)) (by unfold Lc;have:=List.pairwise_mergeSort (le:=fun(x y:Aa)=>decide (x<=y)) (λa b c q r=>by grind) (λa b=>by grind) (g.map λf=>f.take 1);simpa using this) (by rw[e,k]);have j:=K9 o (b:=CZ) λx i=>by unfold Lc at i;rw[AxR] at i;obtain⟨f,m,rfl⟩:=Alx.1 i;unfold Hn at d;exact U1 (R9 _ _ _ _ d (by simp) f m)
  rw[k] at j;exact j
 ·cases h
theorem RR(f:BV W0)(L:BO)(c:Nat)(b:sI L c)(h:c<=2^20)(m:Aa)(d:Int):(DB L m d).1.length<=2^24:=by
 unfold DB;cases i:DQ d with
 | false=>simp
 | true=>
  obtain⟨q1,q2,q3,l,s,t⟩:=Qr i;have a:OH (Lp L d) c:=by
   have q:(d+25567).tmod 7<7:=Int.tmod_lt_of_pos _ (by omega);refine⟨?_,q3,l,?_,?_,b.c24,b.ml,b.dl⟩
   ·show(Hq d).1.toNat<_;omega
   ·show((FM d).2+1).toNat<_;omega
   ·show((d+25567).tmod 7).toNat<_;omega
  simp only[if_true];split
  ·simp
  ·split
   ·split
    ·rename_i p hp;split
     ·rename_i j;obtain⟨g,e,o⟩:=mQ j;unfold Hn at e;have k:=(b.pt p (Aln hp)).1;have:=(mO W0 f (Lp L d) c a _ _ _ _ e).2 (p.pat.length+1) [];unfold I6;have r:(g.length-0)*c<=4*2^20:=AxN (by omega) h;grind
     ·simp
    ·simp
   ·simp
theorem DX{a:Type}{f:a->Nat}:∀{l:List a} {x:a},x∈l->f x<=BA f l
 | [],x,h=>by cases h
 | y::l,x,h=>by
  rw[BA];rcases AqN.1 h with rfl|h
  ·omega
  ·have:=DX (f:=f) h;omega
theorem Aaq(a b:Nat)(h:a+b<=40026):a*b<=2^29:=by
 have key:∀a k:Nat,2*a+k<=40026->a*(a+k)<=2^29:=by intro a k h;have c:(2*a+k)*(2*a+k)<=40026*40026:=AxN h h;grind
 rcases Nat.le_total a b with c|c
 ·obtain⟨k,rfl⟩:∃k,b=a+k:=⟨b-a,by omega⟩;exact key a k (by omega)
 ·obtain⟨k,rfl⟩:∃k,a=b+k:=⟨a-b,by omega⟩;grind
theorem Ai3(L:BO)(h:N8 L<=40000)(hp:-9223372036854775808<=L.prim)(a:L.sec<9223372036854775808)(i:A9 L.card+A9 L.ord<=2^24):jU L (Fo L.months+Fo L.days+24)/\Fo L.months+Fo L.days+24<=2^20:=by
 have c:Fo [L.tag,L.parent,L.dir,L.dec,L.grp,L.minus,L.perc]=Ii L.tag+(Ii L.parent+(Ii L.dir+(Ii L.dec+(Ii L.grp+(Ii L.minus+(Ii L.perc+0)))))):=rfl;unfold N8 at h;rw[c] at h;unfold Ii at h;have l1:L.lists.length<=BA CF.sz L.lists:=Fm (λx=>by unfold CF.sz Fo;simp only[BA,Ii];omega) _;have j:L.units.length<=BA Dt.sz L.units:=Fm (λx=>by unfold Dt.sz Fo;simp only[BA,Ii];omega) _;have k:L.dates.length<=BA CE.sz L.dates:=Fm (λx=>by unfold CE.sz Fo;simp only[BA,Ii];omega) _;have g:∀s∈L.months,s.length<=Fo L.months:=λs a=>by have:=DX (f:=Ii) a;unfold Fo;unfold Ii at this⊢;omega
 have b:∀s∈L.days,s.length<=Fo L.days:=λs a=>by have:=DX (f:=Ii) a;unfold Fo;unfold Ii at this⊢;omega
 refine⟨⟨⟨?_,?_,?_,?_,hp,a⟩,⟨by omega,λu d=>?_⟩,⟨by omega,λp hp=>?_⟩,⟨by omega,λs a=>?_,λs a=>?_,by omega,λp hp=>?_,λp hp=>?_⟩,by omega⟩,by omega⟩
 ·omega
 ·omega
 ·omega
 ·omega
 ·have:=DX (f:=Dt.sz) d;unfold Dt.sz Fo at this;simp only[BA,Ii] at this;unfold Dt.sz Fo at h;simp only[BA,Ii] at h;omega
 ·have:=DX (f:=CF.sz) hp;have e:CF.sz p=p.style.length+p.two.length+p.start.length+p.mid.length+p.fin.length+(CF.sz p-(p.style.length+p.two.length+p.start.length+p.mid.length+p.fin.length)):=by unfold CF.sz Fo;simp only[BA,Ii];omega
  omega
 ·have:=g s a;omega
 ·have:=b s a;omega
 ·have:=DX (f:=CE.sz) hp;have e:p.skel.length+p.pat.length<=CE.sz p:=by unfold CE.sz Fo;simp only[BA,Ii];omega
  omega
 ·have:=DX (f:=CE.sz) hp;have e:p.skel.length+p.pat.length<=CE.sz p:=by unfold CE.sz Fo;simp only[BA,Ii];omega
  refine⟨by omega,Aaq _ _ (by omega)⟩
end Go.Ir

namespace Go.Ir
open Go.Proofs Go.RowKit
variable(W0:World)
def J8(a:Type):V->Option (List a):=Sq λ_=>none
theorem E4{a:Type}(enc:a->V):Iv (J8 a) λl=>.sl (l.map enc):=HU λv x h=>by cases h
def kW:V->Option BO
 | .agg [a,b,c,h,i,d,e,f,g,p,q,j,k,l,m,o]=>(D6 a).bind λa=>(D6 b).bind λb=>(D6 c).bind λc=>(J8 A7 h).bind λh=>(J8 A7 i).bind λi=>(D6 d).bind λd=>(D6 e).bind λe=>(D6 f).bind λf=>(D6 g).bind λg=>(IL p).bind λp=>(IL q).bind λq=>(J8 CF j).bind λj=>(J8 Dt k).bind λk=>(J8 CE l).bind λl=>(J8 Aa m).bind λm=>(J8 Aa o).bind λo=>some ⟨a,b,c,h,i,d,e,f,g,p,q,j,k,l,m,o⟩
 | _=>none
theorem mM:Iv kW BO.enc:=by
 intro v l h;unfold kW at h;split at h
 ·obtain⟨a,w,h⟩:=Adr.1 h;obtain⟨b,x,h⟩:=Adr.1 h;obtain⟨c,y,h⟩:=Adr.1 h;obtain⟨H,z,h⟩:=Adr.1 h;obtain⟨I,A,h⟩:=Adr.1 h;obtain⟨d,B,h⟩:=Adr.1 h;obtain⟨e,C,h⟩:=Adr.1 h;obtain⟨f,D,h⟩:=Adr.1 h;obtain⟨g,E,h⟩:=Adr.1 h;obtain⟨p,F,h⟩:=Adr.1 h;obtain⟨q,m,h⟩:=Adr.1 h;obtain⟨J,o,h⟩:=Adr.1 h;obtain⟨K,r,h⟩:=Adr.1 h;obtain⟨L,s,h⟩:=Adr.1 h;obtain⟨M,t,h⟩:=Adr.1 h;obtain⟨N,u,h⟩:=Adr.1 h;cases h;rw[BO.enc_eq];refine⟨.agg _ _ rfl λj c G k i=>?_,rfl,rfl,rfl⟩
  match j with
  | 0=>simp at k i;subst k i;exact(BS _ _ w).1
  | 1=>simp at k i;subst k i;exact(BS _ _ x).1
  | 2=>simp at k i;subst k i;exact(BS _ _ y).1
  | 3=>simp at k i;subst k i;exact(E4 _ _ _ z).1
  | 4=>simp at k i;subst k i;exact(E4 _ _ _ A).1
  | 5=>simp at k i;subst k i;exact(BS _ _ B).1
  | 6=>simp at k i;subst k i;exact(BS _ _ C).1
  | 7=>simp at k i;subst k i;exact(BS _ _ D).1
  | 8=>simp at k i;subst k i;exact(BS _ _ E).1
  | 9=>simp at k i;subst k i;exact(Gs _ _ F).1
  | 10=>simp at k i;subst k i;exact(Gs _ _ m).1
  | 11=>simp at k i;subst k i;exact(E4 _ _ _ o).1
  | 12=>simp at k i;subst k i;exact(E4 _ _ _ r).1
  | 13=>simp at k i;subst k i;exact(E4 _ _ _ s).1
  | 14=>simp at k i;subst k i;exact(E4 _ _ _ t).1
  | 15=>simp at k i;subst k i;exact(E4 _ _ _ u).1
  | j+16=>simp at k
 ·cases h
def UR:V->Option AY
 | .agg [a,b,c,d,e]=>(D6 a).bind λa=>(IL b).bind λb=>(D6 c).bind λc=>(IL d).bind λd=>(J8 Aa e).bind λe=>some ⟨a,b,c,d,e⟩
 | _=>none
theorem Zd:Iv UR AY.enc:=by
 intro v l h;unfold UR at h;split at h
 ·obtain⟨a,i,h⟩:=Adr.1 h;obtain⟨b,k,h⟩:=Adr.1 h;obtain⟨c,m,h⟩:=Adr.1 h;obtain⟨d,o,h⟩:=Adr.1 h;obtain⟨e,p,h⟩:=Adr.1 h;cases h;rw[AY.enc_eq];refine⟨.agg _ _ rfl λj c q g f=>?_,rfl,rfl,rfl⟩
  match j with
  | 0=>simp at g f;subst g f;exact(BS _ _ i).1
  | 1=>simp at g f;subst g f;exact(Gs _ _ k).1
  | 2=>simp at g f;subst g f;exact(BS _ _ m).1
  | 3=>simp at g f;subst g f;exact(Gs _ _ o).1
  | 4=>simp at g f;subst g f;exact(E4 _ _ _ p).1
  | j+5=>simp at g
 ·cases h
def Ahk(L:BO)(ps:List Aj)(vs:List AY):Bool:=
 Nat.ble (N8 L) 40000&&(Nat.ble (A9 L.card+A9 L.ord) 1000000&&(decide (-9223372036854775808<=L.prim)&&(decide (L.sec<9223372036854775808)&&(Nat.ble (AU ps) 1000000&&(Nat.ble vs.length 1000&&vs.all λv=>Nat.ble v.text.length 1000000&&v.list.isEmpty)))))
def PY:List V->Option V
 | [l,ps,vs,.b a]=>(kW l).bind λL=>(Sq (aM 40) ps).bind λps=>(Sq UR vs).bind λvs=>bif Ahk L ps vs then some (.tup [.s (FL L ps vs a).1,.i .i64 (FL L ps vs a).2]) else none
 | _=>none
theorem SZ(f:BV W0)(L:BO)(vs:List AY)(a:Bool)(h:N8 L<=40000)(hp:-9223372036854775808<=L.prim)(i:L.sec<9223372036854775808)(c:A9 L.card+A9 L.ord<=2^24)(g:vs.length<=2^40)(j:∀v∈vs,Ww v/\v.text.length<=2^24):xU ⟨L,vs,a⟩ (Fo L.months+Fo L.days+24):=by obtain⟨b,e⟩:=Ai3 L h hp i c;exact⟨b,c,j,g,λk d=>RR W0 f L _ b.dat e k d⟩
theorem nN(q:B8 W0)(f:BV W0):AX Tryz.prog W0 (onP 26 PY):=nA λargs v h=>by
 unfold PY at h;split at h
 ·rename_i y z A e;obtain⟨L,m,h⟩:=Adr.1 h;obtain⟨ps,o,h⟩:=Adr.1 h;obtain⟨vs,p,h⟩:=Adr.1 h;cases d:Ahk L ps vs with
  | false=>rw[d] at h;cases h
  | true=>
   rw[d] at h;cases h;unfold Ahk at d;simp only[Aan,decide_eq_true_eq,Alm,Axo,Aw4] at d;obtain⟨g,u,i,j,w,x,l⟩:=d;have r:=SZ W0 f L vs e g i j (by omega) (by omega) λv s=>by obtain⟨q1,q2⟩:=l v s;exact⟨⟨by omega,by rw[q2];simp,by rw[q2];simp⟩,by omega⟩
   refine⟨HZ (Om W0 q f _ L vs e ps r (by omega)) rfl λk a t c b=>?_,rfl⟩
   match k with
   | 0=>simp at c b;subst c b;exact(mM _ _ m).1
   | 1=>simp at c b;subst c b;exact(HU (Pr 40) _ _ o).1
   | 2=>simp at c b;subst c b;exact(HU Zd _ _ p).1
   | 3=>simp at c b;subst c b;exact .refl _
   | k+4=>simp at c
 ·cases h
end Go.Ir
