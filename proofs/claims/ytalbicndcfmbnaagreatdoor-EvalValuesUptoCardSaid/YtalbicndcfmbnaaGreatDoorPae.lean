/-
  Contracts: the length of a message's text, of the program: ..
  Contracts: Valid, of the program.
  Contracts: the writer of layer 32 over messages of texts ..
  Contracts: the index of the key that a value chooses, of ..
  Contracts: resolve, of the reference.
  Contracts: Flat, of the program.
  Contracts: Sound, of the program.
  Contracts: Value of the reference, Select of both sides.
  Contracts: FewForm
  Contracts: Few of a table of one locale
  Contracts: what is few in layer 32
  DERIVED: THE SHELF's CONTRACTS AT THIS DUMP, IN PLAIN WORDS ..
  Itoa, for any number: where the library's table of powers ..
  Contracts: Valid, of the reference.
  The library's functions as the evaluator is handed them: ..
  The library's functions on strings that search for strings: ..
  The library's variable MaxLen holds some int: out of the ..
  slices.Sort of strings, in place
  The IR of functions of the program, printed by our own tool
  Contracts: numbers in the symbols of a locale.
  Contracts: fields of skeletons, patterns of dates (package ..
  The two checks of a message agree, and what a message has ..
  What a message has that the checks accept: the cases of its ..
  Flat forms as plain Lean data: the two sides agree.
  What a AF form has: its variants have neither selections ..
  The AF form of a message that the check accepts is sound.
  How heavy resolved parts are.
  Flat forms: what the law VariantsPlain asks, in plain Lean.
  Signatures of messages as plain Lean data
  Contracts: types of arguments (known, Common, accepts), ..
  Contract: signature.use.
  Contracts: leaves, of the program
  Contracts: leaves and Leaves, of the program.
  Contracts: SameForm of a form with itself, formOf.
  Shapes, leaves and what is built of them, as plain Lean ..
  Shapes of messages that the check accepts are such
  The paths of leaves are different
  How many leaves a message of a shape takes, and its weight
  Contracts: within and shape, of the program.
  Contracts: the builder of the program.
  Contracts: the table of arguments (add, walk).
-/
import Derived.Test.YtalbicndcfmbnaaGreatDoorPad
import Derived.Lib.LaidTab
import Derived.Lib.ItoaLen
import Derived.MakeChecks
import Derived.Shelf.Small.Strs
import Derived.Shelf.Strings.OnBuilder
import Derived.Shelf.Strings.Split
import Derived.Shelf.Strings.Cut
import Derived.Shelf.Strings.Replace
import Derived.Shelf.Slices.ReverseS
import Derived.Shelf.SlIter.Nil
import Derived.Shelf.SortM.Plain
import Derived.Shelf.SortM.SortNone
import Derived.Ground.GgzProg
import Derived.Ground.SlgmProg
import Derived.Shelf.Strings.Repeat
import Derived.Lib.ReplaceLaws
import Derived.Lib.SplitLaws
import Derived.ShapedOpen
import Derived.Shelf.Slices.Clone
import Derived.Shelf.Slices.CompactS
set_option linter.all false
set_option linter.defProp false
set_option linter.unusedSimpArgs false
set_option linter.unusedVariables false
open Nat (reduceEqDiff)
namespace Go.Ir
open Go.Proofs
variable(W0:World)
set_option maxHeartbeats 4000000 in
theorem Sp:∀(N:Nat) (ps:List Aj),AU ps<N->AU ps<=2^24->
  An Tryz.prog W0 96 [.sl (ps.map Aj.enc)] [] (.i .i64 (CC ps)) []:=by
 intro N
 induction N with
 | zero=>intro ps h;omega
 | succ N ih=>
 intro ps hN hb;have Z:=Ez ps;generalize hS:CC ps=S;refine Ah (vs:=[.i .i64 S]) ApI (by simp) (by simp) λn0 U=>?_;clear U;simp only[push_cast,seval,reduceEqDiff];intros;refine Am ps.length (Inv:=λm st=>∃done a n e x,x=((e:Nat):Int)/\ps=done++a/\m=a.length/\e+CC a=S/\e+20*AU a<=20*AU ps/\st=⟨[(3,.i .i64 x),(10,.sl (ps.map Aj.enc)),(11,.i .i64 ps.length),(12,.i .i64 done.length)],[],n⟩) ⟨_,Ak.refl,[],ps,_,0,0,rfl,rfl,rfl,by omega,by omega,rfl⟩ ?_;clear hS;rintro m _ ⟨done,a,n,e,_,rfl,d,rfl,b,D,rfl⟩;cases a with
 | nil=>
  rw[CC,AwA] at b;subst b;simp only[push_cast,seval,reduceEqDiff,d]
  repeat' (first|(((first|apply Ab|apply Ag|apply Af)<;>intro _h)<;>simp only[push_cast,seval,reduceEqDiff,_h])|intro _)
  all_goals (first|(refine Ai ?_;simp[get]<;>(intros;omega);done)|(refine Ae ?_;simp[push_cast,get];done)|skip)
 | cons p a=>
  have ae:=AH d;have hw:=Fq (ps:=ps) (p:=p) (by rw[d];simp);rw[p.wt_eq] at hw;rw[IJ,<-AwF] at b;rw[Bk,p.wt_eq] at D;have V:=p.lenB_le;rw[p.wt_eq] at V;have ai:=J6 p.parts;have ah:=Ep p.cases;have T:=ih p.parts (by omega) (by omega);have I:=D9 W0 p.kind;rw[p.lenB_eq] at b;by_cases k1:p.kind=1
  ·have L:=YL W0 p.text (by omega);have:=Rd p.text;rw[k1] at b;simp only[push_cast,seval,reduceEqDiff,d,Ad p (done:=done) (by omega),k1,Int.reduceBEq,Int.reduceBNe];have _h:=trivial;repeat' (first|(first|((first|apply Ab|apply Ag|apply Af)<;>intro _h)|refine Ac L ?_|refine As (by omega) ?_)<;>simp only[push_cast,seval,reduceEqDiff,_h,d,Ad p (done:=done) (by omega),k1,Int.reduceBEq,Int.reduceBNe]|intro _)
   refine⟨_,_,Ab3 _,Ak.drop1 rfl (Abm _),done++[p],a,_,e+(GF p.text).length,_,by(try simp(disch:=omega) only [wrap64]);omega,by simp,rfl,by rw[<-b];simp,by rw[<-d];omega,rfl⟩
  by_cases k2:p.kind=10
  ·rw[k2] at b;simp only[push_cast,seval,reduceEqDiff,d,Ad p (done:=done) (by omega),k2,Int.reduceBEq,Int.reduceBNe]
   repeat' (first|(((first|apply Ab|apply Ag|apply Af)<;>intro _h)<;>simp only[push_cast,seval,reduceEqDiff,_h,d,Ad p (done:=done) (by omega),k2,Int.reduceBEq,Int.reduceBNe])|(refine As (by omega) ?_;simp only[push_cast,seval,reduceEqDiff,d,Ad p (done:=done) (by omega),k2,Int.reduceBEq,Int.reduceBNe])|intro _)
   refine⟨_,_,Ab3 _,Ak.drop1 rfl (Abm _),done++[p],a,_,e+1,_,by(try simp(disch:=omega) only [wrap64]);omega,by simp,rfl,by rw[<-b];simp,by rw[<-d];omega,rfl⟩
  by_cases k3:p.kind=11
  ·rw[k3] at b;rcases hps:p.parts with _|⟨q,qs⟩
   ·rw[hps] at b;simp only[push_cast,seval,reduceEqDiff,d,Ad p (done:=done) (by omega),k3,Int.reduceBEq,Int.reduceBNe,hps]
    repeat' (first|(((first|apply Ab|apply Ag|apply Af)<;>intro _h)<;>simp only[push_cast,seval,reduceEqDiff,_h,d,Ad p (done:=done) (by omega),k3,Int.reduceBEq,Int.reduceBNe,hps])|(refine As (by omega) ?_;simp only[push_cast,seval,reduceEqDiff,d,Ad p (done:=done) (by omega),k3,Int.reduceBEq,Int.reduceBNe,hps])|intro _)
    refine⟨_,_,Ab3 _,Ak.drop1 rfl (Abm _),done++[p],a,_,e+(3+p.name.length),_,by(try simp(disch:=omega) only [wrap64]);omega,by simp,rfl,by rw[<-b];simp,by rw[<-d];omega,rfl⟩
   ·have X:decide ((p.parts.length:Int)>0)=true:=by rw[hps];simp<;>omega
    have e2:p.parts.isEmpty=false:=by rw[hps];rfl
    rw[e2] at b;clear hps;simp only[push_cast,seval,reduceEqDiff,d,Ad p (done:=done) (by omega),k3,Int.reduceBEq,Int.reduceBNe,X];have _h:=trivial;repeat' (first|(first|((first|apply Ab|apply Ag|apply Af)<;>intro _h)|refine Ac T ?_|refine As (by omega) ?_)<;>simp only[push_cast,seval,reduceEqDiff,_h,d,Ad p (done:=done) (by omega),k3,Int.reduceBEq,Int.reduceBNe,X]|intro _)
    refine⟨_,_,Ab3 _,Ak.drop1 rfl (Abm _),done++[p],a,_,e+(3+p.name.length)+((2+p.name.length)+CC p.parts),_,by(try simp(disch:=omega) only [wrap64]);omega,by simp,rfl,by rw[<-b];simp<;>omega,by rw[<-d];omega,rfl⟩
  have q1:(p.kind==1)=false:=by simpa using k1
  have q2:(p.kind==10)=false:=by simpa using k2
  have q3:(p.kind==11)=false:=by simpa using k3
  rw[q1,q2,q3] at b;simp only[bq,if_true,if_false,Int.reduceBEq,reduceCtorEq] at b;simp only[push_cast,seval,reduceEqDiff,d,Ad p (done:=done) (by omega),q1,q2,q3,Int.reduceBEq,Int.reduceBNe];intros;refine LE (Ak5 W0) (λ_ _ h=>by simp[lk] at h) ?_;rw[HE];simp only[push_cast,seval,reduceEqDiff];intro kk;have al:=M4 p.kind;refine Am (Q8 []) (Inv:=λm st=>∃seen n' x z J,x=((e+(2+p.name.length)+Gm p.kind seen:Nat):Int)/\m=Q8 seen/\(∀i∈seen,i<7)/\st=⟨[(3,.i .i64 x),(5,.ref (J,5) 0),(10,.sl (List.map Aj.enc (done++p::a))),(11,.i .i64 (done++p::a).length),(12,.i .i64 done.length),(25,.arr (z,25))],[((z,25),.mit (z,24) EJ.length seen EJ.length),((z,24),.map EJ),((J,5),.box p.v)],n'⟩) ⟨_,Ak.refl,[],_,_,_,_,by(simp(disch:=omega) only [wrap64,bY];omega),rfl,by simp,rfl⟩ ?_;rintro m _ ⟨seen,n',x,z,J,W,rfl,H,rfl⟩;unfold Aj.v;simp only[push_cast,seval,reduceEqDiff,d,Ad p (done:=done) (by omega),q1,q2,q3,Int.reduceBEq,Int.reduceBNe];refine XX (id:=(z,25)) (mid:=(z,24)) (es:=EJ) (seen:=seen) rfl (by simp[lk]) (by simp[lk]) (by simp) (by simp) (λi kv M G=>?_) (λo=>?_)
  ·obtain⟨O,rfl⟩:=z7 M;have r:(seen++[i]).getLast?=some i:=by simp
   have aa:=M4 (i+3:Nat);have F:=fG O G;have y:∀j∈seen++[i],j<7:=by grind
   have E:=λh=>YX (k:=p.kind) (seen:=seen) (i:=i) h G;have A:=λh=>UO (k:=p.kind) (seen:=seen) (i:=i) h;generalize ag:((i+3:Nat):Int)=ki at *;have aj:Gm p.kind seen<=9:=by unfold Gm;split<;>omega
   simp only[push_cast,seval,reduceEqDiff,r,M]
   repeat' (first|(((first|apply Ab|apply Ag|apply Af)<;>intro _h)<;>simp only[push_cast,seval,reduceEqDiff,_h,r,M])|intro _)
   ·obtain⟨u1,u2⟩:=E (by simpa using _h);refine⟨_,_,F,Ak.refl,seen++[i],_,_,_,_,?_,rfl,y,rfl⟩;rw[u2];rw[u1] at W;simp(disch:=omega) only [wrap64];omega
   ·have u2:=A (by simpa using _h);refine⟨_,_,F,Ak.envD (λt=>?_) (Abm _),seen++[i],_,x,z,J,?_,rfl,y,rfl⟩
    ·by_cases Y:6=t
     ·right;subst Y;rfl
     ·by_cases C:34=t
      ·right;subst C;rfl
      ·left;simp[get,Y,C]
    omega
  ·rw[S6] at o;rw[aJ o H] at W;have am:=Yv p.kind;clear o H;obtain⟨sS,u⟩:∃n,n=(if(p.style==[])=true then 0 else 2+p.style.length):=⟨_,rfl⟩
   obtain⟨sC,s⟩:∃n,n=(if Bf p.kind=true then 1 else 0):=⟨_,rfl⟩;rw[<-u,<-s] at b;simp only[push_cast,seval,reduceEqDiff,d,Ad p (done:=done) (by omega),q1,q2,q3,Int.reduceBEq,Int.reduceBNe];have _h:=trivial;repeat' (first|(first|((first|apply Ab|apply Ag|apply Af)<;>intro _h)|refine Ac I ?_)<;>simp only[push_cast,seval,reduceEqDiff,_h,d,Ad p (done:=done) (by omega),q1,q2,q3,Int.reduceBEq,Int.reduceBNe]|intro _)
   all_goals (try simp only[Aot,AuA] at *)
   all_goals (first|rw[if_pos (by assumption)] at u|rw[if_neg (by grind)] at u)
   all_goals (first|rw[if_pos (by assumption)] at s|rw[if_neg (by grind)] at s)
   all_goals
    refine Am p.cases.length (Inv:=λm st=>∃B w n' f x,x=((f:Nat):Int)/\p.cases=B++w/\m=w.length/\f+E3 w+CC a=S/\f+20*DG w+20*AU a<=20*AU ps/\st=⟨[(3,.i .i64 x),(10,.sl (List.map Aj.enc (done++p::a))),(11,.i .i64 (done++p::a).length),(12,.i .i64 done.length),(55,.sl (p.cases.map AJ.enc)),(56,.i .i64 p.cases.length),(57,.i .i64 B.length)],[],n'⟩) ⟨_,Ak.drop (λ_ _ h=>by cases h) (Abm _),[],p.cases,_,e+(2+p.name.length)+NQ p.kind+sS+sC,_,by((try simp(disch:=omega) only [wrap64]);omega),rfl,rfl,by rw[<-b];omega,by omega,rfl⟩ ?_;clear b u s W;rintro m _ ⟨B,w,n',f,x,rfl,g,rfl,b,l,rfl⟩;cases w with
    | nil=>rw[E3,AwA] at b;rw[Rp] at l;simp only[push_cast,seval,reduceEqDiff,g,Ad p (done:=done) (by omega)];intros;exact⟨_,_,Ab3 _,Ak.refl,done++[p],a,_,f,_,rfl,by simp,rfl,b,by rw[<-d];omega,rfl⟩
    | cons c w=>
     have af:=AH g;have ao:=Cm (cs:=p.cases) (c:=c) (by simp[g]);rw[GN] at b;rw[B6] at l;have ak:=J6 c.2;have K:=ih c.2 (by omega) (by omega);simp only[push_cast,seval,reduceEqDiff,g,Ad c (done:=B) (by omega)]
     repeat' (first|(refine Ac (by exact K) ?_;simp only[push_cast,seval,reduceEqDiff,g,Ad c (done:=B) (by omega)])|intro _)
     refine⟨_,_,Ab3 _,Ak.drop1 rfl (Abm _),B++[c],w,_,f+((4+c.1.length)+CC c.2),_,by(simp(disch:=omega) only [wrap64];omega),by simp[g],rfl,by rw[<-b];omega,by omega,rfl⟩
def Da(ps:List Aj):Bool:=(BM ps 0 false false []).1&&decide (((BM ps 0 false false []).2.length:Int)<=20)&&decide ((CC ps:Int)<=4000)
theorem Acw(ps:List Aj)(d:AU ps<=2^24):An Tryz.prog W0 59 [.sl (ps.map Aj.enc),.b false] [] (.b (Da ps)) []:=by
 have a:=λid=>Aov W0 _ ps 0 false [] id (Ab3 _) d (by omega) (by omega);have e:=Sp W0 _ ps (Ab3 _) d;generalize hS:Da ps=S;unfold Da at hS;generalize BM ps 0 false false []=R at *;obtain⟨f,rl⟩:=R;have a:∀id,An Tryz.prog W0 95 [.agg [.arr id],.sl (ps.map Aj.enc),.i .i64 0,.b false] [(id,.map [])] (.b f) [(id,.map (CN rl))]:=a;simp only at hS;refine Ah (vs:=[.b S]) AoZ (by simp) (by simp) λn0 c=>?_;clear c;simp only[push_cast,seval,reduceEqDiff];intros;refine aS (a _) ?_ ?_
 ·simp
 simp only[push_cast,seval,reduceEqDiff,SG];have _h:=trivial;repeat' (first|(first|((first|apply Ab|apply Ag|apply Af)<;>intro _h)|refine Ac e ?_)<;>simp only[push_cast,seval,reduceEqDiff,_h]|intro _)
 all_goals (try simp only[SG] at *)
 all_goals subst hS
 all_goals (first|(refine Ai ?_;simp[get, *]<;>(intros;omega);done)|(refine Ae ?_;simp[push_cast,get, *];done)|skip)
theorem Wr(ps:List Aj)(c:AU ps<=2^24):An Tryz.prog W0 35 [.sl (ps.map Aj.enc)] [] (.b (Da ps)) []:=by
 refine Ah (vs:=[.b (Da ps)]) Ao8 (by simp) (by simp) λn0 a=>?_;clear a;simp only[push_cast,seval,reduceEqDiff];have _h:=trivial;repeat' (first|(first|((first|apply Ab|apply Ag|apply Af)<;>intro _h)|refine Ac (Acw W0 ps c) ?_)<;>simp only[push_cast,seval,reduceEqDiff,_h]|intro _)
 all_goals (first|(refine Ai ?_;simp[get]<;>(intros;omega);done)|(refine Ae ?_;simp[push_cast,get];done)|skip)
structure WX where
 L:BO
 vs:List AY
 iso:Bool
def TW:Nat:=121
def wA(u:Bool)(a:Id):V:=if u then .ref a 0 else .np
def wC(X:WX)(a:V)(b:Id)(e:Int):V:=.agg [a,.arr b,.s X.L.tag,.s X.L.parent,.s X.L.dir,.sl (X.L.card.map A7.enc),.sl (X.L.ord.map A7.enc),.s X.L.dec,.s X.L.grp,.s X.L.minus,.s X.L.perc,.i .i64 X.L.prim,.i .i64 X.L.sec,.sl (X.L.lists.map CF.enc),.sl (X.L.units.map Dt.enc),.sl (X.L.dates.map CE.enc),.sl (X.L.months.map V.s),.sl (X.L.days.map V.s),.sl (X.vs.map AY.enc),.b X.iso,.i .i64 e]
@[push_cast] theorem An2(X:WX)(a:V)(b:Id)(e:Int):wC X a b e=.agg [a,.arr b,.s X.L.tag,.s X.L.parent,.s X.L.dir,.sl (X.L.card.map A7.enc),.sl (X.L.ord.map A7.enc),.s X.L.dec,.s X.L.grp,.s X.L.minus,.s X.L.perc,.i .i64 X.L.prim,.i .i64 X.L.sec,.sl (X.L.lists.map CF.enc),.sl (X.L.units.map Dt.enc),.sl (X.L.dates.map CE.enc),.sl (X.L.months.map V.s),.sl (X.L.days.map V.s),.sl (X.vs.map AY.enc),.b X.iso,.i .i64 e]:=rfl
def Km(a:Id)(X:WX)(u:Bool)(b:Id)(l:Aa):Al:=[(a,.tbox TW (wC X (wA u a) b 0)),(b,.arr 5 1 (Ay l))]
theorem DN{n0 n n' m:Nat}{b a:Id}(h:n<=a.1/\a.1<n'\/a=b)(c:n0<=n)(d:n'<=m):n0<=a.1/\a.1<m\/a=b:=by grind
theorem W4{n m:Nat}{b c a:Id}(h:n<=c.1/\c.1<m\/c=b)(k:n<=a.1/\a.1<m\/a=c):n<=a.1/\a.1<m\/a=b:=by grind
theorem Fn(a b:Aa):Ay a++Ay b=Ay (a++b):=by simp[Ay]
theorem Bs(a:Aa):(Ay a).length=a.length:=by simp[Ay]
theorem JH{a c:Id}{A C:Ax}(h:a≠c):∀i e,lk [(a,A),(c,C)] i=some e->lk [(c,C),(a,A)] i=some e:=by intro i e b;simp only[lk] at b⊢;grind
theorem GI(σ σo:Al):over σ σo σ=σo:=by have:=Eq (σi:=σ) (σo:=σo) (pre:=[]) (λp hp=>by cases hp);simpa using this
theorem t6(a b:Id)(X:WX)(u:Bool)(l t:Aa)(g:b≠a)(h:l.length+t.length<=2^30) :
  Ex Tryz.prog W0 124 [.ref a 0,.s t] (Km a X u b l) (λn n' v σ'=>v=.tup [.i .i64 t.length,.ni]/\∃c:Id,(n<=c.1/\c.1<n')/\σ'=Km a X true c (l++t)):=by
 generalize y:(fun(n n':Nat) (v:V) (σ':Al)=>v=V.tup [.i .i64 t.length,.ni]/\∃c:Id,(n<=c.1/\c.1<n')/\σ'=Km a X true c (l++t))=R;refine Cc iX (by simp) λn0 f=>?_;have A:a.1<n0:=f a _ (by simp[Km,lk];rfl);have z:b.1<n0:=f b _ (by simp[Km,lk,AhZ g];rfl);clear f;have d:An Tryz.prog W0 180 [.ref a 0] [(a,.tbox TW (wC X (wA u a) b 0))] (.tup []) [(a,.tbox TW (wC X (wA true a) b 0))]:=by
  cases u with
  | true=>exact Vd W0
  | false=>exact Xt W0 (by kernel_rfl)
 simp only[An2] at d;have o:(a=b)=False:=eq_false (AhZ g);have q:(b=a)=False:=eq_false g;simp only[push_cast,seval,reduceEqDiff,o,q,Km];intro k1;refine Bq d (λi e h=>AP (τ:=[(b,Ax.arr 5 1 (Ay l))]) h) ?_;rw[HN (λp hp=>by grind)];clear d;have r:∀k j:Nat,((n0+1+k1+1+k,j)=a)=False:=λk j=>eq_false λm=>by grind
 have w:∀k j:Nat,((n0+1+k,j)=b)=False:=λk j=>eq_false λm=>(by grind)
 have x:∀k j:Nat,(b=(n0+1+k,j))=False:=λk j=>eq_false λm=>of_eq_false (w k j) m.symm;simp only[push_cast,seval,reduceEqDiff,o,q,r,Bs];intro k2;refine As (by unfold AK;omega) ?_;simp only[push_cast,seval,reduceEqDiff,o,q,r,Bs];intro k3 B;subst y;rw[Fn];exact⟨_,Ak.refl,[.i .i64 t.length,.ni],Km a X true (n0+1+k1+1+k2,14) (l++t),⟨rfl,rfl,trivial⟩,JH (AhZ (λm=>of_eq_false (r _ _) m)),rfl,_,⟨by simp only;omega,by simp only;omega⟩,rfl⟩
theorem Ala(a b:Id)(X:WX)(u:Bool)(l:Aa)(c:b≠a):An Tryz.prog W0 125 [.ref a 0] (Km a X u b l) (.i .i64 l.length) (Km a X u b l):=by refine Ah (vs:=[.i .i64 l.length]) Ajv (by simp) (λ_ h=>h) λn0 d=>?_;clear d;have e:(a=b)=False:=eq_false (AhZ c);have f:(b=a)=False:=eq_false c;simp only[push_cast,seval,reduceEqDiff,e,f,Km,Bs];intros;exact AD (by simp[get]) (λ_ _ h=>h)
theorem Bw{a b:Id}{X:WX}{u:Bool}{l:Aa}:lk (Km a X u b l) a=some (.tbox TW (wC X (wA u a) b 0)):=by simp[Km,lk]
theorem PE{a b x:Id}{X:WX}{u:Bool}{l:Aa}(c:a≠x)(d:b≠x):lk (Km a X u b l) x=none:=by simp[Km,lk,c,d]
theorem LR{a b x:Id}{X:WX}{u:Bool}{l:Aa}{e:Ax}{σo:Al}(d:a≠x)(f:b≠x):over (Km a X u b l) σo ((x,e)::Km a X u b l)=σo++[(x,e)]:=
 Eq (pre:=[(x,e)]) (λp hp q c=>by simp[Km] at hp c;grind)
theorem Ak.ownTbox{W0:World}{T:TypeId}{nt n:Nat}{env:AE}{τ:Al}{rid:Id}{A B:List V}(e sz k:Nat):Ak W0 nt ⟨env,(rid,.tbox T (.agg (A++.nil::B)))::τ,n⟩ ⟨env,((n,k),.arr e sz [])::(rid,.tbox T (.agg (A++.arr (n,k)::B)))::τ,n+1⟩:=by
 intro W a w s;obtain⟨μ,H,F,hp,M,r,m,t⟩:=s;have b:μ (n,k)=none:=hp.bd _ (Abm _);have i:=Bj (v:=.slice none 0 0) b;have y:lk ((rid,Ax.tbox T (.agg (A++.nil::B)))::τ) rid=some (.tbox T (.agg (A++.nil::B))):=by simp[lk]
 have p:((n,k):Id)≠rid:=by rintro rfl;obtain⟨_,D⟩:=(hp.ents _ _ y).named;rw[b] at D;cases D
 have d:=(hp.more (AmL n)).new_ (n':=n+1) (w':=w) (R:=λ_=>False) ⟨rfl,rfl,rfl,Abm _,λ_ _ _=>rfl⟩ (λ_ h=>h.elim) (σ1:=(rid,.tbox T (.agg (A++.nil::B)))::τ) (λid e h=>⟨h,λ_ _ h=>h⟩) (id:=(n,k)) (e:=.arr e sz []) (val:=.slice none 0 0) b (Ab3 _) (Abm _) (λC L=>by simp[BH] at L)
  ⟨.slice none 0 0,[],Aq _ _ _,rfl,AwK w _ e sz,Alq _,(λx S=>by cases S),AI.nil_⟩
 have o:lk (((n,k),Ax.arr e sz [])::(rid,.tbox T (.agg (A++.nil::B)))::τ) rid=some (.tbox T (.agg (A++.nil::B))):=by simp[lk,p]
 have f:=d.1.set_ o (w':=w) (e:=.tbox T (.agg (A++.arr (n,k)::B))) ⟨rfl,rfl,rfl,Abm _,λ_ _ _=>rfl⟩ (by
  obtain⟨C,vals,I,J,K,l⟩:=d.1.ents _ _ o;refine⟨C,vals,I,J,K,⟨⟨by have:=l.len;simpa[cells] using this,λj c v g z=>?_⟩,l.one⟩⟩;simp only[cells] at g;by_cases N:j<A.length
  ·rw[At0 N] at g;exact l.at_ j c v (by simp only[cells];grind) z
  ·rw[Arf (by omega)] at g;cases E:j-A.length with
   | zero=>rw[E] at g;simp only[Awq,AkA] at g;subst g;have:=l.at_ j .nil v (by simp only[cells];grind) z;rw[this.nil_inv];exact .arr _ _ (Aq _ _ _) rfl
   | succ q=>rw[E] at g;simp only[Avm] at g;exact l.at_ j c v (by simp only[cells];grind) z)
 have O:upd (((n,k),Ax.arr e sz [])::(rid,.tbox T (.agg (A++.nil::B)))::τ) rid (.tbox T (.agg (A++.arr (n,k)::B)))=((n,k),.arr e sz [])::(rid,.tbox T (.agg (A++.arr (n,k)::B)))::τ:=by simp[upd,p]
 rw[O] at f;refine⟨_,H,⟨F.size,λU=>(F.at_ U).mono i (λ_ _ h=>h)⟩,f.1,M.trans (d.2.trans f.2),λid u G=>?_,All m (AmL _),t⟩;simp only at m;rw[B0 _ _ (by grind)];exact r id u G


def Aa4:List EU->Nat->List Aa×Nat
 | [],i=>([],i)
 | s::L,i=>(s.keys[(Aa4 L i).2 % s.keys.length]?.getD []::(Aa4 L i).1,(Aa4 L i).2 / s.keys.length)
abbrev oG:=List EU×List (List Aj)
def Aib(a:List Aa->gH)(L:List EU)(ps:List Aj)(n:Nat):List (List Aj):=(List.range n).map λi=>VH (a (Aa4 L i).1) [] ps []
def Amz(l:Loc)(ps:List Aj):oG×Int:=
 if !Da ps then(([],[]),1)
 else if decide ((Rm 1 (RY ps):Int)>400) then(([],[]),6)
 else if !Db [] l.card||!Db [] l.ord then(([],[]),18)
 else((RY ps,Aib (pkP l (RY ps)) (RY ps) ps (Rm 1 (RY ps))),0)
def jM:List Aa->List Aa->Bool
 | _,[]=>true
 | d,k::r=>!d.contains k&&jM (d++[k]) r
def YR(l:List Aa):Bool:=match l.getLast? with
 | none=>false
 | some k=>k==CT
def Ano(s:EU):Bool:=Bf s.kind&&(BN s.name&&YR s.keys)
def Xl:List EU->List EU->Bool
 | _,[]=>true
 | d,s::r=>Ano s&&(jM [] s.keys&&(!d.any (Q9 s.kind s.name)&&Xl (d++[s]) r))
def Aiw(f:oG):Bool:=Xl [] f.1&&(decide ((Rm 1 f.1:Int)<=400)&&((f.2.length:Int)==(Rm 1 f.1:Int)))

def Rn:List Aa->Int->Int
 | [],n=>n
 | x::r,n=>Rn r (max n (x.length:Int))
def Ct(e:Bool):List AY->Bool
 | []=>e
 | v::r=>!(decide (Rn v.list (v.text.length:Int)>200)||decide ((v.list.length:Int)>12)||decide ((v.name.length:Int)>60))&&Ct e r
set_option maxHeartbeats 4000000 in
theorem OL(vs:List AY)(C:vs.length<=2^40)(A:∀v∈vs,v.list.length<=2^40):An Tryz.prog W0 18 [.sl (vs.map AY.enc)] [] (.b (Ct (decide ((vs.length:Int)<=30)) vs)) []:=by
 generalize z:decide ((vs.length:Int)<=30)=E;generalize hS:Ct E vs=S;refine Ah (vs:=[.b S]) Am5 (by simp) (by simp) λn0 u=>?_;clear u;simp only[push_cast,seval,reduceEqDiff];intros;refine Am vs.length (Inv:=λm st=>∃done c n,vs=done++c/\m=c.length/\Ct E c=S/\st=⟨[(0,.sl (vs.map AY.enc)),(3,.i .i64 done.length)],[],n⟩) ⟨_,Ak.refl,[],vs,_,rfl,rfl,hS,rfl⟩ ?_;clear hS;rintro m _ ⟨done,c,n,p,rfl,j,rfl⟩;cases c with
 | nil=>
  have g:decide ((done.length:Int)<(vs.length:Int))=false:=by rw[p];simp
  rw[Ct] at j;simp only[push_cast,seval,reduceEqDiff,g,Acr,z];intros;exact Ai (by simp[get,j])
 | cons v c=>
  have g:decide ((done.length:Int)<(vs.length:Int))=true:=by rw[p];simp;omega
  have h:=AH p;have d:(vs.map AY.enc)[done.length]?=some (.agg [.s v.name,.i .i64 v.type,.s v.text,.i .i64 v.date,.sl (v.list.map V.s)]):=by rw[p,Aru,Arf (by simp)];simp[AY.enc_eq]
  have B:=A v (by rw[p];simp);rw[Ct] at j;simp only[push_cast,seval,reduceEqDiff,g,d,if_pos h,Acr];intros;refine Am v.list.length (Inv:=λm st=>∃l o n a,v.list=l++o/\m=o.length/\Rn v.list (v.text.length:Int)=Rn o a/\st=⟨[(0,.sl (vs.map AY.enc)),(3,.i .i64 done.length),(4,.i .i64 a),(5,.i .i64 l.length)],[],n⟩) ⟨_,Ak.refl,[],v.list,_,_,rfl,rfl,rfl,rfl⟩ ?_;rintro m _ ⟨l,o,D,a,f,rfl,q,rfl⟩;cases o with
  | nil=>
   have e:decide ((l.length:Int)<(v.list.length:Int))=false:=by rw[f];simp
   rw[Rn] at q;rw[q] at j;simp only[push_cast,seval,reduceEqDiff,e,d,if_pos h,Acr,Ad v (done:=done) (by omega)];clear q f
   repeat' (first|(((first|apply Ab|apply Ag|apply Af)<;>intro _h)<;>simp only[push_cast,seval,reduceEqDiff,_h,e,d,if_pos h,Acr,Ad v (done:=done) (by omega)])|intro _)
   all_goals (first|(simp only[*,bq,if_true,if_false,Int.reduceBEq,reduceCtorEq] at j;subst j;exact Ai (by simp[get]))|skip)
   have w:decide ((v.list.length:Int)>12)=false:=by assumption
   have x:decide ((v.name.length:Int)>60)=false:=by assumption
   have y:decide (a>200)=false:=by assumption
   simp only[w,x,y,bq,if_true,if_false,Int.reduceBEq,reduceCtorEq] at j;exact⟨_,_,Ab3 _,Ak.refl,done++[v],c,_,by rw[p];simp,rfl,j,rfl⟩
  | cons k o=>
   have e:decide ((l.length:Int)<(v.list.length:Int))=true:=by rw[f];simp;omega
   have t:=AH f;have r:(v.list.map V.s)[l.length]?=some (.s k):=by simp_all
   rw[Rn] at q;simp only[push_cast,seval,reduceEqDiff,e,d,if_pos h,r,if_pos t,Acr,Ad k (done:=l) (by omega)];intros;exact⟨_,_,Ab3 _,Ak.refl,l++[k],o,_,_,by rw[f];simp,rfl,q,rfl⟩
def Ii(s:Aa):Nat:=s.length+30
def Fo(l:List Aa):Nat:=BA Ii l
theorem Ge(l:List Aa)(k:Fo l<=2^40):An Tryz.prog W0 85 [.sl (l.map V.s)] [] (.i .i64 (Fo l)) []:=by
 have f:l.length<=Fo l:=Fm (λx=>by unfold Ii;omega) l;generalize hS:Fo l=S at *;refine Ah (vs:=[.i .i64 S]) AnB (by simp) (by simp) λn0 d=>?_;clear d;simp only[push_cast,seval,reduceEqDiff];intros;refine Am l.length (Inv:=λm st=>∃done b n,∃a:Nat,l=done++b/\m=b.length/\a+Fo b=S/\st=⟨[(0,.sl (l.map V.s)),(3,.i .i64 a),(4,.i .i64 done.length)],[],n⟩) ⟨_,Ak.refl,[],l,_,0,rfl,rfl,by rw[hS];omega,rfl⟩ ?_;clear hS;rintro m _ ⟨done,b,n,a,e,rfl,c,rfl⟩;cases b with
 | nil=>
  have:a=S:=by simpa[Fo,BA] using c
  subst this;simp only[push_cast,seval,reduceEqDiff,e];intros
  all_goals (first|(refine Ai ?_;simp[get]<;>(intros;omega);done)|(refine Ae ?_;simp[push_cast,get];done)|skip)
 | cons p b=>
  have g:=AH e;unfold Fo at c;rw[BA] at c;have hp:Ii p=p.length+30:=rfl;have h:IntKind.i64.wrap ((p.length:Int)+30)=((Ii p:Nat):Int):=by rw[wrap64 (by omega) (by omega),hp];omega
  have j:IntKind.i64.wrap ((a:Int)+((Ii p:Nat):Int))=((a+Ii p:Nat):Int):=by rw[wrap64 (by omega) (by omega)];omega
  simp only[push_cast,seval,reduceEqDiff,e,Ad p (done:=done) (by omega),h,j];intros;exact⟨_,_,Ab3 _,Ak.refl,done++[p],b,_,a+Ii p,by simp,rfl,by unfold Fo;omega,rfl⟩
def CF.sz(x:CF):Nat:=Fo [x.style,x.two,x.start,x.mid,x.fin]
def Dt.sz(x:Dt):Nat:=Fo [x.unit,x.cls,x.pat]
def CE.sz(x:CE):Nat:=Fo [x.skel,x.pat]
def N8(L:BO):Nat:=(Fo [L.tag,L.parent,L.dir,L.dec,L.grp,L.minus,L.perc]+Fo L.months+Fo L.days+100*(L.card.length+L.ord.length))+BA CF.sz L.lists+BA Dt.sz L.units+BA CE.sz L.dates
set_option maxHeartbeats 4000000 in
theorem Acb(L:BO)(y:N8 L<=2^40):An Tryz.prog W0 54 [.agg [.sl [L.enc],.nil,.nil]] [] (.i .i64 (N8 L)) []:=by
 have T:L.lists.length<=BA CF.sz L.lists:=Fm (λx=>by unfold CF.sz Fo;simp only[BA,Ii];omega) _;have U:L.units.length<=BA Dt.sz L.units:=Fm (λx=>by unfold Dt.sz Fo;simp only[BA,Ii];omega) _;have W:L.dates.length<=BA CE.sz L.dates:=Fm (λx=>by unfold CE.sz Fo;simp only[BA,Ii];omega) _;have J:=Ge W0 [L.tag,L.parent,L.dir,L.dec,L.grp,L.minus,L.perc] (by unfold N8 at y;omega);have M:=Ge W0 L.days (by unfold N8 at y;omega);have c3:=Ge W0 L.months (by unfold N8 at y;omega);simp only[Alh,Alw] at J;generalize hS:N8 L=S;unfold N8 at hS y;generalize Fo [L.tag,L.parent,L.dir,L.dec,L.grp,L.minus,L.perc]=r at *;generalize Fo L.days=z at *;generalize Fo L.months=t at *;generalize Y:r+t+z+100*(L.card.length+L.ord.length)=A at *;refine Ah (vs:=[.i .i64 S]) Ama (by simp) (by simp) λn0 H=>?_;clear H;simp only[push_cast,seval,reduceEqDiff];intros;refine Am 1 (Inv:=λm st=>∃n,∃a:Nat,(a=0/\m=1\/a=S/\m=0)/\st=⟨[(1,.ref (n0,1) 0),(3,.i .i64 a),(4,.i .i64 ((1-m:Nat):Int))],[((n0,1),.box (.agg [.sl [L.enc],.nil,.nil]))],n⟩) ⟨_,Ak.refl,_,0,.inl ⟨rfl,rfl⟩,rfl⟩ ?_;rintro m _ ⟨n,a,X,rfl⟩;rcases X with⟨rfl,rfl⟩|⟨rfl,rfl⟩
 ·have B:IntKind.i64.wrap ((r:Int)+(t:Int))=(r:Int)+(t:Int):=by rw[wrap64 (by omega) (by omega)]
  have C:IntKind.i64.wrap ((r:Int)+(t:Int)+(z:Int))=(r:Int)+(t:Int)+(z:Int):=by rw[wrap64 (by omega) (by omega)]
  have D:IntKind.i64.wrap ((L.card.length:Int)+(L.ord.length:Int))=(L.card.length:Int)+(L.ord.length:Int):=by rw[wrap64 (by omega) (by omega)]
  have E:IntKind.i64.wrap (100*((L.card.length:Int)+(L.ord.length:Int)))=100*((L.card.length:Int)+(L.ord.length:Int)):=by rw[wrap64 (by omega) (by omega)]
  have F:IntKind.i64.wrap ((r:Int)+(t:Int)+(z:Int)+100*((L.card.length:Int)+(L.ord.length:Int)))=(A:Int):=by rw[wrap64 (by omega) (by omega)];omega
  have G:IntKind.i64.wrap (0+(A:Int))=(A:Int):=by grind
  simp only[push_cast,seval,reduceEqDiff,B,C,D,E,F,G];intros;refine Ac (by exact J) ?_;simp only[push_cast,seval,reduceEqDiff,B,C,D,E,F,G];refine Ac (by exact c3) ?_;simp only[push_cast,seval,reduceEqDiff,B,C,D,E,F,G];refine Ac (by exact M) ?_;simp only[push_cast,seval,reduceEqDiff,B,C,D,E,F,G];intros;rename_i k1 k2 k3 Z;obtain⟨x,K⟩:∃x:Id,x=(n+1+k1,5):=⟨_,rfl⟩
  have I:x≠(n0,1):=by rw[K];simp
  rw[<-K];generalize w:((x,Ax.box (.agg [.s L.tag,.s L.parent,.s L.dir,.sl (L.card.map A7.enc),.sl (L.ord.map A7.enc),.s L.dec,.s L.grp,.s L.minus,.s L.perc,.i .i64 L.prim,.i .i64 L.sec,.sl (L.lists.map CF.enc),.sl (L.units.map Dt.enc),.sl (L.dates.map CE.enc),.sl (L.months.map V.s),.sl (L.days.map V.s)]))::_:Al)=τ;have d:lk τ x=some (.box (.agg [.s L.tag,.s L.parent,.s L.dir,.sl (L.card.map A7.enc),.sl (L.ord.map A7.enc),.s L.dec,.s L.grp,.s L.minus,.s L.perc,.i .i64 L.prim,.i .i64 L.sec,.sl (L.lists.map CF.enc),.sl (L.units.map Dt.enc),.sl (L.dates.map CE.enc),.sl (L.months.map V.s),.sl (L.days.map V.s)])):=by rw[<-w];simp[lk]
  obtain⟨q,N⟩:∃q,q=A+BA CF.sz L.lists:=⟨_,rfl⟩;obtain⟨u,O⟩:∃u,u=q+BA Dt.sz L.units:=⟨_,rfl⟩;refine Am L.lists.length (Inv:=λm st=>∃done b j,∃a:Nat,L.lists=done++b/\m=b.length/\a+BA CF.sz b=A+BA CF.sz L.lists/\st=⟨[(1,.ref (n0,1) 0),(3,.i .i64 a),(4,.i .i64 0),(5,.ref x 0),(6,.i .i64 done.length)],τ,j⟩) ⟨_,Ak.refl,[],L.lists,_,A,rfl,rfl,rfl,rfl⟩ ?_;rintro m _ ⟨done,b,j,a,f,rfl,k,rfl⟩;cases b with
  | cons p b=>
   have g:=AH f;rw[BA] at k;have l:CF.sz p<=2^40:=by omega
   have cs:An Tryz.prog W0 85 [.sl [.s p.style,.s p.two,.s p.start,.s p.mid,.s p.fin]] [] (.i .i64 (CF.sz p)) []:=Ge W0 [p.style,p.two,p.start,p.mid,p.fin] l;have o:IntKind.i64.wrap ((a:Int)+((CF.sz p:Nat):Int))=(a:Int)+((CF.sz p:Nat):Int):=by rw[wrap64 (by omega) (by omega)]
   have e:(L.lists.map CF.enc)[done.length]?=some (CF.enc p):=by rw[f];simp
   have c:decide ((done.length:Int)<(L.lists.length:Int))=true:=by rw[f];simp;omega
   have h:IntKind.i64.wrap ((done.length:Int)+1)=((done++[p]).length:Int):=Ad p (by omega);simp only[push_cast,seval,reduceEqDiff,e,c,h,d,o,if_pos g];have _h:=trivial;repeat' (first|(first|((first|apply Ab|apply Ag|apply Af)<;>intro _h)|refine Ac cs ?_)<;>simp only[push_cast,seval,reduceEqDiff,_h,e,c,h,d,o,if_pos g]|intro _)
   exact⟨_,_,Ab3 _,Ak.refl,done++[p],b,_,a+CF.sz p,by rw[f];simp,rfl,by omega,rfl⟩
  | nil=>
   have v:a=q:=by rw[BA] at k;omega
   rw[v];have c:decide ((done.length:Int)<(L.lists.length:Int))=false:=by rw[f];simp
   simp only[push_cast,seval,reduceEqDiff,c,d];intros;clear k f c;refine Am L.units.length (Inv:=λm st=>∃done b j,∃a:Nat,L.units=done++b/\m=b.length/\a+BA Dt.sz b=q+BA Dt.sz L.units/\st=⟨[(1,.ref (n0,1) 0),(3,.i .i64 a),(4,.i .i64 0),(5,.ref x 0),(7,.i .i64 done.length)],τ,j⟩) ⟨_,Ak.refl,[],L.units,_,q,rfl,rfl,rfl,rfl⟩ ?_;rintro m _ ⟨done,b,j,a,f,rfl,k,rfl⟩;cases b with
   | cons p b=>
    have g:=AH f;rw[BA] at k;have l:Dt.sz p<=2^40:=by omega
    have cs:An Tryz.prog W0 85 [.sl [.s p.unit,.s p.cls,.s p.pat]] [] (.i .i64 (Dt.sz p)) []:=Ge W0 [p.unit,p.cls,p.pat] l;have o:IntKind.i64.wrap ((a:Int)+((Dt.sz p:Nat):Int))=(a:Int)+((Dt.sz p:Nat):Int):=by rw[wrap64 (by omega) (by omega)]
    have e:(L.units.map Dt.enc)[done.length]?=some (Dt.enc p):=by rw[f];simp
    have c:decide ((done.length:Int)<(L.units.length:Int))=true:=by rw[f];simp;omega
    have h:IntKind.i64.wrap ((done.length:Int)+1)=((done++[p]).length:Int):=Ad p (by omega);simp only[push_cast,seval,reduceEqDiff,e,c,h,d,o,if_pos g];have _h:=trivial;repeat' (first|(first|((first|apply Ab|apply Ag|apply Af)<;>intro _h)|refine Ac cs ?_)<;>simp only[push_cast,seval,reduceEqDiff,_h,e,c,h,d,o,if_pos g]|intro _)
    exact⟨_,_,Ab3 _,Ak.refl,done++[p],b,_,a+Dt.sz p,by rw[f];simp,rfl,by omega,rfl⟩
   | nil=>
    have v:a=u:=by rw[BA] at k;omega
    rw[v];have c:decide ((done.length:Int)<(L.units.length:Int))=false:=by rw[f];simp
    simp only[push_cast,seval,reduceEqDiff,c,d];intros;clear k f c;refine Am L.dates.length (Inv:=λm st=>∃done b j,∃a:Nat,L.dates=done++b/\m=b.length/\a+BA CE.sz b=u+BA CE.sz L.dates/\st=⟨[(1,.ref (n0,1) 0),(3,.i .i64 a),(4,.i .i64 0),(5,.ref x 0),(8,.i .i64 done.length)],τ,j⟩) ⟨_,Ak.refl,[],L.dates,_,u,rfl,rfl,rfl,rfl⟩ ?_;rintro m _ ⟨done,b,j,a,f,rfl,k,rfl⟩;cases b with
    | cons p b=>
     have g:=AH f;rw[BA] at k;have l:CE.sz p<=2^40:=by omega
     have cs:An Tryz.prog W0 85 [.sl [.s p.skel,.s p.pat]] [] (.i .i64 (CE.sz p)) []:=Ge W0 [p.skel,p.pat] l;have o:IntKind.i64.wrap ((a:Int)+((CE.sz p:Nat):Int))=(a:Int)+((CE.sz p:Nat):Int):=by rw[wrap64 (by omega) (by omega)]
     have e:(L.dates.map CE.enc)[done.length]?=some (CE.enc p):=by rw[f];simp
     have c:decide ((done.length:Int)<(L.dates.length:Int))=true:=by rw[f];simp;omega
     have h:IntKind.i64.wrap ((done.length:Int)+1)=((done++[p]).length:Int):=Ad p (by omega);simp only[push_cast,seval,reduceEqDiff,e,c,h,d,o,if_pos g];have _h:=trivial;repeat' (first|(first|((first|apply Ab|apply Ag|apply Af)<;>intro _h)|refine Ac cs ?_)<;>simp only[push_cast,seval,reduceEqDiff,_h,e,c,h,d,o,if_pos g]|intro _)
     exact⟨_,_,Ab3 _,Ak.refl,done++[p],b,_,a+CE.sz p,by rw[f];simp,rfl,by omega,rfl⟩
    | nil=>
     have v:a=S:=by rw[BA] at k;omega
     rw[v];have c:decide ((done.length:Int)<(L.dates.length:Int))=false:=by rw[f];simp
     simp only[push_cast,seval,reduceEqDiff,c,d];intros;clear k f c;exact⟨_,_,by omega,(by rw[<-w];exact Ak.drop1 (by simp[lk,AhZ I]) (Abm _)),_,S,.inr ⟨rfl,rfl⟩,rfl⟩
 ·skip;simp only[push_cast,seval,reduceEqDiff,lk];intros;refine Am 0 (Inv:=λm st=>∃j,st=⟨[(1,.ref (n0,1) 0),(3,.i .i64 a),(9,.i .i64 0)],[((n0,1),.box (.agg [.sl [L.enc],.nil,.nil]))],j⟩) ⟨_,Ak.refl,_,rfl⟩ ?_;rintro m _ ⟨j,rfl⟩;simp only[push_cast,seval,reduceEqDiff,lk];intros;refine Am 0 (Inv:=λm st=>∃j,st=⟨[(1,.ref (n0,1) 0),(3,.i .i64 a),(10,.i .i64 0)],[((n0,1),.box (.agg [.sl [L.enc],.nil,.nil]))],j⟩) ⟨_,Ak.refl,_,rfl⟩ ?_;rintro m _ ⟨j,rfl⟩;simp only[push_cast,seval,reduceEqDiff,lk];intros;exact Ai (by simp[get])
def PK(L:BO):Bool:=!(decide ((L.card.length:Int)>12)||decide ((L.ord.length:Int)>12)||decide ((L.lists.length:Int)>12)||decide ((L.units.length:Int)>110)||decide ((L.dates.length:Int)>40)||decide ((L.months.length:Int)>20)||decide ((L.days.length:Int)>20))
def H9(L:BO):Bool:=PK L&&((L.card++L.ord).all (λr=>G7 r.cond)&&decide ((N8 L:Int)<=40000))
set_option maxHeartbeats 4000000 in
theorem Acc(L:BO)(hb:N8 L<=2^40)(hw:A9 L.card+A9 L.ord<=2^24):An Tryz.prog W0 32 [.agg [.sl [L.enc],.nil,.nil]] [] (.b (H9 L)) []:=by
 have ab:=Acb W0 L hb;have g1:=Fy L.card;have g2:=Fy L.ord;generalize hS:H9 L=S;unfold H9 at hS;refine Ah (vs:=[.b S]) Ame (by simp) (by simp) λn0 aa=>?_;clear aa;simp only[push_cast,seval,reduceEqDiff];intros;refine Am 1 (Inv:=λm st=>∃n,(m=1/\(PK L&&((L.card++L.ord).all (λr=>G7 r.cond)&&decide ((N8 L:Int)<=40000)))=S\/m=0/\decide ((N8 L:Int)<=40000)=S)/\st=⟨[(1,.ref (n0,1) 0),(3,.i .i64 ((1-m:Nat):Int))],[((n0,1),.box (.agg [.sl [L.enc],.nil,.nil]))],n⟩) ⟨_,Ak.refl,_,.inl ⟨rfl,hS⟩,rfl⟩ ?_;clear hS;rintro m _ ⟨n,⟨rfl,c⟩|⟨rfl,c⟩,rfl⟩
 ·generalize W:PK L=F at c;unfold PK at W;simp only[push_cast,seval,reduceEqDiff,Acr]
  repeat' (first|(((first|apply Ab|apply Ag|apply Af)<;>intro _h)<;>simp only[push_cast,seval,reduceEqDiff,_h,Acr])|intro _)
  all_goals (first|(simp only[*,bq,if_true,if_false,Int.reduceBEq,reduceCtorEq] at W;subst W;simp only[bq,if_true,if_false,Int.reduceBEq,reduceCtorEq] at c;subst c;exact Ai (by simp[get]))|skip)
  have G:F=true:=by grind
  rw[G,AtA] at c;rename_i k1 k2 _ _ _ _ _ _ k3 k4;clear W G;obtain⟨x,hx⟩:∃x:Id,x=(n+1+k1,4):=⟨_,rfl⟩
  have ae:x≠(n0,1):=by rw[hx];simp
  have ad:x.1<n+1+k1+1+k2+1+k3+1+k4:=by rw[hx];simp only;omega
  rw[<-hx];generalize n+1+k1+1+k2+1+k3+1+k4=n1 at ad⊢;have g:lk [((n0,1),Ax.box (.agg [.sl [L.enc],.nil,.nil]))] x=none:=by simp[lk,AhZ ae]
  rw[L.enc_eq] at g;generalize f:((x,Ax.box (.agg [.s L.tag,.s L.parent,.s L.dir,.sl (L.card.map A7.enc),.sl (L.ord.map A7.enc),.s L.dec,.s L.grp,.s L.minus,.s L.perc,.i .i64 L.prim,.i .i64 L.sec,.sl (L.lists.map CF.enc),.sl (L.units.map Dt.enc),.sl (L.dates.map CE.enc),.sl (L.months.map V.s),.sl (L.days.map V.s)]))::_:Al)=τ;have o:lk τ x=some (.box (.agg [.s L.tag,.s L.parent,.s L.dir,.sl (L.card.map A7.enc),.sl (L.ord.map A7.enc),.s L.dec,.s L.grp,.s L.minus,.s L.perc,.i .i64 L.prim,.i .i64 L.sec,.sl (L.lists.map CF.enc),.sl (L.units.map Dt.enc),.sl (L.dates.map CE.enc),.sl (L.months.map V.s),.sl (L.days.map V.s)])):=by rw[<-f];simp[lk]
  have e:IntKind.i64.wrap ((L.card.length:Int)+(L.ord.length:Int))=((L.card++L.ord).length:Int):=by rw[wrap64 (by omega) (by omega)];simp
  have B:∀{env:AE} {n:Nat},Ak W0 105 ⟨env,τ,n⟩ ⟨env,[((n0,1),Ax.box (.agg [.sl [L.enc],.nil,.nil]))],n⟩:=by intro env n;rw[<-f];exact Ak.drop1 g (Abm _)
  have z:∀id:Id,id≠x->id≠(n0,1)->del τ id=τ:=by intro id T U;rw[<-f];simp[del,T,U,AhZ T,AhZ U]
  have A:∀id:Id,id≠x->id≠(n0,1)->lk τ id=none:=by intro id T U;rw[<-f];simp[lk,AhZ T,AhZ U]
  clear f g;obtain⟨C,Y⟩:∃C,C=L.card++L.ord:=⟨_,rfl⟩
  rw[<-Y] at e c;have ai:C.length<=2^26:=by grind
  have Z:∀r∈C,Dq r.cond<=2^24:=by
   intro r hr;rw[Y] at hr;rcases Ajn.1 hr with h|h
   ·have:=F4 h;unfold A7.wt at this;omega
   ·have:=F4 h;unfold A7.wt at this;omega
  refine Am C.length (Inv:=λm st=>∃done a u,C=done++a/\m=a.length/\(a.all (λr=>G7 r.cond)&&decide ((N8 L:Int)<=40000))=S/\n1<=u/\st=⟨[(1,.ref (n0,1) 0),(3,.i .i64 0),(4,.ref x 0),(5,.i .i64 done.length)],τ,u⟩) ⟨_,Ak.refl,[],C,_,rfl,rfl,c,Abm _,rfl⟩ ?_;clear c;rintro m _ ⟨done,a,u,E,rfl,c,hn,rfl⟩;cases a with
  | nil=>
   have t:decide ((done.length:Int)<(C.length:Int))=false:=by rw[E];simp
   rw[List.all_nil,AtA] at c;simp only[push_cast,seval,reduceEqDiff,t,o,e];intros;exact⟨_,_,by omega,B,_,.inr ⟨rfl,c⟩,rfl⟩
  | cons p a=>
   have ak:=AH E;have t:decide ((done.length:Int)<(C.length:Int))=true:=by rw[E];simp;omega
   have N:IntKind.i64.wrap ((done.length:Int)+1)=((done++[p]).length:Int):=Ad p (by omega);have hf:=Ahq W0 p.cond (Z p (by rw[E];simp));have w:(L.card.map A7.enc++L.ord.map A7.enc)[done.length]?=some p.enc:=by rw[<-Axu,<-Y,E];simp
   have d:∀k j,((u+1+k,j)=x)=False:=λk j=>eq_false λq=>by grind
   have O:∀k j,(x=(u+1+k,j))=False:=λk j=>eq_false λq=>of_eq_false (d k j) q.symm;rw[Axc] at c;have J:∀l:List A7,(∀y∈l.map A7.enc,(cells y).length=2)=True:=λl=>eq_true λy hy=>by obtain⟨r,_,rfl⟩:=Alx.1 hy;rfl
   have K:∀k,del τ (u+1+k,70)=τ:=λk=>z _ (λq=>of_eq_false (d k 70) q) (by simp);have M:∀k,del τ (u+1+k,73)=τ:=λk=>z _ (λq=>of_eq_false (d k 73) q) (by simp);have H:(L.card.length<=AK)=True:=eq_true (by unfold AK;omega);have I:(L.card.length+L.ord.length<=AK)=True:=eq_true (by unfold AK;omega);have v:(done.length<(L.card.map A7.enc++L.ord.map A7.enc).length)=True:=eq_true (by grind);simp only[push_cast,seval,reduceEqDiff,t,N,o,e,w,v,d,O,J,K,M,H,I,Acr];have _h:=trivial;repeat' (first|(first|((first|apply Ab|apply Ag|apply Af)<;>intro _h)|refine Ac hf ?_)<;>simp only[push_cast,seval,reduceEqDiff,_h,t,N,o,e,w,v,d,O,J,K,M,H,I,Acr]|intro _)
   ·have D:G7 p.cond=false:=by simpa using _h
    rw[D,AvE,AvE] at c;subst c;exact Ai (by simp[get])
   ·have D:G7 p.cond=true:=by simpa using _h
    rw[D,AtA] at c;have e6:∀k,lk τ (u+1+k,6)=none:=λk=>A _ (λq=>of_eq_false (d k 6) q) (by simp);have X:∀k,lk τ (u+1+k,76)=none:=λk=>A _ (λq=>of_eq_false (d k 76) q) (by simp);exact⟨_,_,Ab3 _,(Ak.drop1 (by simp[lk,e6]) (Abm _)).trans (Ak.drop1 (X _) (Abm _)),done++[p],a,_,by rw[E];simp,rfl,c,by omega,rfl⟩
 ·skip;simp only[push_cast,seval,reduceEqDiff,lk];have _h:=trivial;repeat' (first|(first|((first|apply Ab|apply Ag|apply Af)<;>intro _h)|refine Ac ab ?_)<;>simp only[push_cast,seval,reduceEqDiff,_h,lk]|intro _)
  exact Ai (by simp[get,c])
set_option maxHeartbeats 4000000 in
theorem AbU(L:BO)(ps:List Aj)(vs:List AY)(h:N8 L<=2^40)(i:A9 L.card+A9 L.ord<=2^24)(j:AU ps<=2^24)(k:vs.length<=2^40)(l:∀v∈vs,v.list.length<=2^40) :
  An Tryz.prog W0 25 [L.enc,.sl (ps.map Aj.enc),.sl (vs.map AY.enc)] [] (.b (H9 L&&Jq ps&&Ct (decide ((vs.length:Int)<=30)) vs)) []:=by
 have f:=Acc W0 L h i;have g:=AqT W0 ps j;have c3:=OL W0 vs k l;rw[BO.enc_eq] at f;generalize H9 L=c at *;generalize Jq ps=d at *;generalize Ct (decide ((vs.length:Int)<=30)) vs=e at *;refine Ah (vs:=[.b (c&&d&&e)]) AqP (by simp) (by simp) λn0 a=>?_;clear a;simp only[push_cast,seval,reduceEqDiff];cases c<;>cases d<;>cases e
 all_goals (repeat' (first|(first|refine Ac (by exact f) ?_|refine Ac (by exact g) ?_|refine Ac (by exact c3) ?_)|intro _)<;>(try simp only[push_cast,seval,reduceEqDiff]))
 all_goals exact Ai (by simp[get])
def NZ(L:BO)(ps:List Aj)(vs:List AY)(a:Bool):V:=.agg [.s L.tag,.s L.parent,.s L.dir,.sl (L.card.map A7.enc),.sl (L.ord.map A7.enc),.s L.dec,.s L.grp,.s L.minus,.s L.perc,.i .i64 L.prim,.i .i64 L.sec,.sl (L.lists.map CF.enc),.sl (L.units.map Dt.enc),.sl (L.dates.map CE.enc),.sl (L.months.map V.s),.sl (L.days.map V.s),.sl (ps.map Aj.enc),.sl (vs.map AY.enc),.b a]
theorem Gd(L:BO)(ps:List Aj)(vs:List AY)(a:Bool):NZ L ps vs a=.agg [.s L.tag,.s L.parent,.s L.dir,.sl (L.card.map A7.enc),.sl (L.ord.map A7.enc),.s L.dec,.s L.grp,.s L.minus,.s L.perc,.i .i64 L.prim,.i .i64 L.sec,.sl (L.lists.map CF.enc),.sl (L.units.map Dt.enc),.sl (L.dates.map CE.enc),.sl (L.months.map V.s),.sl (L.days.map V.s),.sl (ps.map Aj.enc),.sl (vs.map AY.enc),.b a]:=rfl
theorem cB(L:BO)(ps:List Aj)(vs:List AY)(c:Bool)(e:N8 L<=2^40)(f:A9 L.card+A9 L.ord<=2^24)(g:AU ps<=2^24)(h:vs.length<=2^40)(i:∀v∈vs,v.list.length<=2^40) :
  An Tryz.prog W0 9 [NZ L ps vs c] [] (.b (H9 L&&Jq ps&&Ct (decide ((vs.length:Int)<=30)) vs)) []:=by
 have d:=AbU W0 L ps vs e f g h i;rw[BO.enc_eq] at d;generalize(H9 L&&Jq ps&&Ct (decide ((vs.length:Int)<=30)) vs)=S at *;rw[Gd];refine Ah (vs:=[.b S]) Atw (by simp) (by simp) λn0 a=>?_;clear a;simp only[push_cast,seval,reduceEqDiff];have _h:=trivial;repeat' (first|(first|((first|apply Ab|apply Ag|apply Af)<;>intro _h)|refine Ac d ?_)<;>simp only[push_cast,seval,reduceEqDiff,_h]|intro _)
 exact Ai (by simp[get])
end Go.Ir
namespace Go.Proofs
open Go.Shelf
def Tryz.laysM171_ren:Go.Shelf.Ren:=⟨fun|171=>221|243=>282|246=>315|283=>332|284=>333|285=>334|286=>335|129=>179|317=>343|318=>344|319=>345|320=>346|337=>351|338=>352|n=>n,fun|3=>3|9=>9|2=>2|4=>4|171=>384|0=>0|53=>282|37=>96|5=>5|173=>386|212=>397|51=>280|20=>20|213=>398|46=>237|232=>401|233=>402|n=>n,fun|17=>3|18=>4|19=>5|n=>n⟩
theorem Tryz.laysM171:Go.Proofs.LaysM.n171 Tryz.prog Tryz.laysM171_ren:={
 mixed:=by kernel_rfl
 f129:=Tryz.func179.trans (congrArg some (by kernel_rfl))
 f171:=Tryz.func221.trans (congrArg some (by kernel_rfl))
 f243:=Tryz.func282.trans (congrArg some (by kernel_rfl))
 f246:=Tryz.func315.trans (congrArg some (by kernel_rfl))
 f283:=Tryz.func332.trans (congrArg some (by kernel_rfl))
 f284:=Tryz.func333.trans (congrArg some (by kernel_rfl))
 f285:=Tryz.func334.trans (congrArg some (by kernel_rfl))
 f286:=Tryz.func335.trans (congrArg some (by kernel_rfl))
 f317:=Tryz.func343.trans (congrArg some (by kernel_rfl))
 f318:=Tryz.func344.trans (congrArg some (by kernel_rfl))
 f319:=Tryz.func345.trans (congrArg some (by kernel_rfl))
 f320:=Tryz.func346.trans (congrArg some (by kernel_rfl))
 f337:=Tryz.func351.trans (congrArg some (by kernel_rfl))
 f338:=Tryz.func352.trans (congrArg some (by kernel_rfl))
 t0:=Tryz.underlying0
 a0:=Tryz.isAgg0
 z0:=Tryz.sizeOf0
 v0:=Tryz.zeroValue0
 t2:=Tryz.underlying2
 a2:=Tryz.isAgg2
 z2:=Tryz.sizeOf2
 v2:=Tryz.zeroValue2
 t3:=Tryz.underlying3
 a3:=Tryz.isAgg3
 z3:=Tryz.sizeOf3
 v3:=Tryz.zeroValue3
 t4:=Tryz.underlying4
 a4:=Tryz.isAgg4
 z4:=Tryz.sizeOf4
 v4:=Tryz.zeroValue4
 t5:=Tryz.underlying5
 a5:=Tryz.isAgg5
 z5:=Tryz.sizeOf5
 v5:=Tryz.zeroValue5
 t9:=Tryz.underlying9
 a9:=Tryz.isAgg9
 z9:=Tryz.sizeOf9
 v9:=Tryz.zeroValue9
 t20:=Tryz.underlying20
 a20:=Tryz.isAgg20
 z20:=Tryz.sizeOf20
 v20:=Tryz.zeroValue20
 t37:=Tryz.underlying96
 a37:=Tryz.isAgg96
 z37:=Tryz.sizeOf96
 v37:=Tryz.zeroValue96
 t46:=Tryz.underlying237
 a46:=Tryz.isAgg237
 z46:=Tryz.sizeOf237
 v46:=Tryz.zeroValue237
 t51:=Tryz.underlying280
 a51:=Tryz.isAgg280
 z51:=Tryz.sizeOf280
 v51:=Tryz.zeroValue280
 t53:=Tryz.underlying282
 a53:=Tryz.isAgg282
 z53:=Tryz.sizeOf282
 v53:=Tryz.zeroValue282
 t171:=Tryz.underlying384
 a171:=Tryz.isAgg384
 z171:=Tryz.sizeOf384
 v171:=Tryz.zeroValue384
 t173:=Tryz.underlying386
 a173:=Tryz.isAgg386
 z173:=Tryz.sizeOf386
 v173:=Tryz.zeroValue386
 t212:=Tryz.underlying397
 a212:=Tryz.isAgg397
 z212:=Tryz.sizeOf397
 v212:=Tryz.zeroValue397
 t213:=Tryz.underlying398
 a213:=Tryz.isAgg398
 z213:=Tryz.sizeOf398
 t232:=Tryz.underlying401
 a232:=Tryz.isAgg401
 z232:=Tryz.sizeOf401
 v232:=Tryz.zeroValue401
 t233:=Tryz.underlying402
 a233:=Tryz.isAgg402
 z233:=Tryz.sizeOf402
 v233:=Tryz.zeroValue402
 g17:=by kernel_rfl
 g18:=by kernel_rfl
 g19:=by kernel_rfl
 i0:=by kernel_rfl
 i2:=by kernel_rfl
 i3:=by kernel_rfl
 i4:=by kernel_rfl
 i5:=by kernel_rfl
 i9:=by kernel_rfl
 i20:=by kernel_rfl
 i37:=by kernel_rfl
 i46:=by kernel_rfl
 i51:=by kernel_rfl
 i53:=by kernel_rfl
 i171:=by kernel_rfl
 i173:=by kernel_rfl
 i212:=by kernel_rfl
 i232:=by kernel_rfl
 i233:=by kernel_rfl
 m17:=by kernel_rfl
 m18:=by kernel_rfl
 m19:=by kernel_rfl }
end Go.Proofs
namespace Go.Ir
open Go.Proofs Go.RowKit
variable(W0:World)
def BV(W0:World):Prop := Lib.TabIs Tryz.prog W0 "internal/strconv.uint64pow10" .u64 Lib.pow10Tab
theorem ZS{P:Program}{W0 w:World}{a:String}{k:IntKind}{zs:List Int}(d:Below W0.heap.size W0 w)(h:Lib.TabIs P W0 a k zs):Lib.TabIs P w a k zs:=by
 unfold Lib.TabIs World.var? at *;cases b:P.globalNamed a with
 | none=>rw[b] at h;cases h
 | some g=>
  rw[b] at h;simp only[Aw7] at h⊢;cases c:W0.heap[g]? with
  | none=>rw[c] at h;cases h
  | some o=>rw[d.block g (ApJ.1 c).1];exact h
theorem F8(d:BV W0)(i:Nat)(o:i<2^62):An Tryz.prog W0 221 [.i .i64 i] [] (.s (Lib.decDigits i)) []/\(Lib.decDigits i).length<=20:=by
 have b:(Lib.decDigits i).length<=20:=by rw[Lib.decDigits_length];exact Lib.nDigits_le20 _ (by omega)
 refine⟨AN (by kernel_rfl) λw vals f ⟨μ,H,c⟩=>?_,b⟩;have a:=c.len;obtain⟨x,rfl⟩:∃x,vals=[x]:=by
  match vals,a with
  | [x],_=>exact⟨x,rfl⟩
 have m:=c.at_ 0 _ _ rfl rfl;cases m;refine(Any.strconv_Itoa Tryz.laysM171 i (by omega) (by omega) w (ZS f d)).mono λe w' ⟨g,k,p,l⟩=>?_;subst l;refine⟨_,g,λ_ _=>?_,?_⟩
 ·rw[Lib.itoa_nonneg];exact .s _ (by unfold AA;omega)
 ·refine⟨rfl,rfl,rfl,by simp_all,λj h=>?_⟩;simp only[Sort.grow];rw[Axq (by simpa using h)];rfl
theorem aD(laid:List (String×DataW Unit))(hl:(laid.all fun x => x.2.handleName?.isNone)=true){a b:String×DataW Unit}{r:List (String×DataW Unit)}(he:laid=a :: b :: ("internal/strconv.uint64pow10", Lib.tabData .u64 Lib.pow10Tab) :: r)
  {g:Nat}{t e:TypeId}{n:Nat}(hg:(Tryz.prog).globalNamed "internal/strconv.uint64pow10" = some g)(hty:((Tryz.prog).globals[g]?).map (·.type)=some t)(ht:(Tryz.prog).underlying t=some (.array n e))(hu:(Tryz.prog).underlying e=some (.int .u64))(hce:(Tryz.prog).cellsOf e=1)(hct:(Tryz.prog).cellsOf t=n)
  {W:World}(h:laidMetH Tryz.prog laid W):BV W:=by
 rw[MakeChecks.laidMetH_plain _ _ _ hl] at h
 subst he
 have tl:∀{x:String×DataW Unit} {r:List (String×DataW Unit)},laidMet Tryz.prog (x::r) W->laidMet Tryz.prog r W:=by
  rintro⟨n,d⟩ r ⟨ps,hv,hnd,hrows⟩
  obtain⟨g,t,cs,fuel,p,q,_,_,_,_,hq,rfl⟩:=hv
  exact⟨q,hq,List.Nodup.sublist (Axv _ _) hnd,fun b off hm=>hrows b off (Awv _ hm)⟩
 exact Lib.tabIs_of_head hg hty ht hu hce hct (tl (tl h))
end Go.Ir

namespace Go.Ir
open Go.Proofs
variable(W0:World)
def TE(ps:List Aj):Bool:=Bz ps 1 false false&&decide (((Bu ps []).length:Int)<=20)&&decide (((E9 ps).length:Int)<=4000)
end Go.Ir
namespace Go.Proofs
open Go.Shelf
def Tryz.lays137_ren:Go.Shelf.Ren:=⟨fun|137=>252|217=>288|266=>319|n=>n,fun|9=>9|5=>5|3=>3|n=>n,fun|n=>n⟩
theorem Tryz.lays137:Go.Proofs.Lays.n137 Tryz.prog Tryz.lays137_ren:=by constructor;all_goals intros;kernel_rfl
def Tryz.lays156_ren:Go.Shelf.Ren:=⟨fun|156=>261|165=>257|166=>124|169=>45|240=>180|241=>298|276=>236|277=>324|n=>n,fun|31=>28|9=>9|3=>3|4=>4|0=>0|20=>20|72=>98|76=>240|70=>95|37=>96|75=>239|127=>158|164=>315|5=>5|80=>123|n=>n,fun|n=>n⟩
theorem Tryz.lays156:Go.Proofs.Lays.n156 Tryz.prog Tryz.lays156_ren:=by constructor;all_goals intros;kernel_rfl
end Go.Proofs
namespace Go.Ir
open Go.Proofs Go.RowKit
variable(W0:World)
theorem Qc{P:Program}{W0:World}{f:FuncId}{args:List V}{v:V}(g:callable P f=true)
  (h:∀w vals μ H,Below W0.heap.size W0 w->VRels μ H args vals->(∀a x,H a=some x->w.cell? a=some x)->Calls P f vals.toArray w λe w'=>∃val,e=.returned val/\(∀μ H,Ap μ H v val)/\Below w.heap.size w w'):An P W0 f args [] v [] where
 callable:=g
 dom id h:=h
 run n w μ H vals hp hv:=by refine(h w vals μ H hp.base hv hp.pins).mono λe w' ⟨val,i,j,d⟩=>?_;obtain⟨b,c⟩:=hp.below d;exact⟨val,μ,H,n,i,j μ H,b,Abm _,c,λ_ _ h=>h⟩
theorem Gu(b:List Aa):AF (b.map V.s)=b.map V.s:=by
 induction b with
 | nil=>rfl
 | cons a r c=>simp only[AF,Alh,AwJ] at *;rw[c];rfl
theorem SM(s:Aa)(c:Int):An Tryz.prog W0 252 [.s s,.i .u8 c] [] (.i .i64 (Lib.indexByte s c.toNat.toUInt8)) []:=by refine AN (by kernel_rfl) λw vals h ⟨μ,H,b⟩=>?_;obtain⟨x,y,rfl,f,g⟩:=b.two;obtain⟨rfl,j⟩:=BB f;cases g;refine(Any.strings_IndexByte Tryz.lays137 ⟨s.toArray⟩ c w).mono λe w' ⟨a,d⟩=>?_;subst d;exact⟨_,a,λ_ _=>.i _ _,Auw _ _⟩
theorem I9:Go.Proofs.Builder.Extra Tryz.prog Tryz.lays156_ren where
 sizeBuilder:=by kernel_rfl
 liesBuilder:=by kernel_rfl
 t5:=Tryz.underlying5
 a5:=Tryz.isAgg5
 z5:=Tryz.sizeOf5
 v5:=Tryz.zeroValue5
 infoByte:=by kernel_rfl
 cellsByte:=by kernel_rfl
 sizeByte:=by kernel_rfl
 neB5:=by decide
theorem qZ(m:List Aa)(sep:Aa)(U:(Lib.join m sep).length<=1073741824):An Tryz.prog W0 261 [.sl (m.map V.s),.s sep] [] (.s (Lib.join m sep)) []:=by
 refine Qc (by kernel_rfl) λw vals μ H Z X D=>?_;obtain⟨x,y,rfl,F,Y⟩:=X.two;obtain⟨rfl,hl⟩:=BB Y;obtain⟨A,a,rfl,r,B,T⟩:=F.sl_inv;have h:∀(μ:Id->Option Value) (H:Addr->Option Value),Ap μ H (.s (Lib.join m sep)) (.string ⟨(Lib.join m sep).toArray⟩):=λ_ _=>.s _ (by unfold AA;omega);rcases T with N|⟨G,sz,vs,rfl,W,f,hp⟩
 ·have I:m=[]:=by simpa using N
  subst I;refine(Any.strings_Join_none Tryz.lays156 I9 A a ⟨sep.toArray⟩ w).mono λe w' ⟨t,E⟩=>?_;subst E;exact⟨_,t,h,Auw _ _⟩
 ·rw[Gu] at f;cases m with
  | nil=>refine(Any.strings_Join_none Tryz.lays156 I9 _ a ⟨sep.toArray⟩ w).mono λe w' ⟨t,E⟩=>?_;subst E;exact⟨_,t,h,Auw _ _⟩
  | cons g i=>
   have d:∀(j:Nat) (l:Aa),(g::i)[j]?=some l->w.cell? (G.add j)=some (.string ⟨l.toArray⟩):=by intro j l U;obtain⟨v,M,O⟩:=f.toVRels.get (k:=j) (c:=.s l) (by grind);rw[(BB O).1] at M;exact D _ _ (hp j _ M)
   have p:=d 0 g rfl;have q:G.spot=none:=by
    simp only[Addr.add,if_true] at p;unfold World.cell? at p;split at p
    ·simp_all
    ·cases p
   obtain⟨L,o,sp⟩:=G;simp only at q;subst q;have J:L<w.heap.size:=Ax1 w _ p;have z:(g::i).length<=a:=by simpa using r
   have C:((g::i).map λl=>(⟨l.toArray⟩:ByteArray)).map (λb=>b.data.toList)=g::i:=by rw[Ax0];exact(AvV (λ_ _=>rfl)).trans (List.map_id _)
   have S:Lib.join (((g::i).map λl=>(⟨l.toArray⟩:ByteArray)).map λb=>b.data.toList) sep=Lib.join (g::i) sep:=by rw[C]
   have key:=Any.strings_Join Tryz.lays156 I9 L o a ((g::i).map λl=>(⟨l.toArray⟩:ByteArray)) ⟨sep.toArray⟩ w (λj x F=>?_) J
    (by unfold AK at B;grind) (by simpa using z) (by grind
)
   ·rw[show(⟨sep.toArray⟩:ByteArray).data.toList=sep from rfl,S] at key;simp only[Acr] at key⊢;exact key.mono λe w' ⟨t,E⟩=>⟨_,t,h,E⟩
   ·rw[Aru] at F;obtain⟨l,K,rfl⟩:=AdW.1 F;have:=d j l K;by_cases u:j=0
    ·subst u;exact this
    ·simpa[Addr.add,u] using this
def IY:List V->Option V
 | [.s s,.s p]=>some (.tup [.s (Lib.trimPrefix s p),.b (Lib.hasPrefix s p)])
 | _=>none
def P7:List V->Option V
 | [.s s,.s [c]]=>some (.i .i64 (Lib.indexByte s c))
 | _=>none
def I7:List V->Option V
 | [.s s,.i .u8 c]=>some (.i .i64 (Lib.indexByte s c.toNat.toUInt8))
 | _=>none
def Po(l:Aa):Bool:=Nat.blt l.length 100&&l.all λb=>Nat.blt b.toNat 128
def wO:List V->Option V
 | [.s s,.s cs]=>bif Po cs then some (.s (Lib.trimS s cs)) else none
 | _=>none
theorem cA{l:Aa}(h:Po l=true):l.length<4294967281/\∀b∈l,b.toNat<128:=by unfold Po at h;simp only[Aan,AxG,Alm] at h;exact⟨by omega,h.2⟩
theorem SC:AX Tryz.prog W0 (xR 135 IY):=Ph λargs v h=>by
 unfold IY at h;split at h
 ·cases h;exact⟨Eu W0 _ _,rfl⟩
 ·cases h
theorem nE:AX Tryz.prog W0 (xR 244 P7):=Ph λargs v h=>by
 unfold P7 at h;split at h
 ·cases h;exact⟨MI W0 _ _,rfl⟩
 ·cases h
theorem SS:AX Tryz.prog W0 (xR 252 I7):=Ph λargs v h=>by
 unfold I7 at h;split at h
 ·cases h;exact⟨SM W0 _ _,rfl⟩
 ·cases h
theorem AgC:AX Tryz.prog W0 (xR 190 wO):=Ph λargs v h=>by
 unfold wO at h;split at h
 ·rename_i s cs;cases a:Po cs with
  | true=>rw[a] at h;cases h;obtain⟨b,c⟩:=cA a;exact⟨TR W0 _ _ b c,rfl⟩
  | false=>rw[a] at h;cases h
 ·cases h
end Go.Ir
namespace Go.Proofs
open Go.Shelf
def Tryz.lays161_ren:Go.Shelf.Ren:=⟨fun|161=>259|231=>245|227=>247|233=>248|235=>250|228=>292|197=>272|151=>293|260=>309|152=>321|137=>252|119=>337|224=>290|225=>289|217=>288|266=>319|n=>n,fun|9=>9|4=>4|3=>3|5=>5|117=>323|116=>322|0=>0|124=>326|105=>344|21=>21|119=>380|46=>237|139=>383|138=>382|n=>n,fun|3=>1|4=>2|n=>n⟩
theorem Tryz.lays161:Go.Proofs.Lays.n161 Tryz.prog Tryz.lays161_ren:=by constructor;all_goals intros;kernel_rfl
def Tryz.lays138_ren:Go.Shelf.Ren:=⟨fun|138=>269|195=>306|218=>307|143=>271|219=>244|217=>288|225=>289|224=>290|267=>291|266=>319|314=>320|n=>n,fun|9=>9|3=>3|4=>4|5=>5|0=>0|46=>237|146=>358|51=>280|n=>n,fun|1=>0|n=>n⟩
theorem Tryz.lays138:Go.Proofs.Lays.n138 Tryz.prog Tryz.lays138_ren:=by constructor;all_goals intros;kernel_rfl
def Tryz.lays145_ren:Go.Shelf.Ren:=⟨fun|145=>136|220=>189|219=>244|217=>288|225=>289|224=>290|267=>291|266=>319|314=>320|n=>n,fun|9=>9|4=>4|59=>252|3=>3|5=>5|46=>237|146=>358|51=>280|n=>n,fun|1=>0|n=>n⟩
theorem Tryz.lays145:Go.Proofs.Lays.n145 Tryz.prog Tryz.lays145_ren:=by constructor;all_goals intros;kernel_rfl
def Tryz.lays154_ren:Go.Shelf.Ren:=⟨fun|154=>213|138=>269|165=>257|143=>271|166=>124|197=>272|169=>45|195=>306|218=>307|240=>180|241=>298|219=>244|260=>309|276=>236|277=>324|217=>288|225=>289|224=>290|267=>291|266=>319|314=>320|n=>n,fun|9=>9|3=>3|4=>4|72=>98|0=>0|76=>240|105=>344|21=>21|5=>5|70=>95|20=>20|37=>96|75=>239|127=>158|164=>315|46=>237|119=>380|139=>383|138=>382|146=>358|51=>280|80=>123|n=>n,fun|1=>0|3=>1|4=>2|n=>n⟩
theorem Tryz.lays154:Go.Proofs.Lays.n154 Tryz.prog Tryz.lays154_ren:=by constructor;all_goals intros;kernel_rfl
def Tryz.laysT17_ren:Go.Shelf.Ren:=⟨fun|17=>260|n=>n,fun|24=>28|9=>9|3=>3|4=>4|0=>0|n=>n,fun|n=>n⟩
theorem Tryz.laysT17:Go.Proofs.Lays2.n17 Tryz.prog Tryz.laysT17_ren:=by constructor;all_goals intros;kernel_rfl
def Tryz.keysA_ren:Go.Shelf.Ren:=⟨fun|7=>52|10=>84|n=>n,fun|23=>106|26=>9|3=>3|28=>134|0=>0|27=>133|33=>153|4=>4|n=>n,fun|n=>n⟩
theorem Tryz.keysA:Go.Proofs.SlLaysZ.n7 Tryz.prog Tryz.keysA_ren:={
 mixed:=by kernel_rfl
 f7:=⟨Tryz.f52.name,by decide,Tryz.func52.trans (congrArg some (by kernel_rfl))⟩
 f10:=⟨Tryz.f84.name,by decide,Tryz.func84.trans (congrArg some (by kernel_rfl))⟩
 t0:=Tryz.underlying0
 a0:=Tryz.isAgg0
 z0:=Tryz.sizeOf0
 v0:=Tryz.zeroValue0
 t4:=Tryz.underlying4
 a4:=Tryz.isAgg4
 z4:=Tryz.sizeOf4
 v4:=Tryz.zeroValue4
 t23:=Tryz.underlying106
 a23:=Tryz.isAgg106
 z23:=Tryz.sizeOf106
 v23:=Tryz.zeroValue106
 t26:=Tryz.underlying9
 a26:=Tryz.isAgg9
 z26:=Tryz.sizeOf9
 v26:=Tryz.zeroValue9
 t27:=Tryz.underlying133
 a27:=Tryz.isAgg133
 z27:=Tryz.sizeOf133
 v27:=Tryz.zeroValue133
 t28:=Tryz.underlying134
 a28:=Tryz.isAgg134
 z28:=Tryz.sizeOf134
 v28:=Tryz.zeroValue134
 t33:=Tryz.underlying153
 a33:=Tryz.isAgg153
 z33:=Tryz.sizeOf153
 v33:=Tryz.zeroValue153 }
def Tryz.sortedA_ren:Go.Shelf.Ren:=⟨fun|6=>51|8=>82|9=>83|11=>121|13=>123|12=>122|23=>178|24=>179|14=>169|15=>170|16=>171|17=>172|18=>173|19=>174|20=>175|21=>176|22=>177|25=>230|26=>231|27=>232|28=>233|29=>234|30=>235|31=>286|n=>n,fun|26=>9|28=>134|24=>28|0=>0|3=>3|37=>237|48=>280|50=>282|4=>4|40=>273|39=>272|45=>129|5=>5|9=>9|51=>309|55=>313|57=>354|58=>229|33=>153|n=>n,fun|n=>n⟩
theorem Tryz.sortedA:Go.Proofs.SlLaysZ.n6 Tryz.prog Tryz.sortedA_ren:={
 mixed:=by kernel_rfl
 f6:=⟨Tryz.f51.name,by decide,Tryz.func51.trans (congrArg some (by kernel_rfl))⟩
 f8:=⟨Tryz.f82.name,by decide,Tryz.func82.trans (congrArg some (by kernel_rfl))⟩
 f11:=⟨Tryz.f121.name,by decide,Tryz.func121.trans (congrArg some (by kernel_rfl))⟩
 t0:=Tryz.underlying0
 a0:=Tryz.isAgg0
 z0:=Tryz.sizeOf0
 v0:=Tryz.zeroValue0
 t24:=Tryz.underlying28
 a24:=Tryz.isAgg28
 z24:=Tryz.sizeOf28
 v24:=Tryz.zeroValue28
 t26:=Tryz.underlying9
 a26:=Tryz.isAgg9
 z26:=Tryz.sizeOf9
 v26:=Tryz.zeroValue9
 t28:=Tryz.underlying134
 a28:=Tryz.isAgg134
 z28:=Tryz.sizeOf134
 v28:=Tryz.zeroValue134
 i26:=by kernel_rfl }
def Tryz.sortA_ren:Go.Shelf.Ren:=⟨fun|6=>83|8=>123|9=>122|19=>178|20=>179|21=>169|22=>170|23=>171|24=>172|25=>173|26=>174|27=>175|28=>176|29=>177|36=>230|31=>231|32=>232|37=>233|38=>234|39=>235|41=>286|n=>n,fun|27=>28|29=>9|3=>3|32=>237|26=>28|0=>0|44=>280|46=>282|4=>4|36=>273|35=>272|41=>129|5=>5|9=>9|53=>309|57=>313|63=>354|64=>229|n=>n,fun|n=>n⟩
theorem Tryz.sortA:Go.Proofs.SlLaysM.n6 Tryz.prog Tryz.sortA_ren:={
 mixed:=by kernel_rfl
 f6:=⟨Tryz.f83.name,by decide,Tryz.func83.trans (congrArg some (by kernel_rfl))⟩
 f8:=Tryz.func123.trans (congrArg some (by kernel_rfl))
 f9:=⟨Tryz.f122.name,by decide,Tryz.func122.trans (congrArg some (by kernel_rfl))⟩
 f19:=Tryz.func178.trans (congrArg some (by kernel_rfl))
 f20:=Tryz.func179.trans (congrArg some (by kernel_rfl))
 f21:=⟨Tryz.f169.name,by decide,Tryz.func169.trans (congrArg some (by kernel_rfl))⟩
 f22:=⟨Tryz.f170.name,by decide,Tryz.func170.trans (congrArg some (by kernel_rfl))⟩
 f23:=⟨Tryz.f171.name,by decide,Tryz.func171.trans (congrArg some (by kernel_rfl))⟩
 f24:=⟨Tryz.f172.name,by decide,Tryz.func172.trans (congrArg some (by kernel_rfl))⟩
 f25:=⟨Tryz.f173.name,by decide,Tryz.func173.trans (congrArg some (by kernel_rfl))⟩
 f26:=⟨Tryz.f174.name,by decide,Tryz.func174.trans (congrArg some (by kernel_rfl))⟩
 f27:=⟨Tryz.f175.name,by decide,Tryz.func175.trans (congrArg some (by kernel_rfl))⟩
 f28:=⟨Tryz.f176.name,by decide,Tryz.func176.trans (congrArg some (by kernel_rfl))⟩
 f29:=⟨Tryz.f177.name,by decide,Tryz.func177.trans (congrArg some (by kernel_rfl))⟩
 f31:=Tryz.func231.trans (congrArg some (by kernel_rfl))
 f32:=Tryz.func232.trans (congrArg some (by kernel_rfl))
 f36:=⟨Tryz.f230.name,by decide,Tryz.func230.trans (congrArg some (by kernel_rfl))⟩
 f37:=⟨Tryz.f233.name,by decide,Tryz.func233.trans (congrArg some (by kernel_rfl))⟩
 f38:=⟨Tryz.f234.name,by decide,Tryz.func234.trans (congrArg some (by kernel_rfl))⟩
 f39:=⟨Tryz.f235.name,by decide,Tryz.func235.trans (congrArg some (by kernel_rfl))⟩
 f41:=⟨Tryz.f286.name,by decide,Tryz.func286.trans (congrArg some (by kernel_rfl))⟩
 t0:=Tryz.underlying0
 a0:=Tryz.isAgg0
 z0:=Tryz.sizeOf0
 v0:=Tryz.zeroValue0
 t3:=Tryz.underlying3
 a3:=Tryz.isAgg3
 z3:=Tryz.sizeOf3
 v3:=Tryz.zeroValue3
 t4:=Tryz.underlying4
 a4:=Tryz.isAgg4
 z4:=Tryz.sizeOf4
 v4:=Tryz.zeroValue4
 t5:=Tryz.underlying5
 a5:=Tryz.isAgg5
 z5:=Tryz.sizeOf5
 v5:=Tryz.zeroValue5
 t9:=Tryz.underlying9
 a9:=Tryz.isAgg9
 z9:=Tryz.sizeOf9
 v9:=Tryz.zeroValue9
 t26:=Tryz.underlying28
 a26:=Tryz.isAgg28
 z26:=Tryz.sizeOf28
 v26:=Tryz.zeroValue28
 t27:=Tryz.underlying28
 a27:=Tryz.isAgg28
 z27:=Tryz.sizeOf28
 v27:=Tryz.zeroValue28
 t29:=Tryz.underlying9
 a29:=Tryz.isAgg9
 z29:=Tryz.sizeOf9
 v29:=Tryz.zeroValue9
 t32:=Tryz.underlying237
 a32:=Tryz.isAgg237
 z32:=Tryz.sizeOf237
 v32:=Tryz.zeroValue237
 t35:=Tryz.underlying272
 a35:=Tryz.isAgg272
 z35:=Tryz.sizeOf272
 v35:=Tryz.zeroValue272
 t36:=Tryz.underlying273
 a36:=Tryz.isAgg273
 z36:=Tryz.sizeOf273
 v36:=Tryz.zeroValue273
 t41:=Tryz.underlying129
 a41:=Tryz.isAgg129
 z41:=Tryz.sizeOf129
 v41:=Tryz.zeroValue129
 t44:=Tryz.underlying280
 a44:=Tryz.isAgg280
 z44:=Tryz.sizeOf280
 v44:=Tryz.zeroValue280
 t46:=Tryz.underlying282
 a46:=Tryz.isAgg282
 z46:=Tryz.sizeOf282
 v46:=Tryz.zeroValue282
 t53:=Tryz.underlying309
 a53:=Tryz.isAgg309
 z53:=Tryz.sizeOf309
 v53:=Tryz.zeroValue309
 t57:=Tryz.underlying313
 a57:=Tryz.isAgg313
 z57:=Tryz.sizeOf313
 v57:=Tryz.zeroValue313
 t63:=Tryz.underlying354
 a63:=Tryz.isAgg354
 z63:=Tryz.sizeOf354
 v63:=Tryz.zeroValue354
 t64:=Tryz.underlying229
 a64:=Tryz.isAgg229
 z64:=Tryz.sizeOf229
 v64:=Tryz.zeroValue229 }
def Tryz.lays105_ren:Go.Shelf.Ren:=⟨fun|105=>200|212=>255|99=>256|165=>257|166=>124|170=>125|169=>45|263=>296|264=>297|206=>243|240=>180|241=>298|276=>236|277=>324|n=>n,fun|9=>9|3=>3|4=>4|20=>20|0=>0|46=>237|109=>328|5=>5|72=>98|76=>240|51=>280|146=>358|53=>282|148=>360|70=>95|37=>96|75=>239|127=>158|164=>315|80=>123|n=>n,fun|n=>n⟩
theorem Tryz.lays105:Go.Proofs.Lays.n105 Tryz.prog Tryz.lays105_ren:=by constructor;all_goals intros;kernel_rfl
end Go.Proofs
section
namespace Go.Ir
open Go.Proofs Go.RowKit
variable(W0:World)
def B8(W0:World):Prop:=∃m,W0.cell? ⟨Tryz.lays138_ren.g 1,0,none⟩=some (.int .i64 m)
theorem GR{W0 w:World}(h:B8 W0)(c:Below W0.heap.size W0 w):∃m,w.cell? ⟨Tryz.lays138_ren.g 1,0,none⟩=some (.int .i64 m):=by
 obtain⟨m,b⟩:=h;refine⟨m,?_⟩;rw[<-b];unfold World.cell? at b⊢;cases a:W0.heap[Tryz.lays138_ren.g 1]? with
 | none=>grind
 | some o=>simp only[c.block _ (ApJ.1 a).1,a]
theorem AcJ(s sep:Aa):(Lib.cut s sep).1.length<=s.length/\(Lib.cut s sep).2.1.length<=s.length:=by unfold Lib.cut;grind
theorem dS:Go.Proofs.Builder.Extra Tryz.prog Tryz.lays154_ren where
 sizeBuilder:=by kernel_rfl
 liesBuilder:=by kernel_rfl
 t5:=Tryz.underlying5
 a5:=Tryz.isAgg5
 z5:=Tryz.sizeOf5
 v5:=Tryz.zeroValue5
 infoByte:=by kernel_rfl
 cellsByte:=by kernel_rfl
 sizeByte:=by kernel_rfl
 neB5:=by decide
theorem o6:Go.Proofs.Builder.Extra Tryz.prog Tryz.lays105_ren where
 sizeBuilder:=by kernel_rfl
 liesBuilder:=by kernel_rfl
 t5:=Tryz.underlying5
 a5:=Tryz.isAgg5
 z5:=Tryz.sizeOf5
 v5:=Tryz.zeroValue5
 infoByte:=by kernel_rfl
 cellsByte:=by kernel_rfl
 sizeByte:=by kernel_rfl
 neB5:=by decide
theorem Oo(s:Aa)(k:Nat)(m:s.length*k<=2^30)(j:k<=2^30)(b:(Lib.repeatL s k).length<=AA):An Tryz.prog W0 200 [.s s,.i .i64 (k:Int)] [] (.s (Lib.repeatL s k)) []:=by refine AN (by kernel_rfl) λw vals h ⟨μ,H,c⟩=>?_;obtain⟨x,y,rfl,f,g⟩:=c.two;obtain⟨rfl,l⟩:=BB f;cases g;refine(Any.strings_Repeat Tryz.lays105 o6 ⟨s.toArray⟩ k w (by omega) (by simp[ByteArray.size];omega)).mono λe w' ⟨a,d⟩=>?_;exact⟨_,a,λ_ _=>.s _ b,d⟩
variable(hM:B8 W0)
include hM
theorem Acn(s sub:Aa)(o:s.length<=2^31)(a:1<=sub.length):An Tryz.prog W0 269 [.s s,.s sub] [] (.i .i64 (Lib.count s sub)) []:=by refine AN (by kernel_rfl) λw vals b ⟨μ,H,g⟩=>?_;obtain⟨x,y,rfl,j,k⟩:=g.two;obtain⟨rfl,l⟩:=BB j;obtain⟨rfl,d⟩:=BB k;obtain⟨m,f⟩:=GR hM b;refine(Any.strings_Count_any Tryz.lays138 ⟨s.toArray⟩ ⟨sub.toArray⟩ m w (by simp[ByteArray.size];omega) f (by simpa[ByteArray.size] using a)).mono λe w' ⟨c,h⟩=>?_;subst h;exact⟨_,c,λ_ _=>.i _ _,Auw _ _⟩
theorem UB(s sep:Aa)(t:s.length<=2^31):An Tryz.prog W0 136 [.s s,.s sep] [] (.tup [.s (Lib.cut s sep).1,.s (Lib.cut s sep).2.1,.b (Lib.cut s sep).2.2]) []:=by
 refine AN (by kernel_rfl) λw vals i ⟨μ,H,a⟩=>?_;obtain⟨x,y,rfl,q,r⟩:=a.two;obtain⟨rfl,f⟩:=BB q;obtain⟨rfl,l⟩:=BB r;obtain⟨m,o⟩:=GR hM i;refine(Any.strings_Cut Tryz.lays145 ⟨s.toArray⟩ ⟨sep.toArray⟩ m w (by simp[ByteArray.size];omega) o).mono λe w' ⟨j,n,p⟩=>?_;subst p;obtain⟨g,h⟩:=AcJ s sep;refine⟨_,j,λμ H=>Ap.tup [.s (Lib.cut s sep).1,.s (Lib.cut s sep).2.1,.b (Lib.cut s sep).2.2] [.string ⟨(Lib.cut s sep).1.toArray⟩,.string ⟨(Lib.cut s sep).2.1.toArray⟩,.bool (Lib.cut s sep).2.2] rfl λk c v d a=>?_,Below.drewN_ (Auw _ _) n⟩
 match k with
 | 0=>simp at d a;subst d a;exact .s _ (All g f)
 | 1=>simp at d a;subst d a;exact .s _ (All h f)
 | 2=>simp at d a;subst d a;exact .b _
 | k+3=>simp at d
theorem Nv(s a new:Aa)(n:Int)(B:s.length<=2^31)(h:1<=a.length)(A:s.length*new.length<=2^41)(q:(Lib.replace s a new n).length<=AA):An Tryz.prog W0 213 [.s s,.s a,.s new,.i .i64 n] [] (.s (Lib.replace s a new n)) []:=by
 refine AN (by kernel_rfl) λw vals j ⟨μ,H,f⟩=>?_;have d:=f.len;obtain⟨x,y,z,u,rfl⟩:∃x y z u,vals=[x,y,z,u]:=by
  match vals,d with
  | [x,y,z,u],_=>exact⟨x,y,z,u,rfl⟩
 obtain⟨rfl,v⟩:=BB (f.at_ 0 _ _ rfl rfl);obtain⟨rfl,l⟩:=BB (f.at_ 1 _ _ rfl rfl);obtain⟨rfl,o⟩:=BB (f.at_ 2 _ _ rfl rfl);have r:=f.at_ 3 _ _ rfl rfl;cases r;obtain⟨m,p⟩:=GR hM j;have b:=Lib.countB_le ⟨a.toArray⟩ (by simpa[ByteArray.size] using h) s.length ⟨s.toArray⟩ (by simp[ByteArray.size]);have c:(⟨s.toArray⟩:ByteArray).size=s.length:=by simp[ByteArray.size]
 have g:(⟨new.toArray⟩:ByteArray).size=new.length:=by simp[ByteArray.size]
 refine(Any.strings_Replace Tryz.lays154 dS ⟨s.toArray⟩ ⟨a.toArray⟩ ⟨new.toArray⟩ n m w (by rw[c];omega) p (by simpa[ByteArray.size] using h) ?_).mono λe w' ⟨k,t⟩=>?_
 ·rw[c,g];rw[c] at b;have:Lib.countB ⟨s.toArray⟩ ⟨a.toArray⟩*new.length<=s.length*new.length:=Awy _ b;omega
 ·exact⟨_,k,λ_ _=>.s _ q,t⟩
omit hM
theorem Fp(s cs:Aa):(Lib.trimLeftS s cs).length<=s.length:=(Aw9 _).length_le
theorem Qm(s cs:Aa)(a:cs.length<4294967281)(c:∀b∈cs,b.toNat<128):An Tryz.prog W0 259 [.s s,.s cs] [] (.s (Lib.trimLeftS s cs)) []:=by refine AN (by kernel_rfl) λw vals m ⟨μ,H,h⟩=>?_;obtain⟨x,y,rfl,k,l⟩:=h.two;obtain⟨rfl,g⟩:=BB k;obtain⟨rfl,_⟩:=BB l;refine(Any.strings_TrimLeft_laid Tryz.lays161 (by kernel_rfl) ⟨s.toArray⟩ ⟨cs.toArray⟩ w (by simpa[ByteArray.size] using a) (λj b f=>c b (Aln f))).mono λe w' ⟨d,i⟩=>?_;exact⟨_,d,λ_ _=>.s _ (All (Fp s cs) g),i⟩
theorem QH{μ:Id->Option Value}{H:Addr->Option Value}{a:List Aa}{vals:List Value}(h:AI μ H (AF (a.map V.s)) vals):vals=a.map encStr:=by
 rw[Gu] at h;apply Avb;intro k;rw[Aru];cases e:a[k]? with
 | none=>
  have:vals.length=a.length:=by have:=h.len;simpa using this.symm
  grind
 | some l=>obtain⟨v,b,d⟩:=h.toVRels.get (k:=k) (c:=.s l) (by grind);rw[b,(BB d).1];rfl
theorem MG{μ:Id->Option Value}{H:Addr->Option Value}{b:List Aa}(f:∀l∈b,l.length<=AA):AI μ H (AF (b.map V.s)) (b.map encStr):=by
 rw[Gu];refine⟨⟨by simp,λk c v d a=>?_⟩,λv a=>?_⟩
 ·rw[Aru] at d a;obtain⟨x,e,rfl⟩:=AdW.1 d;rw[e] at a;cases a;exact .s _ (f x (Aln e))
 ·obtain⟨x,_,rfl⟩:=Alx.1 a;rfl
theorem KJ{w:World}{g:Nat}{a:Array Value}{e:TypeId}{b:List Aa}(d:w.heap[g]?=some (.cells a e (0,0)))(i:a.toList.take b.length=b.map encStr):Sort.Holds encStr w g 0 b.toArray:=by
 intro j h;have c:j<b.length:=by simpa using h
 have f:a[j]?=some (encStr b[j]):=by
  have:(a.toList.take b.length)[j]?=some (encStr b[j]):=by rw[i];simp[c]
  grind
 refine⟨?_,?_⟩
 ·simp[World.cell?,d,f,c]
 ·simp[World.frozen?,d]
theorem J1{P:Program}{W0:World}{f:FuncId}{e:TypeId}{m a:List Aa}(id:Id)(O:callable P f=true)(W:m≠[])(b:a.length=m.length)(y:∀l∈a,l∈m)
  (h:∀(w:World) BH cap,Sort.Holds encStr w BH 0 m.toArray->BH<w.heap.size->Calls P f #[.slice (some ⟨BH,0,none⟩) m.length cap] w λe w'=>e=.returned (.tuple #[])/\∃n A,w'=Sort.grow (Sort.putRow encStr (Sort.ahead w n) BH 0 a.toArray) A) :
  An P W0 f [.arr id] [(id,.arr e 1 (m.map V.s))] (.tup []) [(id,.arr e 1 (a.map V.s))] where
 callable:=O
 dom:=λi S=>by simp only[lk] at S⊢;grind
 run:=by
  intro n w μ H vals hp L;obtain⟨x,rfl⟩:∃x,vals=[x]:=by
   match vals,L.len with
   | [x],_=>exact⟨x,rfl⟩
  have z:=(L.at_ 0 _ _ rfl rfl).arr_inv.1;have u:lk [(id,Ax.arr e 1 (m.map V.s))] id=some (.arr e 1 (m.map V.s)):=by simp[lk]
  obtain⟨v,vs,J,Z,B,M,h5,C⟩:=hp.ents _ _ u;rw[z] at J;cases J;have I:=QH C;subst I;obtain⟨T,B⟩:=B;rcases B with⟨_,h0⟩|⟨g,cap,cur,rfl,hB,hg,hncap,hcap,hcur,htake⟩
  ·grind
  simp only[Acr,Nat.mul_one] at htake T hcur hncap⊢;have p:g<w.heap.size:=(ApJ.1 hg).1;have G:∀l∈m,l.length<=AA:=by intro l F;obtain⟨k,K⟩:=AsY.1 F;rw[Gu] at C;obtain⟨v,_,N⟩:=C.toVRels.get (k:=k) (c:=.s l) (by grind);exact(BB N).2
  refine(h w g cap (KJ hg htake) p).mono ?_;rintro Y w' ⟨rfl,k,A,rfl⟩;have r:∀j,j<w.heap.size->(Sort.grow (Sort.putRow encStr (Sort.ahead w k) g 0 a.toArray) A).heap[j]?=if j=g then some (.cells (Sort.putCells encStr 0 a.toArray cur) e (0,0)) else w.heap[j]?:=by
   intro j t;simp only[Sort.grow,Sort.putRow,Sort.mapBlock,Sort.ahead];rw[Axq (by simpa using t),Array.getElem?_modify];by_cases E:g=j
   ·subst E;simp[hg,Sort.onCells]
   grind
  have o:AL (λq=>BH (μ id)=some q) w (Sort.grow (Sort.putRow encStr (Sort.ahead w k) g 0 a.toArray) A):=by refine⟨rfl,rfl,rfl,by grind,λj t U=>?_⟩;rw[r j t,if_neg];rintro rfl;exact U (by rw[z];rfl)
  have d:=hp.set_ (e:=.arr e 1 (a.map V.s)) u o ⟨_,a.map encStr,z,rfl,⟨by simp,.inr ⟨g,cap,Sort.putCells encStr 0 a.toArray cur,by simp[b],hB,by rw[r g p,if_pos rfl],by simp[b];exact hncap,hcap,by simp[Sort.putCells,hcur],?_⟩⟩,by simpa[b] using M,λx z=>by grind,MG λl F=>G l (y l F)⟩
  ·have X:upd [(id,Ax.arr e 1 (m.map V.s))] id (.arr e 1 (a.map V.s))=[(id,.arr e 1 (a.map V.s))]:=by simp[upd]
   rw[X] at d;exact⟨_,μ,H,n,rfl,.tup [] [] rfl (λk c v K=>by simp at K),d.1,Abm _,d.2,λ_ _ h=>h⟩
  ·apply Avb;intro j;simp only[Acr,Nat.mul_one,Aws,Aru];split
   ·rename_i t;have D:j<cur.size:=by omega
    simp[Sort.putCells,D,t]
   grind
theorem YH(a:List Aa)(id:Id)(c:a≠[])(d:a.length<=2^40):An Tryz.prog W0 260 [.arr id] [(id,.arr 9 1 (a.map V.s))] (.tup []) [(id,.arr 9 1 (a.reverse.map V.s))]:=by refine J1 id (by kernel_rfl) c (by simp) (λl d=>by simpa using d) λw BH b f g=>?_;refine(Any.slices_Reverse_string Tryz.laysT17 BH 0 b a w f (by omega)).mono ?_;rintro e w' ⟨rfl,n,rfl⟩;exact⟨rfl,n,#[],by simp⟩
end Go.Ir
end
section
set_option maxRecDepth 100000
namespace Go.Ir
open Go.Proofs Go.RowKit
theorem bV{W:World}(h:W.ShapedOpen Tryz.prog):B8 W:=by
 obtain⟨cs,j,l,k⟩:=h.1 (Tryz.lays138_ren.g 1) #[.int .i64 0] 3 (of_decide_eq_true (by kernel_rfl)) (by kernel_rfl);obtain⟨o,d,_,c⟩:=k (by kernel_rfl);have i:Tryz.prog.cellTypes Tryz.prog.depth 3=some [3]:=by kernel_rfl
 rw[i] at d;cases d;have f:0<cs.size:=by rw[l];decide
 obtain⟨u,e,a⟩:=c 0 cs[0] (by simp[f]);have:u=3:=by simpa using e.symm
 subst this;have b:W.cell? ⟨Tryz.lays138_ren.g 1,0,none⟩=some cs[0]:=by simp[World.cell?,j,f]
 unfold B8;rw[b];unfold Cell.ok at a;rw[Tryz.underlying3] at a;cases m:cs[0]<;>rw[m] at a<;>first|(simp at a;done)|skip
 grind
end Go.Ir
end
namespace Go.Proofs
open Go.Shelf
def Tryz.laysT16_ren:Go.Shelf.Ren:=⟨fun|16=>66|n=>n,fun|24=>28|9=>9|4=>4|n=>n,fun|n=>n⟩
theorem Tryz.laysT16:Go.Proofs.Lays2.n16 Tryz.prog Tryz.laysT16_ren:=by constructor;all_goals intros;kernel_rfl
def Tryz.lays194_ren:Go.Shelf.Ren:=⟨fun|194=>331|n=>n,fun|31=>28|9=>9|3=>3|4=>4|0=>0|n=>n,fun|n=>n⟩
theorem Tryz.lays194:Go.Proofs.Lays.n194 Tryz.prog Tryz.lays194_ren:=by constructor;all_goals intros;kernel_rfl
end Go.Proofs
namespace Go.Ir
open Go.Proofs Go.RowKit
variable(W0:World)
theorem AbL(a:List Aa)(id:Id)(c:a≠[])(d:a.length<=2^40):An Tryz.prog W0 83 [.arr id] [(id,.arr 9 1 (a.map V.s))] (.tup []) [(id,.arr 9 1 ((a.mergeSort λx y=>decide (x<=y)).map V.s))]:=by refine J1 id (by kernel_rfl) c (Axl ..) (λl d=>by simpa using d) λw BH b e f=>?_;exact AnyM.slices_Sort_string Tryz.sortA BH 0 b a w e f (by omega)
theorem rJ{W0:World}{n:Nat}{μ:Id->Option Value}{H:Addr->Option Value}{w:World}{id:Id}{e:TypeId}{d:List Aa}(hp:Hp W0 [(id,.arr e 1 (d.map V.s))] n μ H w)(t:d≠[]){x:Value}(u:μ id=some x) :
  ∃g a b,x=.slice (some ⟨g,0,none⟩) d.length a/\W0.heap.size<=g/\w.heap[g]?=some (.cells b e (0,0))/\d.length<=a/\a<=maxLen/\b.size=a/\b.toList.take d.length=d.map encStr/\d.length<=AK/\∀l∈d,l.length<=AA:=by
 have i:lk [(id,Ax.arr e 1 (d.map V.s))] id=some (.arr e 1 (d.map V.s)):=by simp[lk]
 obtain⟨v,vs,m,y,f,o,z,h⟩:=hp.ents _ _ i;rw[u] at m;cases m;have j:=QH h;subst j;obtain⟨q,f⟩:=f;rcases f with⟨_,h0⟩|⟨g,a,b,rfl,hB,hg,hncap,hcap,hcur,htake⟩
 ·grind
 simp only[Acr,Nat.mul_one] at htake q hcur hncap o⊢;refine⟨g,a,b,rfl,hB,hg,hncap,hcap,hcur,htake,o,λl r=>?_⟩;obtain⟨k,A⟩:=AsY.1 r;rw[Gu] at h;obtain⟨v,_,p⟩:=h.toVRels.get (k:=k) (c:=.s l) (by grind);exact(BB p).2
theorem xK{W0:World}{σ:Al}{n:Nat}{μ:Id->Option Value}{H:Addr->Option Value}{w:World}(hp:Hp W0 σ n μ H w){id:Id}(h:μ id=none):lk σ id=none:=by
 cases a:lk σ id with
 | none=>rfl
 | some e=>exact absurd (hp.ents _ _ a).named (by grind)
theorem tO(b:List Aa)(id:Id)(A:b≠[])(N:b.length<=2^30):Jh Tryz.prog W0 66 [.arr id] [(id,.arr 9 1 (b.map V.s))] (.arr 9 1 (b.map V.s)) [(id,.arr 9 1 (b.map V.s))] where
 callable:=by kernel_rfl
 dom:=λ_ h=>h
 run:=by
  intro n w μ H vals hp F;obtain⟨x,rfl⟩:∃x,vals=[x]:=by
   match vals,F.len with
   | [x],_=>exact⟨x,rfl⟩
  have K:=(F.at_ 0 _ _ rfl rfl).arr_inv.1;obtain⟨g,o,q,rfl,hB,E,z,C,D,p,_,B⟩:=rJ hp A K;have key:=Any.slices_Clone_string Tryz.laysT16 g 0 b.length o (b.map λl=>(⟨l.toArray⟩:ByteArray)) w (by simp) (by omega) (λj I=>by
   have u:j<b.length:=by simpa using I
   have:=(KJ E p j (by simpa using u)).1;grind
)
  refine key.mono ?_;rintro e w' ⟨v,rfl,d,_,f⟩;have r:List.map Value.string ((b.map λl=>(⟨l.toArray⟩:ByteArray)).take b.length)=b.map encStr:=by rw[Axi (by simp),Ax0];simp_all
  rw[r] at d;have a:μ (n,0)=none:=hp.bd _ (Abm _);have c:=d.2;have m:v.oneCell'=true:=by rcases c with⟨rfl,_⟩|⟨g,o,q,rfl,_⟩<;>rfl
  have i:=(hp.more (AmL n)).new_ (n':=n+1) (R:=λ_=>False) (w':=w') ⟨f.os,f.tape,f.output,f.size,λk J _=>f.block k J⟩ (λ_ h=>h.elim) (σ1:=[(id,.arr 9 1 (b.map V.s))]) (λid e h=>⟨h,λ_ _ h=>h⟩) (id:=(n,0)) (e:=.arr 9 1 (b.map V.s)) (val:=v) a (Ab3 _) (Abm _) (λM f=>by
    right;rcases c with⟨rfl,_⟩|⟨g,o,q,rfl,E,_⟩
    ·simp[BH] at f
    ·simp[BH] at f;omega)
   ⟨v,b.map encStr,Aq _ _ _,m,by rw[Acr];exact ownsRow_base_a d hp.base.size,by grind,by intro y L;obtain⟨x,_,rfl⟩:=Alx.1 L;rfl,MG B⟩
  refine⟨v,_,H,n+1,(n,0),rfl,Aq _ _ _,m,a,xK hp a,i.1,AmL _,i.2,λid t G=>?_⟩;rw[B0 _ _ (by rintro rfl;simp at t)];exact G
theorem KU{a:List Aa}{l:Aa}(h:l∈Lib.compact a):l∈a:=by unfold Lib.compact Lib.compactUpTo at h;grind
theorem Ln(a:List Aa):(Lib.compact a).length<=a.length:=by unfold Lib.compact Lib.compactUpTo;grind
theorem Nx(a:List Aa)(id:Id)(F:a≠[])(hl:a.length<=2^30):Ex Tryz.prog W0 331 [.arr id] [(id,.arr 9 1 (a.map V.s))] (λn n' v σ'=>∃b:Id,n<=b.1/\b.1<n'/\v=.arr b/\σ'=[(b,.arr 9 1 ((Lib.compact a).map V.s))]) where
 callable:=by kernel_rfl
 run:=by
  intro n w μ H vals hp M;obtain⟨x,rfl⟩:∃x,vals=[x]:=by
   match vals,M.len with
   | [x],_=>exact⟨x,rfl⟩
  have I:=(M.at_ 0 _ _ rfl rfl).arr_inv.1;obtain⟨g,d,f,rfl,hB,z,m,r,t,p,_,G⟩:=rJ hp F I;have S:=Ln a;have U:g<w.heap.size:=(ApJ.1 z).1;refine(Any.slices_Compact_string Tryz.lays194 g 0 d a w (KJ z p) (by omega) m).mono ?_;rintro en w' ⟨rfl,q,rfl⟩;generalize J:Lib.compact a++List.replicate (a.length-(Lib.compact a).length) []=T;have O:T.length=a.length:=by rw[<-J];simp;omega
  have u:∀j,(Sort.putRow encStr (Sort.ahead w q) g 0 T.toArray).heap[j]?=if j=g then some (.cells (Sort.putCells encStr 0 T.toArray f) 9 (0,0)) else w.heap[j]?:=by
   intro j;simp only[Sort.putRow,Sort.mapBlock,Sort.ahead];rw[Array.getElem?_modify];by_cases i:g=j
   ·subst i;simp[z,Sort.onCells]
   ·rw[if_neg i,if_neg (AhZ i)]
  have o:μ (n,0)=none:=hp.bd _ (Abm _);have E:lk [(id,Ax.arr 9 1 (a.map V.s))] id=some (.arr 9 1 (a.map V.s)):=by simp[lk]
  have c:=(hp.more (AmL n)).new_ (n':=n+1) (σ1:=[]) (w':=Sort.putRow encStr (Sort.ahead w q) g 0 T.toArray) (R:=λk=>BH (μ id)=some k) ⟨rfl,rfl,rfl,by simp[Sort.putRow,Sort.mapBlock,Sort.ahead],λk L X=>by rw[u,if_neg];rintro rfl;exact X (by rw[I];rfl)⟩ (λk L=>⟨id,_,E,L⟩) (λZ e' h=>by simp[lk] at h) o (id:=(n,0)) (e:=.arr 9 1 ((Lib.compact a).map V.s)) (val:=.slice (some ⟨g,0,none⟩) (Lib.compact a).length d) (Ab3 _) (Abm _) (λbk K=>by
    simp only[BH,AkA] at K;subst K;left;rw[I];rfl)
   ⟨_,(Lib.compact a).map encStr,Aq _ _ _,rfl,⟨by simp,.inr ⟨g,d,Sort.putCells encStr 0 T.toArray f,by simp,hB,by rw[u,if_pos rfl],by simp;omega,r,by simp[Sort.putCells,t],by
    apply Avb;intro j;simp only[Acr,Nat.mul_one,Aws,Aru];split
    ·rename_i B;have D:j<f.size:=by omega
     have C:j<T.length:=by omega
     have:T[j]=(Lib.compact a)[j]:=by simp only[<-J];rw[List.getElem_append_left B]
     simp[Sort.putCells,D,C,this,B]
    ·rename_i B;rw[Ax6 (by omega)];rfl⟩⟩,by simp;unfold AK;omega,by intro y Y;obtain⟨x,_,rfl⟩:=Alx.1 Y;rfl,MG λl W=>G l (KU W)⟩
  refine⟨_,_,H,n+1,_,_,rfl,⟨(n,0),Abm _,Ab3 _,rfl,rfl⟩,.arr _ _ (Aq _ _ _) rfl,c.1,AmL _,c.2,λid A N=>?_⟩;rw[B0 _ _ (by rintro rfl;simp at A)];exact N
end Go.Ir

namespace Go.Ir
open Go.Proofs
variable{P:Program}{W0:World}{nt n:Nat}{Q:Exit→St→Prop}{env:AE}{σ:Al}
def lW:IC:=sQ (oS [m1 5 1] [2,5] (.block 0 (oS [bZ 7 .eql 5 7,m1 6 7] [2,5,6] (cD 6 (oR [fA 8 2 3,l1 9 8,m1 4 9] [4]) (oS [bZ 11 .eql 5 8,m1 10 11] [2,10] (cD 10 (oR [fA 12 2 4,l1 13 12,m1 4 13] [4]) .skip)))))) (oR [mC 4 .nil] [4])
def uF:IC:=oS [bX 2 0,mC 4 .nil] [1,2] lW
@[push_cast]def Ape:List R:=[.t 4]
@[push_cast]def Auc:=Ar lW.eq_1<|AM uF.eq_1
theorem AiX:Au Tryz.prog 153 14 uF Ape=true:=by kernel_rfl
def lN:IC:=sQ (oS [m1 5 0,bZ 6 .eql 5 9] [3,6] (cD 6 (oR [lA 7 3 5,q1 8 40 7,m1 9 8,Ft 10 9 3 1,EQ 11 9 10,Fz 12 9 .eql 11 1,pA 13 9 12,m1 4 13] [4]) .skip)) (oR [lA 14 3 5,q1 15 40 14,m1 16 15,Ft 17 16 3 1,EQ 18 16 17,Fz 19 16 .eql 18 2,pA 20 16 19,m1 4 20] [4])
def gN:IC:=oS [bX 3 1,mC 4 (.b false)] [0,3] lN
@[push_cast]def Aoj:List R:=[.t 4]
@[push_cast]def Avj:=Ar lN.eq_1<|AM gN.eq_1
theorem AhB:Au Tryz.prog 154 21 gN Aoj=true:=by kernel_rfl
def V3:IC:=oR [fA 23 5 2,l1 24 23,o1 25 (.bin .add (.c (.s [61])) (.t 24)),m1 26 7,o1 27 (.msl false 9 1 [.t 25,.t 26,.c (.s [111,116,104,101,114])]),m1 6 27] [6]
def tD:IC:=sQ (.ops [lA 15 3 16,m1 16 1,q2 17 153 15 16,fA 18 5 2,l1 19 18,q2 20 210 17 19,m1 14 20,xT 21 14 0,xT 22 14 1,m1 7 21,m1 8 22] [5,7] [[0,2],[1,2],[3,4],[2,5],[4,5],[5,6],[6,7],[6,8],[7,9],[8,10]]) V3
def tK:IC:=sQ (oS [m1 9 1,bZ 10 .eql 9 9] [1,3,5,10] (cD 10 (oR [fA 11 5 2,l1 12 11,o1 13 (.msl false 9 1 [.t 12,.c (.s [111,116,104,101,114])]),m1 6 13] [6]) .skip)) tD
def wF:IC:=oS [bX 3 0,bX 5 2,mC 6 .nil] [1,3,5] tK
@[push_cast]def AoM:List R:=[.t 6]
@[push_cast]def Aus:=Ar V3.eq_1<|Ar tD.eq_1<|Ar tK.eq_1<|AM wF.eq_1
theorem Akm:Au Tryz.prog 209 28 wF AoM=true:=by kernel_rfl
def Yh:IC:=oS [m1 21 2,m1 22 10,q2 23 120 21 22,m1 11 23] [2,11,15,16,17] (oS [m1 24 11,bZ 25 .geq 24 0] [2,11,15,16,17,25] (cD 25 (oR [m1 26 11,m1 8 26] [8]) .skip))
def o3:IC:=oS [bT 18 .lss 17 16] [2,15,16,17,18] (sQ (cD 18 .skip (.exit 0)) (sQ (.block 1 (oS [iA 19 15 17 9 1,l1 20 19,m1 10 20] [2,10,15,16,17] Yh)) (oP [bZ 27 .add 17 1,m1 17 27] [2,15,16,17])))
def uC:IC:=oS [bX 4 0,bX 7 3,mZ 8 0] [1,2,4,7] (sQ (oS [lA 12 4 16,m1 13 1,lA 14 7 5,q3 15 209 12 13 14,nL 16 15,mZ 17 0] [2,15,16,17] (.block 0 (.loop o3))) (oR [mZ 8 (-1)] [8]))
@[push_cast]def Alz:List R:=[.t 8]
@[push_cast]def Avl:=Ar Yh.eq_1<|Ar o3.eq_1<|AM uC.eq_1
theorem AhD:Au Tryz.prog 155 28 uC Alz=true:=by kernel_rfl
def Wu:IC:=oS [m1 34 9,nT 35 34,m1 33 35] [3,4,8,33] (cD 33 (oR [mZ 6 0,mZ 7 12] [6,7]) (oS [fA 37 4 0,l1 38 37,lA 39 8 5,q2 40 154 38 39,nT 41 40,m1 36 41] [3,4,8,36] (cD 36 (oR [mZ 6 0,mZ 7 11] [6,7]) .skip)))
def WA:IC:=sQ (.block 2 (oS [iA 47 43 45 118 2,lA 48 47 2,o1 12 (.alloc (.agg [.s [],.nil])),sT 12 48 2] [3,4,8,10,12,43,44,45] (oP [m1 49 10,fA 50 12 0,l1 51 50,o1 52 (.msl false 9 1 [.t 51]),o1 53 (.app (.t 49) (.t 52) 9 1),m1 10 53] [3,4,8,10,43,44,45]))) (oP [bZ 54 .add 45 1,m1 45 54] [3,4,8,10,43,44,45])
def W3:IC:=sQ (oS [fA 42 4 4,l1 43 42,nL 44 43,mZ 45 0] [3,4,8,10,43,44,45] (.block 1 (.loop (oS [bT 46 .lss 45 44] [3,4,8,10,43,44,45,46] (sQ (cD 46 .skip (.exit 1)) WA))))) (sQ (.wk (oP [lA 55 3 16,fA 56 4 0,l1 57 56,m1 58 10,lA 59 8 5,o1 60 (.call 155 [.t 55,.t 57,.t 58,.t 59]),m1 13 60] [13])) (sQ (oS [m1 61 13,bZ 62 .lss 61 0] [13,62] (cD 62 (oR [mZ 6 0,mZ 7 13] [6,7]) .skip)) (oR [m1 63 13,m1 6 63,mZ 7 0] [6,7])))
def dV:IC:=sQ (.block 0 (oS [fA 22 4 0,l1 23 22,q1 24 79 23,nT 25 24,m1 21 25] [3,4,8,9,21] (cD 21 (oR [mZ 6 0,mZ 7 1] [6,7]) (oS [lA 27 3 16,fA 28 4 0,l1 29 28,q2 30 153 27 29,q1 31 152 30,nT 32 31,m1 26 32] [3,4,8,9,26] (cD 26 (oR [mZ 6 0,mZ 7 18] [6,7]) Wu))))) (oS [mC 10 .nil] [3,4,8,10] W3)
def dU:IC:=oS [m1 15 2,fA 16 4 2,l1 17 16,q2 18 39 15 17,m1 14 18,xT 19 14 0,xT 20 14 1,o1 8 (.alloc (.agg [.s [],.i .i64 0,.s [],.i .i64 0,.nil])),sT 8 19 5,m1 9 20] [3,4,8,9] dV
def tV:IC:=oS [bX 3 0,bX 4 1,mZ 6 0,mZ 7 0] [2,3,4] dU
@[push_cast]def Anv:List R:=[.t 6,.t 7]
@[push_cast]def Aup:=Ar Wu.eq_1<|Ar WA.eq_1<|Ar W3.eq_1<|Ar dV.eq_1<|Ar dU.eq_1<|AM tV.eq_1
theorem oD:Au Tryz.prog 107 64 tV Anv=true:=by kernel_rfl
def Vx:IC:=oS [m1 45 7,m1 46 8,m1 47 6,o1 48 (.slS (.t 46) (some (.t 47)) none),o1 49 (.msl false 9 1 [.t 48]),o1 50 (.app (.t 45) (.t 49) 9 1),m1 7 50] [2,5,6,7,8] (oP [m1 51 8,m1 52 6,o1 53 (.slS (.t 51) none (some (.t 52))),m1 8 53] [2,5,7,8])
def P9:IC:=sQ (oS [m1 38 8,bC 39 .neq 38 (.s [])] [2,5,7,8,39] (cD 39 .skip (.exit 0))) (.block 1 (oS [m1 40 8,nS 41 40,m1 42 5,bT 43 .sub 41 42,o1 44 (.mx false (ci 0) [.t 43]),m1 6 44] [2,5,6,7,8] Vx))
def Wj:IC:=sQ (oS [m1 35 1,m1 36 6,o1 37 (.slS (.t 35) none (some (.t 36))),m1 8 37] [2,5,7,8] (.block 0 (.loop P9))) (oS [m1 54 7,o1 55 (.calls 260 [.t 54])] [2,7] (sQ (.wk (oP [m1 56 7,fA 57 2 1,l1 58 57,q2 59 261 56 58,m1 4 59] [4])) .ret))
def V7:IC:=oS [m1 26 1,nS 27 26,fA 28 2 4,l1 29 28,bT 30 .sub 27 29,m1 6 30] [1,2,5,6] (oS [m1 31 1,m1 32 6,o1 33 (.slS (.t 31) (some (.t 32)) none),o1 34 (.msl true 9 1 [.t 33]),m1 7 34] [1,2,5,6,7] Wj)
def dE:IC:=oS [fA 20 2 5,l1 21 20,m1 5 21] [1,2,5] (sQ (oS [m1 22 5,bZ 23 .lss 22 1] [1,2,5,23] (cD 23 (oP [fA 24 2 4,l1 25 24,m1 5 25] [1,2,5]) .skip)) V7)
def cL:IC:=sQ (oS [fA 9 2 4,l1 10 9,bZ 11 .lss 10 1,m1 12 11,BI 13 12 1,gF 14 12 (.lenS (.t 13)),ER 15 12 2 4,E8 16 12 15,gF 17 12 (.bin .leq (.t 14) (.t 16)),pO 18 12 17] [1,2,18] (cD 18 (oR [m1 19 1,m1 4 19] [4]) .skip)) dE
def qX:IC:=oS [bX 2 0,mC 4 (.s [])] [1,2] cL
@[push_cast]def ApS:List R:=[.t 4]
@[push_cast]def AuC:=Ar Vx.eq_1<|Ar P9.eq_1<|Ar Wj.eq_1<|Ar V7.eq_1<|Ar dE.eq_1<|Ar cL.eq_1<|AM qX.eq_1
theorem Tw:Au Tryz.prog 204 60 qX ApS=true:=by kernel_rfl
def sO:IC:=oS [lA 22 2 6,m1 23 7,q2 24 204 22 23,m1 10 24] [2,6,8,9,10] (sQ (oS [m1 25 9] [2,6,8,10,25] (cD 25 (oP [m1 26 10,fA 27 2 0,l1 28 27,m1 29 8,bT 30 .add 28 29,bT 31 .add 26 30,m1 10 31] [2,6,10]) .skip)) (sQ (oS [m1 32 6] [2,10,32] (cD 32 (oP [fA 33 2 2,l1 34 33,m1 35 10,bT 36 .add 34 35,m1 10 36] [10]) .skip)) (oR [m1 37 10,m1 4 37] [4])))
def wY:IC:=oS [m1 12 1,o1 13 (.call 135 [.t 12,.c (.s [45])]),m1 11 13,xT 14 11 0,xT 15 11 1,m1 5 14,m1 6 15] [2,5,6] (oS [m1 17 5,o1 18 (.call 136 [.t 17,.c (.s [46])]),m1 16 18,xT 19 16 0,xT 20 16 1,xT 21 16 2,m1 7 19,m1 8 20,m1 9 21] [2,6,7,8,9] sO)
def gA:IC:=oS [bX 2 0,mC 4 (.s [])] [1,2] wY
@[push_cast]def Aq2:List R:=[.t 4]
@[push_cast]def AuN:=Ar sO.eq_1<|Ar wY.eq_1<|AM gA.eq_1
theorem AhM:Au Tryz.prog 151 38 gA Aq2=true:=by kernel_rfl
def xN:IC:=cD 13 (oR [mC 6 (.s []),mZ 7 1] [6,7]) (oS [fA 30 8 0,l1 31 30,bC 32 .eql 31 (.s []),m1 29 32] [1,2,8,29] (cD 29 (oR [mC 6 (.s []),mZ 7 18] [6,7]) .skip))
def Wp:IC:=oS [m1 44 1,o1 45 (.call 150 [.t 44,ci 2]),m1 43 45,xT 46 43 0,xT 47 43 1,m1 1 46,m1 10 47] [1,8,10] (oP [fA 48 8 3,l1 49 48,m1 9 49] [1,8,9,10])
def WE:IC:=.block 1 (oS [bC 35 .eql 33 (.s [105,110,116,101,103,101,114]),m1 34 35] [1,8,9,10,33,34] (cD 34 (oP [m1 37 1,o1 38 (.call 149 [.t 37,ci 0]),m1 36 38,xT 39 36 0,xT 40 36 1,m1 1 39,m1 10 40] [1,8,9,10]) (oS [bC 42 .eql 33 (.s [112,101,114,99,101,110,116]),m1 41 42] [1,8,9,10,41] (cD 41 Wp .skip))))
def Xf:IC:=sQ (oS [m1 50 10,bZ 51 .neq 50 0] [1,8,9,10,51] (cD 51 (oR [m1 52 10,mC 6 (.s []),m1 7 52] [6,7]) .skip)) (oR [lA 53 8 6,m1 54 1,q2 55 151 53 54,m1 56 9,bT 57 .add 55 56,m1 6 57,mZ 7 0] [6,7])
def s8:IC:=sQ (.block 0 (oS [m1 14 1,q1 15 67 14,nT 16 15,m1 17 16,BI 18 17 2,gF 19 17 (.bin .neq (.t 18) (.c (.s []))),BI 20 17 19,BL 21 20 2,gT 22 20 (.bin .neq (.t 21) (.c (.s [105,110,116,101,103,101,114]))),gF 23 17 (.pick (.t 20) (.t 22) (.c (.b false))),BI 24 17 23,BL 25 24 2,gT 26 24 (.bin .neq (.t 25) (.c (.s [112,101,114,99,101,110,116]))),gF 27 17 (.pick (.t 24) (.t 26) (.c (.b false))),pO 28 17 27,m1 13 28] [1,2,8,13] xN)) (oS [mC 9 (.s [])] [1,2,8,9] (oS [mZ 10 0] [1,2,8,9,10] (sQ (oS [m1 33 2] [1,8,9,10,33] WE) Xf)))
def oZ:IC:=oS [bX 3 0,mC 6 (.s []),mZ 7 0] [1,2,3] (oS [fA 11 3 5,lA 12 11 6,o1 8 (.alloc (.agg [.s [],.s [],.s [],.s [],.i .i64 0,.i .i64 0])),sT 8 12 6] [1,2,8] s8)
@[push_cast]def ApV:List R:=[.t 6,.t 7]
@[push_cast]def Av0:=Ar xN.eq_1<|Ar Wp.eq_1<|Ar WE.eq_1<|Ar Xf.eq_1<|Ar s8.eq_1<|AM oZ.eq_1
theorem Ai1:Au Tryz.prog 105 58 oZ ApV=true:=by kernel_rfl
def gC:IC:=sQ (oS [fA 14 1 0,l1 15 14,m1 16 15,gT 17 16 (.load (.t 1) 3 true),gT 18 16 (.call 138 [.t 17]),gT 19 16 (.not (.t 18)),pA 20 16 19] [3,20] (cD 20 (oP [m1 21 3,o1 22 (.bin .add (.c (.s [45])) (.t 21)),m1 3 22] [3]) .skip)) (oR [m1 23 3,m1 2 23] [2])
def d5:IC:=sQ (oS [fA 6 1 2,l1 7 6,bC 8 .neq 7 (.s [])] [1,3,8] (cD 8 (oP [m1 9 3,fA 10 1 2,l1 11 10,o1 12 (.bin .add (.c (.s [46])) (.t 11)),bT 13 .add 9 12,m1 3 13] [1,3]) .skip)) gC
def kC:IC:=oS [bX 1 0,mC 2 (.s [])] [1] (oS [fA 4 1 1,l1 5 4,m1 3 5] [1,3] d5)
@[push_cast]def Amp:List R:=[.t 2]
@[push_cast]def Au5:=Ar gC.eq_1<|Ar d5.eq_1<|AM kC.eq_1
theorem AgJ:Au Tryz.prog 258 24 kC Amp=true:=by kernel_rfl
def xM:IC:=sQ (oS [fA 4 1 1,l1 5 4,nS 6 5,bZ 7 .gtr 6 15,m1 8 7,ER 9 8 1 2,E8 10 8 9,gF 11 8 (.lenS (.t 10)),EI 12 8 .gtr 11 6,pO 13 8 12] [1,13] (cD 13 (oR [mC 2 (.s []),mZ 3 2] [2,3]) .skip)) (oR [lA 14 1 3,q1 15 258 14,m1 2 15,mZ 3 0] [2,3])
def nU:IC:=oS [bX 1 0,mC 2 (.s []),mZ 3 0] [1] xM
@[push_cast]def Apq:List R:=[.t 2,.t 3]
@[push_cast]def Auq:=Ar xM.eq_1<|AM nU.eq_1
theorem AjU:Au Tryz.prog 201 16 nU Apq=true:=by kernel_rfl
def qV:IC:=sQ (oS [m1 4 0,o1 5 (.call 259 [.t 4,.c (.s [48])]),m1 3 5] [3] (oS [m1 6 3,bC 7 .neq 6 (.s [])] [3,7] (cD 7 (oR [m1 8 3,m1 2 8] [2]) .skip))) (oR [mC 2 (.s [48])] [2])
def jH:IC:=oS [mC 2 (.s [])] [0] qV
@[push_cast]def AqF:List R:=[.t 2]
@[push_cast]def AvD:=Ar qV.eq_1<|AM jH.eq_1
theorem AkI:Au Tryz.prog 203 9 jH AqF=true:=by kernel_rfl
def Xs:IC:=oS [m1 19 1,bZ 20 .lss 19 0,m1 21 20,BI 22 21 1,EI 23 21 .gtr 22 6,pO 24 21 23,m1 18 24] [1,6,18] (cD 18 (oR [mC 4 (.s []),mZ 5 2] [4,5]) .skip)
def XU:IC:=sQ (.ops [fA 30 6 2,l1 31 30,m1 32 1,fA 33 6 2,l1 34 33,nS 35 34,bT 36 .sub 32 35,o1 37 (.call 200 [.c (.s [48]),.t 36]),bT 38 .add 31 37,fA 39 6 2,sT 39 38 1] [6] [[0,1],[3,4],[4,5],[2,6],[5,6],[6,7],[1,8],[7,8],[1,10],[4,10],[8,10],[9,10]]) (oR [lA 40 6 3,q1 41 201 40,xT 42 41 0,xT 43 41 1,m1 4 42,m1 5 43] [4,5])
def Xv:IC:=sQ (.ops [m1 59 8,m1 60 8,nS 61 60,m1 62 1,bT 63 .sub 61 62,o1 64 (.slS (.t 59) none (some (.t 63))),m1 65 8,m1 66 8,nS 67 66,m1 68 1,bT 69 .sub 67 68,o1 70 (.slS (.t 65) (some (.t 69)) none),fA 71 6 1,sT 71 64 1,fA 72 6 2,sT 72 70 1] [6] [[1,2],[2,4],[3,4],[0,5],[4,5],[7,8],[8,10],[9,10],[6,11],[10,11],[5,13],[12,13],[11,15],[13,15],[14,15]]) (oR [lA 73 6 3,q1 74 201 73,xT 75 74 0,xT 76 74 1,m1 4 75,m1 5 76] [4,5])
def WV:IC:=sQ (.ops [fA 44 6 1,l1 45 44,fA 46 6 2,l1 47 46,m1 48 1,o1 49 (.slS (.t 47) none (some (.t 48))),bT 50 .add 45 49,fA 51 6 2,l1 52 51,m1 53 1,o1 54 (.idx (.t 52) (.t 53)),bC 55 .geq 54 (.i .u8 53),m1 8 50,m1 9 55] [1,6,8,9] [[0,1],[2,3],[3,5],[4,5],[1,6],[5,6],[7,8],[8,10],[9,10],[10,11],[6,12],[11,13]]) (sQ (oS [m1 56 9] [1,6,8,56] (cD 56 (oP [m1 57 8,q1 58 202 57,m1 8 58] [1,6,8]) .skip)) Xv)
def vM:IC:=sQ (.block 0 (oS [m1 16 7,nT 17 16,m1 15 17] [1,6,15] (cD 15 (oR [mC 4 (.s []),mZ 5 1] [4,5]) Xs))) (sQ (oS [m1 25 1,fA 26 6 2,l1 27 26,nS 28 27,bT 29 .geq 25 28] [1,6,29] (cD 29 XU .skip)) WV)
def jC:IC:=oS [mC 4 (.s []),mZ 5 0] [0,1] (oS [m1 11 0,q1 12 98 11,m1 10 12,xT 13 10 0,xT 14 10 1,o1 6 (.alloc (.agg [.b false,.s [],.s []])),sT 6 13 3,m1 7 14] [1,6,7] vM)
@[push_cast]def Aml:List R:=[.t 4,.t 5]
@[push_cast]def Auf:=Ar Xs.eq_1<|Ar XU.eq_1<|Ar Xv.eq_1<|Ar WV.eq_1<|Ar vM.eq_1<|AM jC.eq_1
theorem U9:Au Tryz.prog 149 77 jC Aml=true:=by kernel_rfl
def WW:IC:=.ops [fA 27 6 1,l1 28 27,m1 29 8,m1 30 1,o1 31 (.slS (.t 29) none (some (.t 30))),bT 32 .add 28 31,q1 33 203 32,fA 34 6 2,l1 35 34,m1 36 1,fA 37 6 2,l1 38 37,nS 39 38,o1 40 (.mx true (.t 36) [.t 39]),o1 41 (.slS (.t 35) (some (.t 40)) none),fA 42 6 1,sT 42 33 1,fA 43 6 2,sT 43 41 1] [6] [[0,1],[2,4],[3,4],[1,5],[4,5],[5,6],[7,8],[10,11],[11,12],[9,13],[12,13],[8,14],[13,14],[1,16],[6,16],[8,16],[11,16],[15,16],[1,18],[8,18],[11,18],[14,18],[16,18],[17,18]]
def XJ:IC:=sQ (.ops [fA 22 6 2,l1 23 22,m1 24 1,o1 25 (.call 200 [.c (.s [48]),.t 24]),bT 26 .add 23 25,m1 8 26] [1,6,8] [[0,1],[2,3],[1,4],[3,4],[4,5]]) WW
def Xj:IC:=.ops [m1 50 9,m1 51 9,nS 52 51,m1 53 1,bT 54 .add 52 53,o1 55 (.slS (.t 50) none (some (.t 54))),q1 56 203 55,m1 57 9,m1 58 9,nS 59 58,m1 60 1,bT 61 .add 59 60,o1 62 (.slS (.t 57) (some (.t 61)) none),fA 63 6 2,l1 64 63,bT 65 .add 62 64,fA 66 6 1,sT 66 56 1,fA 67 6 2,sT 67 65 1] [6] [[1,2],[2,4],[3,4],[0,5],[4,5],[5,6],[8,9],[9,11],[10,11],[7,12],[11,12],[13,14],[12,15],[14,15],[6,17],[14,17],[16,17],[14,19],[15,19],[17,19],[18,19]]
def XO:IC:=sQ (.ops [m1 44 1,o1 45 (.neg (.t 44)),o1 46 (.call 200 [.c (.s [48]),.t 45]),fA 47 6 1,l1 48 47,bT 49 .add 46 48,m1 9 49] [1,6,9] [[0,1],[1,2],[3,4],[2,5],[4,5],[5,6]]) Xj
def WQ:IC:=oS [m1 17 1,o1 18 (.mx true (.t 17) [ci 40]),o1 19 (.mx false (.t 18) [ci (-40)]),m1 1 19] [1,6] (sQ (oS [m1 20 1,bZ 21 .geq 20 0] [1,6,21] (cD 21 XJ XO)) (oR [lA 68 6 3,q1 69 201 68,xT 70 69 0,xT 71 69 1,m1 4 70,m1 5 71] [4,5]))
def v6:IC:=oS [m1 11 0,q1 12 98 11,m1 10 12,xT 13 10 0,xT 14 10 1,o1 6 (.alloc (.agg [.b false,.s [],.s []])),sT 6 13 3,m1 7 14] [1,6,7] (sQ (oS [m1 15 7,nT 16 15] [1,6,16] (cD 16 (oR [mC 4 (.s []),mZ 5 1] [4,5]) .skip)) WQ)
def xL:IC:=oS [mC 4 (.s []),mZ 5 0] [0,1] v6
@[push_cast]def Ank:List R:=[.t 4,.t 5]
@[push_cast]def AuG:=Ar WW.eq_1<|Ar XJ.eq_1<|Ar Xj.eq_1<|Ar XO.eq_1<|Ar WQ.eq_1<|Ar v6.eq_1<|AM xL.eq_1
theorem rF:Au Tryz.prog 150 72 xL Ank=true:=by kernel_rfl
end Go.Ir

namespace Go.Ir
open Go.Proofs
variable(W0:World)
theorem wB(c:Bool)(w f:Aa):An Tryz.prog W0 138 [.agg [.b c,.s w,.s f]] [] (.b (DP w&&DP f)) []:=by
 refine Ah (vs:=[.b (DP w&&DP f)]) eU (by simp) (by simp) λn0 a=>?_;clear a;simp only[push_cast,seval,reduceEqDiff];have _h:=trivial;repeat' (first|(first|((first|apply Ab|apply Ag|apply Af)<;>intro _h)|refine Ac (kR W0 _) ?_)<;>(simp only[push_cast,seval,reduceEqDiff,_h];try (have _g:=_h;simp at _g))|intro _)
 all_goals (first|(refine Ai ?_;simp[get, *]<;>(intros;omega);done)|(refine Ae ?_;simp[push_cast,get, *];done)|skip)
theorem AbN(c:Bool)(w f:Aa)(h:w.length<=2^30)(g:f.length<=2^30):An Tryz.prog W0 258 [.agg [.b c,.s w,.s f]] [] (.s (Ij c w f)) []:=by
 have e:=wB W0 c w f;generalize hS:Ij c w f=S;unfold Ij at hS;generalize(DP w&&DP f)=Z at *;refine Ah (vs:=[.s S]) AgJ (by simp) (by simp) λn0 d=>?_;clear d;simp only[push_cast,seval,reduceEqDiff];cases c<;>cases Z
 all_goals (cases a:(f==([]:Aa)))
 all_goals ((try simp only[a,bq,if_true,if_false,Int.reduceBEq,reduceCtorEq] at hS);subst hS)
 all_goals (try simp only[push_cast,seval,reduceEqDiff,a])
 all_goals (repeat' (first|((first|refine Ac (by exact e) ?_|refine As (by simp only[Agz,Ah5,Alo,AA]<;>omega) ?_);(try simp only[push_cast,seval,reduceEqDiff,a]))|intro _))
 all_goals (first|(refine Ai ?_;simp[get];done)|(refine Ae ?_;simp[push_cast,get];done)|skip)
theorem KI(d:Bool)(w f:Aa)(h:w.length<=2^30)(g:f.length<=2^30):An Tryz.prog W0 201 [.agg [.b d,.s w,.s f]] [] (.tup [.s (Em d w f).1,.i .i64 (Em d w f).2]) []:=by
 have j:=AbN W0 d w f h g;generalize hS:Em d w f=S;unfold Em at hS;generalize Ij d w f=Z at *;refine Ah (vs:=[.s S.1,.i .i64 S.2]) AjU (by simp) (by simp) λn0 e=>?_;clear e;simp only[push_cast,seval,reduceEqDiff]
 all_goals (cases a:(decide ((w.length:Int)>15))<;>cases c:(decide ((f.length:Int)>6)))
 all_goals ((try simp only[a,c,bq,if_true,if_false,Int.reduceBEq,reduceCtorEq] at hS);subst hS)
 all_goals (try simp only[push_cast,seval,reduceEqDiff,a,c])
 all_goals (repeat' (first|((first|refine Ac (by exact j) ?_|refine As (by omega) ?_);(try simp only[push_cast,seval,reduceEqDiff,a,c]))|intro _))
 all_goals (first|(refine Ai ?_;simp[get];done)|(refine Ae ?_;simp[push_cast,get];done)|skip)
theorem YG(w:Aa):An Tryz.prog W0 203 [.s w] [] (.s (Ey w)) []:=by
 have c:=Qm W0 w [48] (by decide) (by decide);generalize hS:Ey w=S;unfold Ey at hS;generalize Lib.trimLeftS w [48]=Z at *;refine Ah (vs:=[.s S]) AkI (by simp) (by simp) λn0 b=>?_;clear b;simp only[push_cast,seval,reduceEqDiff]
 all_goals (cases a:(Z==([]:Aa)))
 all_goals ((try simp only[a,bq,if_true,if_false,Int.reduceBEq,reduceCtorEq] at hS);subst hS)
 all_goals (try simp only[push_cast,seval,reduceEqDiff,a])
 all_goals (repeat' (first|((first|refine Ac (by exact c) ?_|refine As (by omega) ?_);(try simp only[push_cast,seval,reduceEqDiff,a]))|intro _))
 all_goals (first|(refine Ai ?_;simp[get];done)|(refine Ae ?_;simp[push_cast,get];done)|skip)
theorem ZX:An Tryz.prog W0 200 [.s [48],.i .i64 0] [] (.s []) []:=Oo W0 [48] 0 (by decide) (by decide) (by decide)
theorem aZ:An Tryz.prog W0 200 [.s [48],.i .i64 2] [] (.s [48,48]) []:=Oo W0 [48] 2 (by decide) (by decide) (by decide)
theorem J9{s:Aa}(h:DF s=true):(AO s).length<=15/\(Bn s).length<=6:=⟨(GQ h).2.2.1,(GQ h).2.2.2⟩
theorem Ua(w:Aa):(Ey w).length<=w.length+1:=by unfold Ey;have:=Fp w [48];split<;>simp<;>omega
theorem Aby(s:Aa)(q:s.length<=2^30):An Tryz.prog W0 150 [.s s,.i .i64 2] [] (.tup [.s (CI s).1,.i .i64 (CI s).2]) []:=by
 have a:=L0 W0 s (by omega);have m:=aZ W0;generalize hS:CI s=S;unfold CI at hS;unfold K8 at a;cases k:DF s with
 | false=>
  rw[k] at a hS;refine Ah (vs:=[.s S.1,.i .i64 S.2]) rF (by simp) (by simp) λn0 h=>?_;clear h;simp only[push_cast,seval,reduceEqDiff]
  all_goals ((try simp only[bq,if_true,if_false,Int.reduceBEq,reduceCtorEq] at hS);subst hS)
  all_goals (try simp only[push_cast,seval,reduceEqDiff])
  all_goals (repeat' (first|((first|refine Ac (by exact a) ?_|refine As (by omega) ?_);(try simp only[push_cast,seval,reduceEqDiff]))|intro _))
  all_goals (first|(refine Ai ?_;simp[get];done)|(refine Ae ?_;simp[push_cast,get];done)|skip)
 | true=>
  rw[k] at a hS;obtain⟨r,t⟩:=J9 k;have j:((Bn s++[48,48]).take 2).length=2:=by simp
  have l:=Ua (AO s++(Bn s++[48,48]).take 2);rw[Agz,j] at l;have o:=YG W0 (AO s++(Bn s++[48,48]).take 2);have hp:=KI W0 (JI s) (Ey (AO s++(Bn s++[48,48]).take 2)) ((Bn s).drop (min 2 (Bn s).length)) (by omega) (by simp;omega);generalize JI s=p at *;generalize AO s=W at *;generalize Bn s=F at *;generalize Ey (W++(F++[48,48]).take 2)=TB at *;have b:max (min (2:Int) 40) (-40)=2:=rfl;have c:decide ((2:Int)>=0)=true:=rfl;have d:(2<=(F++[48,48]).length)=True:=eq_true (by simp);have e:min (2:Int) (F.length:Int)=((min 2 F.length:Nat):Int):=by omega
  have f:((min 2 F.length:Nat)<=F.length)=True:=eq_true (by omega);have g:(W.length+(List.take 2 (F++[48,48])).length<=AA)=True:=eq_true (by unfold AA;omega);refine Ah (vs:=[.s S.1,.i .i64 S.2]) rF (by simp) (by simp) λn0 h=>?_;clear h;simp only[push_cast,seval,reduceEqDiff,b,c,d,e,f,g,Abm,Alj]
  all_goals ((try simp only[bq,if_true,if_false,Int.reduceBEq,reduceCtorEq] at hS);subst hS)
  all_goals (try simp only[push_cast,seval,reduceEqDiff,b,c,d,e,f,g,Abm,Alj])
  all_goals (repeat' (first|((first|refine Ac (by exact a) ?_|refine Ac (by exact m) ?_|refine Ac (by exact o) ?_|refine Ac (by exact hp) ?_|refine As (by simp only[Agz,Ah5,Alo,AA]<;>omega) ?_);(try simp only[push_cast,seval,reduceEqDiff,b,c,d,e,f,g,Abm,Alj]))|intro _))
  all_goals (first|(refine Ai ?_;simp[get];done)|(refine Ae ?_;simp[push_cast,get];done)|skip)
theorem iV(l:List UInt8):(Ly l).length<=l.length+1:=by
 induction l with
 | nil=>simp[Ly]
 | cons c l a=>rw[Ly];grind
theorem AbO(s:Aa):(Ip s).length<=s.length+1:=by have:=iV s.reverse;simpa[Ip] using this
theorem Abh(s:Aa)(C:s.length<=2^30):An Tryz.prog W0 149 [.s s,.i .i64 0] [] (.tup [.s (CQ s).1,.i .i64 (CQ s).2]) []:=by
 have a:=L0 W0 s (by omega);have x:=ZX W0;generalize hS:CQ s=S;unfold CQ at hS;unfold K8 at a;have d:decide ((0:Int)<0)=false:=rfl;have e:decide ((0:Int)>6)=false:=rfl;cases u:DF s with
 | false=>
  rw[u] at a hS;refine Ah (vs:=[.s S.1,.i .i64 S.2]) U9 (by simp) (by simp) λn0 b=>?_;clear b;simp only[push_cast,seval,reduceEqDiff,d,e]
  all_goals ((try simp only[bq,if_true,if_false,Int.reduceBEq,reduceCtorEq] at hS);subst hS)
  all_goals (try simp only[push_cast,seval,reduceEqDiff,d,e])
  all_goals (repeat' (first|((first|refine Ac (by exact a) ?_|refine As (by omega) ?_);(try simp only[push_cast,seval,reduceEqDiff,d,e]))|intro _))
  all_goals (first|(refine Ai ?_;simp[get];done)|(refine Ae ?_;simp[push_cast,get];done)|skip)
 | true=>
  rw[u] at a hS;obtain⟨D,E⟩:=J9 u;have A:=AbO (AO s);have t:=AgG W0 (AO s) (by omega);have y:=KI W0 (JI s) (AO s) [] (by omega) (by simp);have q1:=KI W0 (JI s) (Ip (AO s)) [] (by omega) (by simp);generalize JI s=B at *;generalize Ip (AO s)=v at *;generalize AO s=W at *;cases w:Bn s with
  | nil=>
   rw[w] at a hS;have f:decide ((0:Int)>=(([]:List UInt8).length:Int))=true:=rfl;have j:([]:List UInt8)++[]=[]:=rfl;have k:(([]:List UInt8)==[])=true:=rfl;simp only[if_true,k] at hS;refine Ah (vs:=[.s S.1,.i .i64 S.2]) U9 (by simp) (by simp) λn0 b=>?_;clear b;simp only[push_cast,seval,reduceEqDiff,d,e,f,j]
   all_goals ((try simp only[bq,if_true,if_false,Int.reduceBEq,reduceCtorEq] at hS);subst hS)
   all_goals (try simp only[push_cast,seval,reduceEqDiff,d,e,f,j])
   all_goals (repeat' (first|((first|refine Ac (by exact a) ?_|refine Ac (by exact x) ?_|refine Ac (by exact y) ?_|refine As (by omega) ?_);(try simp only[push_cast,seval,reduceEqDiff,d,e,f,j]))|intro _))
   all_goals (first|(refine Ai ?_;simp[get];done)|(refine Ae ?_;simp[push_cast,get];done)|skip)
  | cons c F=>
   rw[w] at a hS;obtain⟨G,h⟩:∃G,G=c::F:=⟨_,rfl⟩
   rw[<-h] at a hS;have f:decide ((0:Int)>=(G.length:Int))=false:=by grind
   have k:(G==([]:List UInt8))=false:=by rw[h];rfl
   have l:(0<=G.length)=True:=eq_true (Alq _);have m:W++List.take 0 G=W:=by simp
   have o:G[0]?=some c:=by rw[h];rfl
   have r:(W.length+(List.take 0 G).length<=AA)=True:=eq_true (by simp;unfold AA;omega);have z:AeH G=decide ((c.toNat:Int)>=53):=by rw[h];rfl
   simp only[if_true,if_false,AcY,k,z] at hS;clear h;have q:IntKind.i64.wrap ((W.length:Int)-0)=(W.length:Int):=by rw[wrap64 (by omega) (by omega)];omega
   have p:IntKind.i64.wrap ((v.length:Int)-0)=(v.length:Int):=by rw[wrap64 (by omega) (by omega)];omega
   refine Ah (vs:=[.s S.1,.i .i64 S.2]) U9 (by simp) (by simp) λn0 b=>?_;clear b;simp only[push_cast,seval,reduceEqDiff,d,e,f,l,m,o,r,q,p,Alq,Abm,Alj,List.drop_length]
   all_goals (cases g:(decide ((c.toNat:Int)>=53)))
   all_goals ((try simp only[g,bq,if_true,if_false,Int.reduceBEq,reduceCtorEq] at hS);subst hS)
   all_goals (try simp only[push_cast,seval,reduceEqDiff,g,d,e,f,l,m,o,r,q,p,Alq,Abm,Alj,List.drop_length])
   all_goals (repeat' (first|((first|refine Ac (by exact a) ?_|refine Ac (by exact x) ?_|refine Ac (by exact y) ?_|refine Ac (by exact q1) ?_|refine Ac (by exact t) ?_|refine As (by simp only[Agz,Ah5,Alo,AA]<;>omega) ?_);(try simp only[push_cast,seval,reduceEqDiff,g,d,e,f,l,m,o,r,q,p,Alq,Abm,Alj,List.drop_length]))|intro _))
   all_goals (first|(refine Ai ?_;simp[get];done)|(refine Ae ?_;simp[push_cast,get];done)|skip)
theorem JN(sep:Aa)(n m:Nat)(f:sep.length<=m):∀(c:List Aa),(∀l∈c,l.length<=n)->(Lib.join c sep).length<=c.length*(n+m)
 | [],_=>by simp[Lib.join,List.intercalate]
 | [a],h=>by have:=h a (by simp);simp[Lib.join,List.intercalate];omega
 | a::b::r,h=>by
  have g:=h a (by simp);have i:=JN sep n m f (b::r) λl e=>h l (AaC _ e);have d:Lib.join (a::b::r) sep=a++sep++Lib.join (b::r) sep:=by simp[Lib.join,List.intercalate,List.intersperse]
  rw[d,Agz,Agz,Ah5,AxP];omega
theorem Ld(a:Nat)(h:1<=a):∀(n m:Nat) (r:Aa),r.length<=n->r.length<=m->Bo a n r=Bo a m r:=by
 intro n
 induction n with
 | zero=>
  intro m r b c;have:r=[]:=by simpa using b
  subst this;cases m<;>simp[Bo]
 | succ n d=>
  intro m r b c;cases m with
  | zero=>grind
  | succ m=>rw[Bo,Bo];grind
theorem UD(u:V)(f a F:Nat)(sv:Int)(A:sv=(f:Int))(G:1<=f)(L:f<9223372036854775808)(t:List Aa)(e:Id)(h:Aa)(w:h.length<=64)(v:t.length+h.length<=100)(l:a<e.1)(o:e.1<F)(Q:Exit->St->Prop)
  (H:∀d n,a<d.1->d.1<n->Q (.exit 0) ⟨[(2,.ref (a,2) 0),(5,.i .i64 sv),(7,.arr d),(8,.s []),(39,.b false)],[(d,.arr 9 1 ((t++Bo f h.length h).map V.s)),((a,2),.box u)],n⟩) :
  GX Tryz.prog W0 60 P9 Q ⟨[(2,.ref (a,2) 0),(5,.i .i64 sv),(7,.arr e),(8,.s h)],[(e,.arr 9 1 (t.map V.s)),((a,2),.box u)],F⟩:=by
 subst A;generalize hS:t++Bo f h.length h=S at H;refine Am h.length (Inv:=λm st=>∃r n d g,m=r.length/\g++Bo f r.length r=S/\r.length<=64/\g.length+r.length<=100/\a<d.1/\d.1<n/\st=⟨[(2,.ref (a,2) 0),(5,.i .i64 f),(7,.arr d),(8,.s r)],[(d,.arr 9 1 (g.map V.s)),((a,2),.box u)],n⟩) ⟨_,Ak.refl,h,_,e,t,rfl,hS,w,v,l,o,rfl⟩ ?_;clear hS w v l o;rintro m _ ⟨r,n,d,g,rfl,p,K,I,l,o,rfl⟩;cases r with
 | nil=>simp only[Bo,Alo,Ary] at p;subst p;simp only[push_cast,seval,reduceEqDiff];grind
 | cons c r=>
  obtain⟨R,y⟩:∃R,R=c::r:=⟨_,rfl⟩;rw[<-y] at p K I⊢;have M:1<=R.length:=by rw[y];simp
  have z:(R==([]:Aa))=false:=by rw[y];rfl
  clear y;obtain⟨q,J⟩:∃q,R.length=q+1:=⟨R.length-1,by omega⟩
  rw[J,Bo,if_neg (by rw[z];simp)] at p;rw[Ld f G q (R.take (R.length-f)).length (R.take (R.length-f)) (by simp;omega) (by simp)] at p;have B:max (0:Int) (IntKind.i64.wrap ((R.length:Int)-(f:Int)))=((R.length-f:Nat):Int):=by rw[wrap64 (by omega) (by omega)];omega
  have C:(R.length-f<=R.length)=True:=eq_true (by omega);have D:((g.length:Nat)+1<=AK)=True:=eq_true (by unfold AK;omega);have x:∀j:Nat,((a,j)=d)=False:=λj=>eq_false λE=>(by grind)
  have k:∀j:Nat,(d=(a,j))=False:=λj=>eq_false λE=>of_eq_false (x j) E.symm;simp only[push_cast,seval,reduceEqDiff,x,k,z,B,C,D,Alq,Abm,Alj,Acr]
  repeat' (first|(((first|apply Ab|apply Ag|apply Af)<;>intro _h)<;>simp only[push_cast,seval,reduceEqDiff,_h,x,k,z,B,C,D,Alq,Abm,Alj,Acr])|(refine As (by omega) ?_;simp only[push_cast,seval,reduceEqDiff,x,k,z,B,C,D,Alq,Abm,Alj,Acr])|intro _)
  refine⟨_,_,?_,Ak.refl,R.take (R.length-f),_,_,g++[R.drop (R.length-f)],rfl,by rw[<-p];simp,by simp;omega,by simp;omega,?_,?_,by rw[Axu];rfl⟩
  ·simp;omega
  ·simp only;omega
  ·simp only;omega
theorem Acu(F e u D:Aa)(a b:Int)(d:Aa)(Z:d.length<=64)(T:e.length<=2^22)(hp:-9223372036854775808<=a)(hs:b<9223372036854775808) :
  An Tryz.prog W0 204 [.agg [.s F,.s e,.s u,.s D,.i .i64 a,.i .i64 b],.s d] [] (.s (IT a b e d)) []:=by
 generalize hS:IT a b e d=S;unfold IT at hS;cases c:decide (a<1) with
 | true=>
  simp only[c,bq,if_true,if_false,Int.reduceBEq,reduceCtorEq] at hS;subst hS;refine Ah (vs:=[.s d]) Tw (by simp) (by simp) λn0 h=>?_;clear h;simp only[push_cast,seval,reduceEqDiff,c]
  repeat' (first|(((first|apply Ab|apply Ag|apply Af)<;>intro _h)<;>simp only[push_cast,seval,reduceEqDiff,_h,c])|(refine As (by omega) ?_;simp only[push_cast,seval,reduceEqDiff,c])|intro _)
  all_goals exact Ai (by simp[get])
 | false=>
 cases g:decide ((d.length:Int)<=a) with
 | true=>
  simp only[c,g,bq,if_true,if_false,Int.reduceBEq,reduceCtorEq] at hS;subst hS;refine Ah (vs:=[.s d]) Tw (by simp) (by simp) λn0 h=>?_;clear h;simp only[push_cast,seval,reduceEqDiff,c,g]
  repeat' (first|(((first|apply Ab|apply Ag|apply Af)<;>intro _h)<;>simp only[push_cast,seval,reduceEqDiff,_h,c,g])|(refine As (by omega) ?_;simp only[push_cast,seval,reduceEqDiff,c,g])|intro _)
  all_goals exact Ai (by simp[get])
 | false=>
  simp only[c,g,bq,if_true,if_false,Int.reduceBEq,reduceCtorEq] at hS;have k1:¬a<1:=of_decide_eq_false c;have k2:¬(d.length:Int)<=a:=of_decide_eq_false g;obtain⟨p,rfl⟩:∃p:Nat,a=p:=⟨a.toNat,by omega⟩
  have v:IntKind.i64.wrap ((d.length:Int)-(p:Int))=((d.length-p:Nat):Int):=by rw[wrap64 (by omega) (by omega)];omega
  have w:(d.length-p<=d.length)=True:=eq_true (by omega);obtain⟨f,t⟩:∃f:Nat,f=(if b<1 then(p:Int) else b).toNat:=⟨_,rfl⟩
  rw[<-t] at hS;have o:1<=f:=by rw[t];split<;>omega
  have B:f<9223372036854775808:=by rw[t];split<;>omega
  have V:(d.take (d.length-p)).length=d.length-p:=by simp
  have K:([d.drop (d.length-p)]++Bo f (d.take (d.length-p)).length (d.take (d.length-p)))≠[]:=by simp
  have I:∀(n:Nat) (r:Aa),(Bo f n r).length<=n/\∀l∈Bo f n r,l.length<=r.length:=by
   intro n
   induction n with
   | zero=>intro r;simp[Bo]
   | succ n ih=>intro r;rw[Bo];grind
  obtain⟨X,Y⟩:=I (d.take (d.length-p)).length (d.take (d.length-p));have A:S=Lib.join ([d.drop (d.length-p)]++Bo f (d.take (d.length-p)).length (d.take (d.length-p))).reverse e:=by rw[<-hS,Ld f o (d.take (d.length-p)).length d.length _ (by simp) (by simp)];rfl
  clear hS;have O:([d.drop (d.length-p)]++Bo f (d.take (d.length-p)).length (d.take (d.length-p))).length<=65:=by grind
  have H:∀l∈[d.drop (d.length-p)]++Bo f (d.take (d.length-p)).length (d.take (d.length-p)),l.length<=64:=by grind
  refine Ah (vs:=[.s S]) Tw (by simp) (by simp) λn0 h=>?_;clear h;simp only[push_cast,seval,reduceEqDiff,c,g,v,w,Alq,Abm,Alj];have C:(if decide (b<1) then(p:Int) else b)=(f:Int):=by grind
  cases E:decide (b<1)
  all_goals simp only[E,if_true,if_false,AcY] at C
  all_goals simp only[push_cast,seval,reduceEqDiff,E,c,g,v,w,Alq,Abm,Alj]
  all_goals repeat' (first|(((first|apply Ab|apply Ag|apply Af)<;>intro _h)<;>simp only[push_cast,seval,reduceEqDiff,_h,c,g,v,w,Alq,Abm,Alj,E])|(refine As (by omega) ?_;simp only[push_cast,seval,reduceEqDiff,c,g,v,w,Alq,Abm,Alj,E])|intro _)
  all_goals refine UD W0 _ f _ _ _ C o B [d.drop (d.length-p)] _ _ (by simp;omega) (by simp;omega) (by simp only;omega) (by simp only;omega) _ (λm n i1 i2=>?_)
  all_goals generalize[d.drop (d.length-p)]++Bo f (d.take (d.length-p)).length (d.take (d.length-p))=G at *
  all_goals have J:=JN e 64 (2^22) T G.reverse (λl U=>H l (by simpa using U))
  all_goals rw[<-A] at J
  all_goals have N:=qZ W0 G.reverse e (by grind)
  all_goals rw[<-A] at N
  all_goals have L:=YH W0 G m K (by omega)
  all_goals have x:∀j,((n0,j)=m)=False:=λj=>eq_false λM=>by grind
  all_goals have q:∀j,(m=(n0,j))=False:=λj=>eq_false λM=>of_eq_false (x j) M.symm
  all_goals simp only[push_cast,seval,reduceEqDiff,x,q]
  all_goals refine MY L (by grind) ?_
  all_goals simp only[push_cast,seval,reduceEqDiff,x,q]
  all_goals intro k
  all_goals refine Ha (Ak.frzAt (s:=7) (id:=m) rfl (by simp only[lk,x,if_false]) (λy W=>by obtain⟨z,_,rfl⟩:=Alx.1 W;rfl) (Abm _)) ?_
  all_goals simp only[push_cast,seval,reduceEqDiff,x,q]
  all_goals repeat' (first|(((first|apply Ab|apply Ag|apply Af)<;>intro _h)<;>simp only[push_cast,seval,reduceEqDiff,_h,c,g,v,w,Alq,Abm,Alj])|((first|refine Ac (by exact N) ?_|refine As (by omega) ?_);simp only[push_cast,seval,reduceEqDiff,c,g,v,w,Alq,Abm,Alj])|intro _)
  all_goals exact Ai (by simp[get])
structure Lj (L:BO):Prop where
 dec:L.dec.length<=2^16
 grp:L.grp.length<=2^16
 minus:L.minus.length<=2^16
 perc:L.perc.length<=2^16
 prim:-9223372036854775808<=L.prim
 sec:L.sec<9223372036854775808
theorem OO(L:BO)(c:Lj L)(d:Aa)(g:d.length<=64):(IT L.prim L.sec L.grp d).length<=2^23:=by
 unfold IT;split
 ·omega
 ·have a:∀(b n:Nat) (r:Aa),(Bo b n r).length<=n/\∀l∈Bo b n r,l.length<=r.length:=by
   intro b n
   induction n with
   | zero=>intro r;simp[Bo]
   | succ n i=>intro r;rw[Bo];grind
  obtain⟨e,f⟩:=a (if L.sec<1 then L.prim else L.sec).toNat d.length (d.take (d.length-L.prim.toNat));refine All (JN L.grp 64 (2^16) c.grp _ λl h=>?_) ?_
  ·grind
  grind
theorem DY(L:BO)(a:Lj L)(n:Aa)(g:n.length<=64):(Fi L n).length<=2^23+2^18:=by have b:=Kx n;have c:=RA n;have d:=OO L a (AO n) (by omega);have e:=a.dec;have f:=a.minus;unfold Fi;grind
theorem MO(L:BO)(a:Lj L)(n:Aa)(o:n.length<=64):An Tryz.prog W0 151 [.agg [.s L.dec,.s L.grp,.s L.minus,.s L.perc,.i .i64 L.prim,.i .i64 L.sec],.s n] [] (.s (Fi L n)) []:=by
 have h:=Kx n;have j:=RA n;have k:=OO L a (AO n) (by omega);have l:=a.dec;have m:=a.minus;have b:=Eu W0 n [45];rw[Ej,Fl] at b;have d:=Tl W0 n (by omega);have g:=Acu W0 L.dec L.grp L.minus L.perc L.prim L.sec (AO n) (by omega) (by have:=a.grp;omega) a.prim a.sec;generalize hS:Fi L n=S;unfold Fi at hS;generalize IT L.prim L.sec L.grp (AO n)=G at *;generalize AO n=W at *;generalize Bn n=F at *;generalize HC n=R at *;generalize L.dec=D at *;generalize L.minus=M at *;refine Ah (vs:=[.s S]) AhM (by simp) (by simp) λn0 c=>?_;clear c;simp only[push_cast,seval,reduceEqDiff];cases e:JI n<;>cases f:(Pq n).isEmpty
 all_goals simp only[e,f,bq,if_true,if_false,Int.reduceBEq,reduceCtorEq,Av6,Av9] at hS b d
 all_goals subst hS
 all_goals repeat' (first|(((first|apply Ab|apply Ag|apply Af)<;>intro _h)<;>simp only[push_cast,seval,reduceEqDiff,_h])|((first|refine Ac (by exact b) ?_|refine Ac (by exact d) ?_|refine Ac (by exact g) ?_|refine As (by simp only[Agz,Ah5,Alo,AA]<;>omega) ?_);simp only[push_cast,seval,reduceEqDiff])|intro _)
 all_goals exact Ai (by simp[get])
theorem Ms(a:Bool)(w f:Aa):(Em a w f).1.length<=64:=by
 unfold Em;split
 ·simp
 ·rename_i h;simp only[AwE,decide_eq_true_eq,not_or] at h;unfold Ij;split<;>split<;>simp only[Ah5,Agz]<;>omega
theorem K0(s:Aa):(CQ s).1.length<=64:=by
 unfold CQ;split
 ·exact Ms _ _ _
 ·simp
theorem KO(s:Aa):(CI s).1.length<=64:=by
 unfold CI;split
 ·exact Ms _ _ _
 ·simp
theorem Pi{n:Aa}(h:DF n=true):n.length<=64:=by
 obtain⟨_,_,b,c⟩:=GQ h;have a:n.length<=(HC n).length+1:=by unfold HC;grind
 rw[Jy,Agz] at a;have d:(Pq n).length<=(Bn n).length+1:=by unfold Bn;grind
 omega
theorem N4(L:BO)(a:Lj L)(n st:Aa)(v:n.length<=2^30):An Tryz.prog W0 105 [L.enc,.s n,.s st] [] (.tup [.s (Cw L n st).1,.i .i64 (Cw L n st).2]) []:=by
 have b:=HG W0 n (by omega);have l:=Abh W0 n (by omega);have m:=Aby W0 n (by omega);have l1:=DY L a (CQ n).1 (K0 n);have x:=DY L a (CI n).1 (KO n);have q:=MO W0 L a (CQ n).1 (K0 n);have t2:=MO W0 L a (CI n).1 (KO n);have k:=a.perc;generalize hS:Cw L n st=S;unfold Cw Nc Mj at hS;rw[BO.enc_eq];generalize Fi L (CQ n).1=t at *;generalize Fi L (CI n).1=u at *;generalize(CQ n).1=y at *;generalize(CQ n).2=o at *;generalize(CI n).1=z at *;generalize(CI n).2=p at *;refine Ah (vs:=[.s S.1,.i .i64 S.2]) Ai1 (by simp) (by simp) λn0 j=>?_;clear j;simp only[push_cast,seval,reduceEqDiff];cases hB:DF n with
 | false=>
  rw[hB] at b hS;simp only[bq,if_true,if_false,Int.reduceBEq,reduceCtorEq] at hS;subst hS;have _h:=trivial;repeat' (first|(first|((first|apply Ab|apply Ag|apply Af)<;>intro _h)|refine Ac b ?_|refine As (by omega) ?_)<;>simp only[push_cast,seval,reduceEqDiff,_h]|intro _)
  refine Ae ?_;simp[push_cast,get]
 | true=>
  have t0:=MO W0 L a n (Pi hB);have w:=DY L a n (Pi hB);generalize Fi L n=r at *;rw[hB] at b hS;cases c:(st==([]:Aa))<;>cases d:(st==([105,110,116,101,103,101,114]:Aa))<;>cases e:(st==([112,101,114,99,101,110,116]:Aa))<;>cases f:(L.dec==([]:Aa))<;>cases g:(o==0)<;>cases h:(p==0)
  all_goals (try simp only[c,d,e,f,g,h,bq,if_true,if_false,Int.reduceBEq,reduceCtorEq,Av6,Av9,Auy,AuB,Aw1,AwZ,bne] at hS;subst hS)
  all_goals repeat' (first|(((first|apply Ab|apply Ag|apply Af)<;>intro _h)<;>simp only[push_cast,seval,reduceEqDiff,_h,c,d,e,f,g,h,bne])|((first|refine Ac (by exact b) ?_|refine Ac (by exact l) ?_|refine Ac (by exact m) ?_|refine Ac (by exact t0) ?_|refine Ac (by exact q) ?_|refine Ac (by exact t2) ?_|refine As (by simp only[Agz,Ah5,Alo,AA]<;>omega) ?_);simp only[push_cast,seval,reduceEqDiff,c,d,e,f,g,h,bne])|intro _)
  all_goals (refine Ae ?_;simp[push_cast,get])
end Go.Ir

namespace Go.Ir
open Go.Proofs
variable{P:Program}{W0:World}{nt n:Nat}{Q:Exit→St→Prop}{env:AE}{σ:Al}
def lF:IC:=oR [o1 3 (.msl false 9 1 [.c (.s [121]),.c (.s [77]),.c (.s [77,77]),.c (.s [77,77,77]),.c (.s [69]),.c (.s [100]),.c (.s [100,100])]),m1 4 0,q2 5 241 3 4,m1 2 5] [2]
def dL:IC:=oS [mC 2 (.b false)] [0] lF
@[push_cast]def Amh:List R:=[.t 2]
@[push_cast]def Avo:=Ar lF.eq_1<|AM dL.eq_1
theorem Ajs:Au Tryz.prog 330 6 dL Amh=true:=by kernel_rfl
def VK:IC:=sQ (oS [m1 29 9,q1 30 330 29,nT 31 30] [4,8,9,11,12,13,31] (cD 31 (oR [mC 2 .nil,mZ 3 3] [2,3]) .skip)) (oP [m1 32 4,m1 33 9,o1 34 (.msl false 9 1 [.t 33]),o1 35 (.app (.t 32) (.t 34) 9 1),m1 36 8,m1 4 35,m1 5 36] [4,5,11,12,13])
def X8:IC:=oS [m1 20 5,m1 21 5,nS 22 21,m1 23 8,nS 24 23,bT 25 .sub 22 24,o1 26 (.slS (.t 20) none (some (.t 25))),m1 9 26] [4,5,8,9,11,12,13] (sQ (oS [m1 27 9,bC 28 .eql 27 (.s [])] [4,5,8,9,11,12,13,28] (cD 28 (.exit 1) .skip)) VK)
def Vg:IC:=sQ (.block 1 (oS [iA 15 11 13 9 1,l1 16 15,m1 7 16] [4,5,7,11,12,13] (oS [m1 17 5,m1 18 7,q2 19 259 17 18,m1 8 19] [4,5,8,11,12,13] X8))) (oP [bZ 37 .add 13 1,m1 13 37] [4,5,11,12,13])
def VO:IC:=sQ (oS [m1 38 5,bC 39 .neq 38 (.s []),m1 40 39,BI 41 40 4,gF 42 40 (.lenL (.t 41)),EI 43 40 .eql 42 0,pO 44 40 43] [4,44] (cD 44 (oR [mC 2 .nil,mZ 3 3] [2,3]) .skip)) (sQ (.wk (oP [m1 45 4,m1 2 45,mZ 3 0] [2,3])) .ret)
def uH:IC:=sQ (oS [o1 11 (.msl false 9 1 [.c (.s [121]),.c (.s [77]),.c (.s [69]),.c (.s [100])]),nL 12 11,mZ 13 0] [4,5,11,12,13] (.block 0 (.loop (oS [bT 14 .lss 13 12] [4,5,11,12,13,14] (sQ (cD 14 .skip (.exit 0)) Vg))))) VO
def nV:IC:=oS [mC 2 .nil,mZ 3 0] [0] (oS [mC 4 .nil] [0,4] (oS [m1 10 0,m1 5 10] [4,5] uH))
@[push_cast]def AlN:List R:=[.t 2,.t 3]
@[push_cast]def AuJ:=Ar VK.eq_1<|Ar X8.eq_1<|Ar Vg.eq_1<|Ar VO.eq_1<|Ar uH.eq_1<|AM nV.eq_1
theorem Ald:Au Tryz.prog 311 46 nV AlN=true:=by kernel_rfl
def VN:IC:=sQ (oS [m1 20 6,q1 21 330 20,nT 22 21] [4,5,6,22] (cD 22 (oR [mC 2 .nil,mC 3 (.b false)] [2,3]) .skip)) (oS [m1 23 4,m1 24 6,o1 25 (.msl false 9 1 [.t 24]),o1 26 (.app (.t 23) (.t 25) 9 1),m1 27 5,m1 4 26,m1 0 27] [0,4] (.exit 1))
def Vi:IC:=sQ (oS [m1 11 0,m1 12 0,nS 13 12,m1 14 5,nS 15 14,bT 16 .sub 13 15,o1 17 (.slS (.t 11) none (some (.t 16))),m1 6 17] [0,4,5,6] (oS [m1 18 6,bC 19 .neq 18 (.s [])] [0,4,5,6,19] (cD 19 VN .skip))) (oP [m1 28 0,o1 29 (.slS (.t 28) (some (ci 1)) none),m1 0 29] [0,4])
def XZ:IC:=.block 1 (oS [m1 9 0,o1 10 (.call 259 [.t 9,.c (.s [65,66,67,68,69,70,71,72,73,74,75,76,77,78,79,80,81,82,83,84,85,86,87,88,89,90,97,98,99,100,101,102,103,104,105,106,107,108,109,110,111,112,113,114,115,116,117,118,119,120,121,122])]),m1 5 10] [0,4,5] Vi)
def sN:IC:=oS [mC 4 .nil] [0,4] (sQ (.block 0 (.loop (sQ (oS [m1 7 0,bC 8 .neq 7 (.s [])] [0,4,8] (cD 8 .skip (.exit 0))) XZ))) (sQ (.wk (oP [m1 30 4,m1 2 30,mC 3 (.b true)] [2,3])) .ret))
def qU:IC:=oS [mC 2 .nil,mC 3 (.b false)] [0] sN
@[push_cast]def ApD:List R:=[.t 2,.t 3]
@[push_cast]def Avd:=Ar VN.eq_1<|Ar Vi.eq_1<|Ar XZ.eq_1<|Ar sN.eq_1<|AM qU.eq_1
theorem AgR:Au Tryz.prog 312 31 qU ApD=true:=by kernel_rfl
def WR:IC:=oP [m1 14 4,m1 15 6,o1 16 (.slS (.t 15) none (some (ci 1))),o1 17 (.msl false 9 1 [.t 16]),o1 18 (.app (.t 14) (.t 17) 9 1),m1 4 18] [4,8,9,10]
def jV:IC:=oS [bT 11 .lss 10 9] [4,8,9,10,11] (sQ (cD 11 .skip (.exit 0)) (sQ (.block 1 (oS [iA 12 8 10 9 1,l1 13 12,m1 6 13] [4,6,8,9,10] WR)) (oP [bZ 19 .add 10 1,m1 10 19] [4,8,9,10])))
def XW:IC:=sQ (.opx [m1 22 4,o1 23 (.calln 66 [.t 22])] [4,23] 24 331 [.t 23] [m1 7 24] [4,7]) (sQ (.wk (oP [m1 25 7,o1 26 (.call 261 [.t 25,.c (.s [])]),m1 27 7,nL 28 27,m1 29 4,nL 30 29,bT 31 .eql 28 30,m1 2 26,m1 3 31] [2,3])) .ret)
def dT:IC:=oS [mC 2 (.s []),mC 3 (.b false)] [0] (oS [mC 4 .nil] [0,4] (sQ (oS [m1 8 0,nL 9 8,mZ 10 0] [4,8,9,10] (.block 0 (.loop jV))) (oS [m1 20 4,o1 21 (.calls 83 [.t 20])] [4] XW)))
@[push_cast]def Aq6:List R:=[.t 2,.t 3]
@[push_cast]def AuK:=Ar WR.eq_1<|Ar jV.eq_1<|Ar XW.eq_1<|AM dT.eq_1
theorem Aht:Au Tryz.prog 313 32 dT Aq6=true:=by kernel_rfl
def WO:IC:=oS [m1 40 7,q1 41 313 40,m1 39 41,xT 42 39 0,xT 43 39 1,m1 11 42,m1 12 43] [9,11,12] (oR [m1 44 12,m1 45 44,BL 46 45 9,BL 47 45 11,gT 48 45 (.bin .eql (.t 46) (.t 47)),pA 49 45 48,m1 4 49] [4])
def fX:IC:=sQ (oS [m1 23 6,bZ 24 .neq 23 0,m1 25 24,BI 26 25 8,gF 27 25 (.not (.t 26)),pO 28 25 27,m1 29 28,BI 30 29 7,gF 31 29 (.lenL (.t 30)),EI 32 29 .eql 31 0,pO 33 29 32] [5,7,33] (cD 33 (oR [mC 4 (.b false)] [4]) .skip)) (oS [m1 35 5,q1 36 313 35,m1 34 36,xT 37 34 0,xT 38 34 1,m1 9 37,m1 10 38] [7,9] WO)
def m3:IC:=oS [m1 14 0,q1 15 311 14,m1 13 15,xT 16 13 0,xT 17 13 1,m1 5 16,m1 6 17] [1,5,6] (oS [m1 19 1,q1 20 312 19,m1 18 20,xT 21 18 0,xT 22 18 1,m1 7 21,m1 8 22] [5,6,7,8] fX)
def dX:IC:=oS [mC 4 (.b false)] [0,1] m3
@[push_cast]def AnW:List R:=[.t 4]
@[push_cast]def Aut:=Ar WO.eq_1<|Ar fX.eq_1<|Ar m3.eq_1<|AM dX.eq_1
theorem Qt:Au Tryz.prog 277 50 dX AnW=true:=by kernel_rfl
def VZ:IC:=sQ (oS [m1 21 0,m1 22 6,q2 23 269 21 22,bZ 24 .neq 23 1] [0,6,13,14,24] (cD 24 (oR [mC 4 (.b false)] [4]) .skip)) (oP [m1 25 0,m1 26 6,o1 27 (.call 213 [.t 25,.t 26,.c (.s [0]),ci 1]),m1 0 27] [0,13,14])
def Vj:IC:=sQ (.block 1 (oS [m1 16 14,m1 5 16] [0,5,13,14] (oS [m1 17 5,q1 18 221 17,o1 19 (.bin .add (.c (.s [123])) (.t 18)),bC 20 .add 19 (.s [125]),m1 6 20] [0,6,13,14] VZ))) (oP [bZ 28 .add 14 1,m1 14 28] [0,13,14])
def cO:IC:=sQ (oS [m1 13 1,mZ 14 0] [0,13,14] (.block 0 (.loop (oS [bT 15 .lss 14 13] [0,13,14,15] (sQ (cD 15 .skip (.exit 0)) Vj))))) (oR [m1 29 0,o1 30 (.call 270 [.t 29,.c (.s [123,125])]),nT 31 30,m1 4 31] [4])
def sF:IC:=oS [mC 4 (.b false)] [0,1] (sQ (oS [m1 7 1,bZ 8 .lss 7 1,m1 9 8,BI 10 9 1,EI 11 9 .gtr 10 9,pO 12 9 11] [0,1,12] (cD 12 (oR [mC 4 (.b false)] [4]) .skip)) cO)
@[push_cast]def AnZ:List R:=[.t 4]
@[push_cast]def Aua:=Ar VZ.eq_1<|Ar Vj.eq_1<|Ar cO.eq_1<|AM sF.eq_1
theorem AjI:Au Tryz.prog 212 32 sF AnZ=true:=by kernel_rfl
def mL:IC:=oR [m1 3 0,bZ 4 .rem 3 4,bZ 5 .eql 4 0,m1 6 5,BL 7 6 0,Fz 8 6 .rem 7 100,Fz 9 6 .neq 8 0,pA 10 6 9,m1 11 10,BI 12 11 0,EI 13 11 .rem 12 400,EI 14 11 .eql 13 0,pO 15 11 14,m1 2 15] [2]
def rZ:IC:=oS [mC 2 (.b false)] [0] mL
@[push_cast]def AlA:List R:=[.t 2]
@[push_cast]def AuR:=Ar mL.eq_1<|AM rZ.eq_1
theorem Ahi:Au Tryz.prog 310 16 rZ AlA=true:=by kernel_rfl
def kT:IC:=oR [o1 11 (.build [.i .i64 0,.i .i64 0,.i .i64 0,.i .i64 0,.i .i64 0,.i .i64 0,.i .i64 0,.i .i64 0,.i .i64 0,.i .i64 0,.i .i64 0,.i .i64 0] [(0,1,ci 31),(1,1,ci 28),(2,1,ci 31),(3,1,ci 30),(4,1,ci 31),(5,1,ci 30),(6,1,ci 31),(7,1,ci 31),(8,1,ci 30),(9,1,ci 31),(10,1,ci 30),(11,1,ci 31)]),m1 12 1,bZ 13 .sub 12 1,o1 14 (.pu (.aget 12 1 false) [.t 11,.t 13]),m1 4 14] [4]
def mI:IC:=oS [mZ 4 0] [0,1] (sQ (oS [m1 5 1,bZ 6 .eql 5 2,m1 7 6,BL 8 7 0,gT 9 7 (.call 310 [.t 8]),pA 10 7 9] [1,10] (cD 10 (oR [mZ 4 29] [4]) .skip)) kT)
@[push_cast]def ApU:List R:=[.t 4]
@[push_cast]def Avs:=Ar kT.eq_1<|AM mI.eq_1
theorem Ajc:Au Tryz.prog 274 15 mI ApU=true:=by kernel_rfl
def o9:IC:=oS [mZ 2 0] [0] (sQ (oS [m1 3 0,q1 4 310 3] [4] (cD 4 (oR [mZ 2 366] [2]) .skip)) (oR [mZ 2 365] [2]))
@[push_cast]def Amt:List R:=[.t 2]
@[push_cast]def Avu:=AM o9.eq_1
theorem Aki:Au Tryz.prog 273 5 o9 Amt=true:=by kernel_rfl
def XY:IC:=sQ (oS [m1 14 4,m1 15 2,q1 16 273 15,bT 17 .geq 14 16] [2,3,4,17] (cD 17 .skip (.exit 0))) (.block 1 (oS [m1 18 4,m1 19 2,q1 20 273 19,bT 21 .sub 18 20,m1 4 21] [2,3,4] (oP [m1 22 2,bZ 23 .add 22 1,m1 2 23] [2,3,4])))
def Ys:IC:=sQ (oS [m1 24 4,m1 25 2,m1 26 3,q2 27 274 25 26,bT 28 .geq 24 27] [2,3,4,28] (cD 28 .skip (.exit 2))) (.block 3 (oS [m1 29 4,m1 30 2,m1 31 3,q2 32 274 30 31,bT 33 .sub 29 32,m1 4 33] [2,3,4] (oP [m1 34 3,bZ 35 .add 34 1,m1 3 35] [2,3,4])))
def iH:IC:=oS [m1 12 0,bZ 13 .sub 12 (-25567),mZ 2 1900,mZ 3 1,m1 4 13] [2,3,4] (sQ (.block 0 (.loop XY)) (sQ (.block 2 (.loop Ys)) (oR [m1 36 2,m1 37 3,m1 38 4,bZ 39 .add 38 1,m1 2 36,m1 3 37,m1 4 39,mZ 5 0] [2,3,4,5])))
def lT:IC:=sQ (oS [m1 6 0,bZ 7 .lss 6 (-25567),m1 8 7,BI 9 8 0,EI 10 8 .gtr 9 84005,pO 11 8 10] [0,11] (cD 11 (oR [mZ 2 0,mZ 3 0,mZ 4 0,mZ 5 2] [2,3,4,5]) .skip)) iH
def cG:IC:=oS [mZ 2 0,mZ 3 0,mZ 4 0,mZ 5 0] [0] lT
@[push_cast]def App:List R:=[.t 2,.t 3,.t 4,.t 5]
@[push_cast]def Avn:=Ar XY.eq_1<|Ar Ys.eq_1<|Ar iH.eq_1<|Ar lT.eq_1<|AM cG.eq_1
theorem tJ:Au Tryz.prog 214 40 cG App=true:=by kernel_rfl
def fI:IC:=sQ (oS [m1 4 0,bZ 5 .lss 4 (-25567),m1 6 5,BI 7 6 0,EI 8 6 .gtr 7 84005,pO 9 6 8] [0,9] (cD 9 (oR [mZ 2 0,mZ 3 2] [2,3]) .skip)) (oR [m1 10 0,bZ 11 .sub 10 (-25567),bZ 12 .rem 11 7,m1 2 12,mZ 3 0] [2,3])
def rG:IC:=oS [mZ 2 0,mZ 3 0] [0] fI
@[push_cast]def Ami:List R:=[.t 2,.t 3]
@[push_cast]def AtZ:=Ar fI.eq_1<|AM rG.eq_1
theorem Ajq:Au Tryz.prog 217 13 rG Ami=true:=by kernel_rfl
def cK:IC:=sQ (oS [m1 3 0,bZ 4 .lss 3 10] [0,4] (cD 4 (oR [m1 5 0,q1 6 221 5,o1 7 (.bin .add (.c (.s [48])) (.t 6)),m1 2 7] [2]) .skip)) (oR [m1 8 0,q1 9 221 8,m1 2 9] [2])
def cH:IC:=oS [mC 2 (.s [])] [0] cK
@[push_cast]def ApK:List R:=[.t 2]
@[push_cast]def Avr:=Ar cK.eq_1<|AM cH.eq_1
theorem AhI:Au Tryz.prog 222 10 cH ApK=true:=by kernel_rfl
def Xe:IC:=oR [m1 16 3,q1 17 221 16,bC 18 .add 17 (.s [45]),m1 19 4,q1 20 222 19,bT 21 .add 18 20,bC 22 .add 21 (.s [45]),m1 23 5,q1 24 222 23,bT 25 .add 22 24,m1 2 25] [2]
def vV:IC:=oS [m1 8 0,q1 9 214 8,m1 7 9,xT 10 7 0,xT 11 7 1,xT 12 7 2,xT 13 7 3,m1 3 10,m1 4 11,m1 5 12,m1 6 13] [3,4,5,6] (sQ (oS [m1 14 6,bZ 15 .neq 14 0] [3,4,5,15] (cD 15 (oR [mC 2 (.s [])] [2]) .skip)) Xe)
def xC:IC:=oS [mC 2 (.s [])] [0] vV
@[push_cast]def AmD:List R:=[.t 2]
@[push_cast]def AuD:=Ar Xe.eq_1<|Ar vV.eq_1<|AM xC.eq_1
theorem vS:Au Tryz.prog 160 26 xC AmD=true:=by kernel_rfl
def XK:IC:=sQ (.block 1 (oS [iA 21 17 19 9 1,l1 22 21,m1 8 22] [6,8,17,18,19] (oP [m1 23 6,m1 24 8,o1 25 (.slS (.t 24) none (some (ci 1))),m1 26 8,nS 27 26,o0 (.wrm (.mput .str) (.t 23) [.t 25,.t 27])] [6,17,18,19]))) (oP [bZ 28 .add 19 1,m1 19 28] [6,17,18,19])
def Wi:IC:=sQ (oS [m1 17 4,nL 18 17,mZ 19 0] [6,17,18,19] (.block 0 (.loop (oS [bT 20 .lss 19 18] [6,17,18,19,20] (sQ (cD 20 .skip (.exit 0)) XK))))) (oR [m1 29 6,m1 2 29,mC 3 (.b true)] [2,3])
def pN:IC:=sQ (oS [m1 14 5,bZ 15 .neq 14 0] [4,15] (cD 15 (oR [mC 2 .nm,mC 3 (.b false)] [2,3]) .skip)) (oS [o1 16 (.mkm .mkmap []),m1 6 16] [4,6] Wi)
def vC:IC:=oS [mC 2 .nm,mC 3 (.b false)] [0] (oS [m1 10 0,q1 11 311 10,m1 9 11,xT 12 9 0,xT 13 9 1,m1 4 12,m1 5 13] [4,5] pN)
@[push_cast]def Aq1:List R:=[.t 2,.t 3]
@[push_cast]def Av7:=Ar XK.eq_1<|Ar Wi.eq_1<|Ar pN.eq_1<|AM vC.eq_1
theorem l6:Au Tryz.prog 275 30 vC Aq1=true:=by kernel_rfl
def Xm:IC:=oP [m1 26 6,m1 27 8,m1 28 9,bT 29 .sub 27 28,m1 30 9,m1 31 8,bT 32 .sub 30 31,o1 33 (.mx false (.t 29) [.t 32]),bT 34 .add 26 33,m1 6 34] [0,1,6,12]
def Wa:IC:=oS [m1 19 1,m1 20 7,o1 21 (.rdm (.mget .str (.i .i64 0) true) (.t 19) [.t 20]),m1 18 21,xT 22 18 0,xT 23 18 1,m1 9 22,m1 10 23] [0,1,6,8,9,10,12] (sQ (oS [m1 24 10,nT 25 24] [0,1,6,8,9,12,25] (cD 25 (oR [mZ 4 0,mC 5 (.b false)] [4,5]) .skip)) Xm)
def kI:IC:=sQ (.mnext 13 14 (.t 12) [0,1,6,12,14]) (sQ (cD 14 .skip (.exit 0)) (.block 1 (oS [o1 15 (.mentry (.t 12)),xT 16 15 0,xT 17 15 1,m1 7 16,m1 8 17] [0,1,6,7,8,12] Wa)))
def tX:IC:=sQ (oS [m1 11 0,o1 12 (.mrange (.t 11))] [0,1,6,12] (.block 0 (.loop kI))) (oR [m1 35 6,m1 36 0,o1 37 (.rdm .mlen (.t 36) []),m1 38 1,o1 39 (.rdm .mlen (.t 38) []),bT 40 .eql 37 39,m1 4 35,m1 5 40] [4,5])
def nR:IC:=oS [mZ 4 0,mC 5 (.b false)] [0,1] (oS [mZ 6 0] [0,1,6] tX)
@[push_cast]def AoY:List R:=[.t 4,.t 5]
@[push_cast]def Avg:=Ar Xm.eq_1<|Ar Wa.eq_1<|Ar kI.eq_1<|Ar tX.eq_1<|AM nR.eq_1
theorem Ahd:Au Tryz.prog 276 41 nR AoY=true:=by kernel_rfl
def Yf:IC:=oS [m1 44 15,m1 45 44,BL 46 45 8,Fz 47 45 .lss 46 0,BL 48 45 47,BI 49 48 14,BI 50 48 9,gF 51 48 (.bin .lss (.t 49) (.t 50)),gT 52 45 (.pick (.t 48) (.c (.b true)) (.t 51)),pA 53 45 52] [6,8,9,10,14,23,24,25,53] (cD 53 (oP [m1 54 10,m1 55 14,m1 8 54,m1 9 55] [6,8,9,23,24,25]) .skip)
def Vw:IC:=sQ (oS [m1 36 13,nT 37 36] [6,8,9,10,12,23,24,25,37] (cD 37 (.exit 1) .skip)) (oS [m1 39 6,m1 40 12,o1 41 (.callr 276 [.t 39,.t 40]),m1 38 41,xT 42 38 0,xT 43 38 1,m1 14 42,m1 15 43] [6,8,9,10,14,15,23,24,25] Yf)
def Xp:IC:=sQ (.opx [fA 31 11 0,l1 32 31] [6,8,9,10,23,24,25,32] 33 275 [.t 32] [m1 30 33,xT 34 30 0,xT 35 30 1,m1 12 34,m1 13 35] [6,8,9,10,12,13,23,24,25]) Vw
def VS:IC:=sQ (.block 1 (oS [m1 27 25,iA 28 23 25 182 2,lA 29 28 2,o1 11 (.alloc (.agg [.s [],.s []])),m1 10 27,sT 11 29 2] [6,8,9,10,11,23,24,25] Xp)) (oP [bZ 56 .add 25 1,m1 25 56] [6,8,9,23,24,25])
def Vy:IC:=sQ (oS [m1 23 0,nL 24 23,mZ 25 0] [6,8,9,23,24,25] (.block 0 (.loop (oS [bT 26 .lss 25 24] [6,8,9,23,24,25,26] (sQ (cD 26 .skip (.exit 0)) VS))))) (sQ (oS [m1 57 8,bZ 58 .lss 57 0] [8,58] (cD 58 (oR [mZ 4 0,mZ 5 8] [4,5]) .skip)) (oR [m1 59 8,m1 4 59,mZ 5 0] [4,5]))
def lX:IC:=sQ (.opx [m1 17 1] [0,17] 18 275 [.t 17] [m1 16 18,xT 19 16 0,xT 20 16 1,m1 6 19,m1 7 20] [0,6,7]) (sQ (oS [m1 21 7,nT 22 21] [0,6,22] (cD 22 (oR [mZ 4 0,mZ 5 3] [4,5]) .skip)) (oS [mZ 8 (-1),mZ 9 0] [0,6,8,9] Vy))
def oN:IC:=oS [mZ 4 0,mZ 5 0] [0,1] lX
@[push_cast]def Al6:List R:=[.t 4,.t 5]
@[push_cast]def Auv:=Ar Yf.eq_1<|Ar Vw.eq_1<|Ar Xp.eq_1<|Ar VS.eq_1<|Ar Vy.eq_1<|Ar lX.eq_1<|AM oN.eq_1
theorem sK:Au Tryz.prog 215 60 oN Al6=true:=by kernel_rfl
def mR:IC:=oR [m1 3 0,bC 4 .geq 3 (.i .u8 65),m1 5 4,BL 6 5 0,gT 7 5 (.bin .leq (.t 6) (.c (.i .u8 90))),pA 8 5 7,m1 9 8,BI 10 9 0,gF 11 9 (.bin .geq (.t 10) (.c (.i .u8 97))),BI 12 9 11,BL 13 12 0,gT 14 12 (.bin .leq (.t 13) (.c (.i .u8 122))),gF 15 9 (.pick (.t 12) (.t 14) (.c (.b false))),pO 16 9 15,m1 2 16] [2]
def eD:IC:=oS [mC 2 (.b false)] [0] mR
@[push_cast]def AnC:List R:=[.t 2]
@[push_cast]def AuL:=Ar mR.eq_1<|AM eD.eq_1
theorem Aig:Au Tryz.prog 278 17 eD AnC=true:=by kernel_rfl
def Yc:IC:=oS [m1 35 4,m1 36 6,bT 37 .add 35 36,m1 38 8,bT 39 .add 37 38,m1 40 10,bT 41 .add 39 40,m1 42 0,q2 43 277 41 42] [0,4,6,8,11,12,13,17,18,19,23,24,25,29,30,31,43] (cD 43 (oR [mC 2 (.b true)] [2]) .skip)
def V2:IC:=sQ (.block 7 (oS [iA 33 29 31 9 1,l1 34 33,m1 10 34] [0,4,6,8,10,11,12,13,17,18,19,23,24,25,29,30,31] Yc)) (oP [bZ 44 .add 31 1,m1 31 44] [0,4,6,8,11,12,13,17,18,19,23,24,25,29,30,31])
def Wc:IC:=oS [o1 29 (.msl false 9 1 [.c (.s []),.c (.s [100])]),nL 30 29,mZ 31 0] [0,4,6,8,11,12,13,17,18,19,23,24,25,29,30,31] (.block 6 (.loop (oS [bT 32 .lss 31 30] [0,4,6,8,11,12,13,17,18,19,23,24,25,29,30,31,32] (sQ (cD 32 .skip (.exit 6)) V2))))
def VE:IC:=sQ (.block 5 (oS [iA 27 23 25 9 1,l1 28 27,m1 8 28] [0,4,6,8,11,12,13,17,18,19,23,24,25] Wc)) (oP [bZ 45 .add 25 1,m1 25 45] [0,4,6,11,12,13,17,18,19,23,24,25])
def X2:IC:=oS [o1 23 (.msl false 9 1 [.c (.s []),.c (.s [69])]),nL 24 23,mZ 25 0] [0,4,6,11,12,13,17,18,19,23,24,25] (.block 4 (.loop (oS [bT 26 .lss 25 24] [0,4,6,11,12,13,17,18,19,23,24,25,26] (sQ (cD 26 .skip (.exit 4)) VE))))
def W9:IC:=sQ (.block 3 (oS [iA 21 17 19 9 1,l1 22 21,m1 6 22] [0,4,6,11,12,13,17,18,19] X2)) (oP [bZ 46 .add 19 1,m1 19 46] [0,4,11,12,13,17,18,19])
def Wm:IC:=oS [o1 17 (.msl false 9 1 [.c (.s []),.c (.s [77])]),nL 18 17,mZ 19 0] [0,4,11,12,13,17,18,19] (.block 2 (.loop (oS [bT 20 .lss 19 18] [0,4,11,12,13,17,18,19,20] (sQ (cD 20 .skip (.exit 2)) W9))))
def jP:IC:=oS [bT 14 .lss 13 12] [0,11,12,13,14] (sQ (cD 14 .skip (.exit 0)) (sQ (.block 1 (oS [iA 15 11 13 9 1,l1 16 15,m1 4 16] [0,4,11,12,13] Wm)) (oP [bZ 47 .add 13 1,m1 13 47] [0,11,12,13])))
def pT:IC:=sQ (oS [o1 11 (.msl false 9 1 [.c (.s []),.c (.s [121])]),nL 12 11,mZ 13 0] [0,11,12,13] (.block 0 (.loop jP))) (oR [mC 2 (.b false)] [2])
def jK:IC:=oS [mC 2 (.b false)] [0] pT
@[push_cast]def Apm:List R:=[.t 2]
@[push_cast]def AvB:=Ar Yc.eq_1<|Ar V2.eq_1<|Ar Wc.eq_1<|Ar VE.eq_1<|Ar X2.eq_1<|Ar W9.eq_1<|Ar Wm.eq_1<|Ar jP.eq_1<|Ar pT.eq_1<|AM jK.eq_1
theorem Akf:Au Tryz.prog 216 48 jK Apm=true:=by kernel_rfl
def Y0:IC:=sQ (oS [fA 24 2 0,fA 25 24 14,l1 26 25,nL 27 26,bZ 28 .neq 27 12] [2,28] (cD 28 (oR [mC 4 (.s []),mZ 5 18] [4,5]) .skip)) (oR [fA 29 2 0,fA 30 29 14,l1 31 30,fA 32 2 17,l1 33 32,bZ 34 .sub 33 1,iA 35 31 34 9 1,l1 36 35,m1 4 36,mZ 5 0] [4,5])
def UV:IC:=sQ (oS [fA 39 2 0,fA 40 39 15,l1 41 40,nL 42 41,bZ 43 .neq 42 7] [2,43] (cD 43 (oR [mC 4 (.s []),mZ 5 18] [4,5]) .skip)) (oR [fA 44 2 0,fA 45 44 15,l1 46 45,fA 47 2 19,l1 48 47,iA 49 46 48 9 1,l1 50 49,m1 4 50,mZ 5 0] [4,5])
def Vk:IC:=oS [bC 38 .eql 6 (.s [69]),m1 37 38] [2,6,37] (cD 37 UV (oS [bC 52 .eql 6 (.s [100]),m1 51 52] [2,51] (cD 51 (oR [fA 53 2 18,l1 54 53,q1 55 221 54,m1 4 55,mZ 5 0] [4,5]) .skip)))
def X7:IC:=oS [bC 18 .eql 6 (.s [77,77]),m1 17 18] [2,6,17] (cD 17 (oR [fA 19 2 17,l1 20 19,q1 21 222 20,m1 4 21,mZ 5 0] [4,5]) (oS [bC 23 .eql 6 (.s [77,77,77]),m1 22 23] [2,6,22] (cD 22 Y0 Vk)))
def gU:IC:=.block 0 (oS [bC 8 .eql 6 (.s [121]),m1 7 8] [2,6,7] (cD 7 (oR [fA 9 2 16,l1 10 9,q1 11 221 10,m1 4 11,mZ 5 0] [4,5]) (oS [bC 13 .eql 6 (.s [77]),m1 12 13] [2,6,12] (cD 12 (oR [fA 14 2 17,l1 15 14,q1 16 221 15,m1 4 16,mZ 5 0] [4,5]) X7))))
def fZ:IC:=oS [bX 2 0,mC 4 (.s []),mZ 5 0] [1,2] (sQ (oS [m1 6 1] [2,6] gU) (oR [fA 56 2 18,l1 57 56,q1 58 222 57,m1 4 58,mZ 5 0] [4,5]))
@[push_cast]def AlE:List R:=[.t 4,.t 5]
@[push_cast]def Aui:=Ar Y0.eq_1<|Ar UV.eq_1<|Ar Vk.eq_1<|Ar X7.eq_1<|Ar gU.eq_1<|AM fZ.eq_1
theorem Ak6:Au Tryz.prog 279 59 fZ AlE=true:=by kernel_rfl
def PT:IC:=sQ (oS [m1 12 7,m1 13 1,nS 14 13,bT 15 .lss 12 14,m1 16 15,BL 17 16 1,BL 18 16 7,gT 19 16 (.idx (.t 17) (.t 18)),gT 20 16 (.call 278 [.t 19]),pA 21 16 20] [1,2,6,7,21] (cD 21 .skip (.exit 2))) (.block 3 (oP [m1 22 7,bZ 23 .add 22 1,m1 7 23] [1,2,6,7]))
def Xn:IC:=sQ (.opx [m1 26 1,o1 27 (.idx (.t 26) (ci 0))] [1,2,6,27] 28 187 [.t 6,.t 27] [] [1,2,6]) (oS [m1 29 1,o1 30 (.slS (.t 29) (some (ci 1)) none),m1 1 30] [1,2,6] (.exit 1))
def Yt:IC:=sQ (.opx [m1 42 8] [1,2,6,7,42] 43 124 [.t 6,.t 42] [] [1,2,6,7]) (oP [m1 44 1,m1 45 7,o1 46 (.slS (.t 44) (some (.t 45)) none),m1 1 46] [1,2,6])
def Xc:IC:=sQ (.ops [lA 32 2 20,m1 33 1,m1 34 7,o1 35 (.slS (.t 33) none (some (.t 34))),q2 36 279 32 35,m1 31 36,xT 37 31 0,xT 38 31 1,m1 8 37,m1 9 38] [1,2,6,7,8,9] [[1,3],[2,3],[0,4],[3,4],[4,5],[5,6],[5,7],[6,8],[7,9]]) (sQ (oS [m1 39 9,bZ 40 .neq 39 0] [1,2,6,7,8,9,40] (cD 40 (oR [m1 41 9,mC 4 (.s []),m1 5 41] [4,5]) .skip)) Yt)
def XT:IC:=.block 1 (oS [mZ 7 0] [1,2,6,7] (sQ (.block 2 (.loop PT)) (sQ (oS [m1 24 7,bZ 25 .eql 24 0] [1,2,6,7,25] (cD 25 Xn .skip)) Xc)))
def kB:IC:=sQ (.block 0 (.loop (sQ (oS [m1 10 1,bC 11 .neq 10 (.s [])] [1,2,6,11] (cD 11 .skip (.exit 0))) XT))) (oR [o1 47 (.calls 45 [.t 6]),m1 4 47,mZ 5 0] [4,5])
def vX:IC:=oS [bX 2 0,mC 4 (.s []),mZ 5 0] [1,2] (oS [o1 6 (.mkm (.tnew 98 (.agg [.np,.nil])) [])] [1,2,6] kB)
@[push_cast]def AnI:List R:=[.t 4,.t 5]
@[push_cast]def Au4:=Ar PT.eq_1<|Ar Xn.eq_1<|Ar Yt.eq_1<|Ar Xc.eq_1<|Ar XT.eq_1<|Ar kB.eq_1<|AM vX.eq_1
theorem Ai9:Au Tryz.prog 218 48 vX AnI=true:=by kernel_rfl
def XP:IC:=oS [fA 40 3 13,l1 41 40,m1 42 12,iA 43 41 42 182 2,fA 44 43 1,l1 45 44,q1 46 216 45,nT 47 46,m1 39 47] [2,3,8,9,10,12,39] (cD 39 (oR [mC 6 (.s []),mZ 7 4] [6,7]) .skip)
def Xw:IC:=cD 32 (oR [mC 6 (.s []),mZ 7 18] [6,7]) (oS [m1 36 11,bZ 37 .neq 36 0,m1 35 37] [2,3,8,9,10,11,12,35] (cD 35 (oR [m1 38 11,mC 6 (.s []),m1 7 38] [6,7]) XP))
def WK:IC:=sQ (.ops [lA 53 3 16,m1 54 8,m1 55 9,m1 56 10,m1 57 13,o1 58 (.build [.s [],.s [],.s [],.nil,.nil,.s [],.s [],.s [],.s [],.i .i64 0,.i .i64 0,.nil,.nil,.nil,.nil,.nil,.i .i64 0,.i .i64 0,.i .i64 0,.i .i64 0] [(0,16,.t 53),(16,1,.t 54),(17,1,.t 55),(18,1,.t 56),(19,1,.t 57)]),fA 59 3 13,l1 60 59,m1 61 12,iA 62 60 61 182 2,fA 63 62 1,l1 64 63,q2 65 218 58 64,xT 66 65 0,xT 67 65 1,m1 6 66,m1 7 67] [6,7] [[0,5],[1,5],[2,5],[3,5],[4,5],[6,7],[7,9],[8,9],[9,10],[10,11],[5,12],[11,12],[12,13],[12,14],[13,15],[14,16]]) .ret
def Vq:IC:=sQ (.block 0 (oS [m1 33 11,bZ 34 .eql 33 8,m1 32 34] [2,3,8,9,10,11,12,32] Xw)) (oS [m1 49 2,q1 50 217 49,m1 48 50,xT 51 48 0,xT 52 48 1,m1 13 51,m1 14 52] [3,8,9,10,12,13] WK)
def rW:IC:=sQ (oS [m1 22 11,bZ 23 .neq 22 0] [1,2,3,8,9,10,11,23] (cD 23 (oR [m1 24 11,mC 6 (.s []),m1 7 24] [6,7]) .skip)) (oS [fA 26 3 13,l1 27 26,m1 28 1,q2 29 215 27 28,m1 25 29,xT 30 25 0,xT 31 25 1,m1 12 30,m1 11 31] [2,3,8,9,10,11,12] Vq)
def lH:IC:=oS [bX 3 0,mC 6 (.s []),mZ 7 0] [1,2,3] (oS [m1 16 2,q1 17 214 16,m1 15 17,xT 18 15 0,xT 19 15 1,xT 20 15 2,xT 21 15 3,m1 8 18,m1 9 19,m1 10 20,m1 11 21] [1,2,3,8,9,10,11] rW)
@[push_cast]def An7:List R:=[.t 6,.t 7]
@[push_cast]def AuX:=Ar XP.eq_1<|Ar Xw.eq_1<|Ar WK.eq_1<|Ar Vq.eq_1<|Ar rW.eq_1<|AM lH.eq_1
theorem MN:Au Tryz.prog 158 68 lH An7=true:=by kernel_rfl
def UY:IC:=sQ (.block 1 (oS [iA 13 9 11 178 5,lA 14 13 5,o1 7 (.alloc (.agg [.s [],.s [],.s [],.s [],.s []])),sT 7 14 5] [1,4,7,9,10,11] (oS [fA 15 7 0,l1 16 15,m1 17 1,bT 18 .eql 16 17] [1,4,7,9,10,11,18] (cD 18 (oR [lA 19 7 5,sT 4 19 5,mC 5 (.b true)] [4,5]) .skip)))) (oP [bZ 20 .add 11 1,m1 11 20] [1,4,9,10,11])
def p8:IC:=sQ (oS [fA 8 2 11,l1 9 8,nL 10 9,mZ 11 0] [1,4,9,10,11] (.block 0 (.loop (oS [bT 12 .lss 11 10] [1,4,9,10,11,12] (sQ (cD 12 .skip (.exit 0)) UY))))) (oR [o1 21 (.build [.s [],.s [],.s [],.s [],.s []] []),sT 4 21 5,mC 5 (.b false)] [4,5])
def tY:IC:=oS [bX 2 0,o1 4 (.alloc (.agg [.s [],.s [],.s [],.s [],.s []])),mC 5 (.b false)] [1,2,4] p8
@[push_cast]def AnY:List R:=[.c 4 5 true,.t 5]
@[push_cast]def Au7:=Ar UY.eq_1<|Ar p8.eq_1<|AM tY.eq_1
theorem AiF:Au Tryz.prog 219 22 tY AnY=true:=by kernel_rfl
def W8:IC:=oS [m1 39 8,o1 40 (.call 136 [.t 39,.c (.s [123,49,125])]),m1 38 40,xT 41 38 0,xT 42 38 1,xT 43 38 2,m1 13 41,m1 14 42,m1 15 43] [1,2,7,13,14] (oR [m1 44 7,m1 45 1,bT 46 .add 44 45,m1 47 13,bT 48 .add 46 47,m1 49 2,bT 50 .add 48 49,m1 51 14,bT 52 .add 50 51,m1 6 52] [6])
def iE:IC:=sQ (oS [m1 23 7,o1 24 (.call 136 [.t 23,.c (.s [123,49,125])]),m1 22 24,xT 25 22 0,xT 26 22 1,xT 27 22 2,m1 10 25,m1 11 26,m1 12 27] [1,2,7,8,10,11,12] (oS [m1 28 12] [1,2,7,8,10,11,28] (cD 28 (oR [m1 29 10,m1 30 2,bT 31 .add 29 30,m1 32 11,bT 33 .add 31 32,m1 34 1,bT 35 .add 33 34,m1 36 8,bT 37 .add 35 36,m1 6 37] [6]) .skip))) W8
def cX:IC:=oS [m1 17 0,o1 18 (.call 136 [.t 17,.c (.s [123,48,125])]),m1 16 18,xT 19 16 0,xT 20 16 1,xT 21 16 2,m1 7 19,m1 8 20,m1 9 21] [1,2,7,8] iE
def pM:IC:=oS [mC 6 (.s [])] [0,1,2] cX
@[push_cast]def AmP:List R:=[.t 6]
@[push_cast]def AuZ:=Ar W8.eq_1<|Ar iE.eq_1<|Ar cX.eq_1<|AM pM.eq_1
theorem sU:Au Tryz.prog 280 53 pM AmP=true:=by kernel_rfl
def Vm:IC:=sQ (.block 1 (oS [iA 33 29 31 9 1,l1 34 33,m1 11 34] [2,8,11,29,30,31] (oS [m1 35 11,o1 36 (.call 212 [.t 35,ci 2]),nT 37 36] [2,8,29,30,31,37] (cD 37 (oR [mC 6 (.s []),mZ 7 4] [6,7]) .skip)))) (oP [bZ 38 .add 31 1,m1 31 38] [2,8,29,30,31])
def WL:IC:=oS [lA 42 8 5,m1 43 2,q2 44 220 42 43,m1 12 44] [12] (sQ (oS [m1 45 12,nS 46 45,bZ 47 .gtr 46 20000] [12,47] (cD 47 (oR [mC 6 (.s []),mZ 7 6] [6,7]) .skip)) (oR [m1 48 12,m1 6 48,mZ 7 0] [6,7]))
def WZ:IC:=sQ (oS [fA 21 8 1,l1 22 21,fA 23 8 2,l1 24 23,fA 25 8 3,l1 26 25,fA 27 8 4,l1 28 27,o1 29 (.msl false 9 1 [.t 22,.t 24,.t 26,.t 28]),nL 30 29,mZ 31 0] [2,8,29,30,31] (.block 0 (.loop (oS [bT 32 .lss 31 30] [2,8,29,30,31,32] (sQ (cD 32 .skip (.exit 0)) Vm))))) (sQ (oS [m1 39 2,nL 40 39,bZ 41 .gtr 40 1000] [2,8,41] (cD 41 (oR [mC 6 (.s []),mZ 7 6] [6,7]) .skip)) WL)
def eQ:IC:=oS [lA 14 3 16,m1 15 1,q2 16 219 14 15,m1 13 16,xT 17 13 0,xT 18 13 1,o1 8 (.alloc (.agg [.s [],.s [],.s [],.s [],.s []])),sT 8 17 5,m1 9 18] [2,8,9] (sQ (oS [m1 19 9,nT 20 19] [2,8,20] (cD 20 (oR [mC 6 (.s []),mZ 7 18] [6,7]) .skip)) WZ)
def l7:IC:=oS [bX 3 0,mC 6 (.s []),mZ 7 0] [1,2,3] eQ
@[push_cast]def AmV:List R:=[.t 6,.t 7]
@[push_cast]def AuO:=Ar Vm.eq_1<|Ar WL.eq_1<|Ar WZ.eq_1<|Ar eQ.eq_1<|AM l7.eq_1
theorem jD:Au Tryz.prog 159 49 l7 AmV=true:=by kernel_rfl
def Xx:IC:=oS [m1 28 8,nT 29 28] [3,5,6,11,12,13,29] (cD 29 (oP [m1 30 3,lA 31 6 2,fA 32 5 2,l1 33 32,o0 (.wrm (.mput (.st [(0,.str),(1,.str)])) (.t 30) [.t 31,.t 33])] [3,11,12,13]) .skip)
def V5:IC:=oS [m1 23 3,lA 24 6 2,o1 25 (.rdm (.mget (.st [(0,.str),(1,.str)]) (.s []) true) (.t 23) [.t 24]),m1 22 25,xT 26 22 0,xT 27 22 1,m1 7 26,m1 8 27] [3,5,6,8,11,12,13] Xx
def VW:IC:=oS [fA 17 5 0,l1 18 17,fA 19 5 1,l1 20 19,o1 21 (.build [.s [],.s []] [(0,1,.t 18),(1,1,.t 20)]),o1 6 (.alloc (.agg [.s [],.s []])),sT 6 21 2] [3,5,6,11,12,13] V5
def X5:IC:=sQ (.block 1 (oS [iA 15 11 13 180 3,lA 16 15 3,o1 5 (.alloc (.agg [.s [],.s [],.s []])),sT 5 16 3] [3,5,11,12,13] VW)) (oP [bZ 34 .add 13 1,m1 13 34] [3,11,12,13])
def vN:IC:=sQ (oS [fA 10 1 12,l1 11 10,nL 12 11,mZ 13 0] [3,11,12,13] (.block 0 (.loop (oS [bT 14 .lss 13 12] [3,11,12,13,14] (sQ (cD 14 .skip (.exit 0)) X5))))) (oR [m1 35 3,m1 2 35] [2])
def uU:IC:=oS [bX 1 0,mC 2 .nm] [1] (oS [o1 9 (.mkm .mkmap []),m1 3 9] [1,3] vN)
@[push_cast]def Aow:List R:=[.t 2]
@[push_cast]def AuM:=Ar Xx.eq_1<|Ar V5.eq_1<|Ar VW.eq_1<|Ar X5.eq_1<|Ar vN.eq_1<|AM uU.eq_1
theorem AjS:Au Tryz.prog 268 36 uU Aow=true:=by kernel_rfl
def VL:IC:=oS [m1 26 8,m1 27 1,o1 28 (.build [.s [],.s []] [(0,1,.t 27),(1,1,.c (.s [111,116,104,101,114]))]),o1 29 (.rdm (.mget (.st [(0,.str),(1,.str)]) (.s []) true) (.t 26) [.t 28]),m1 25 29,xT 30 25 0,xT 31 25 1,m1 11 30,m1 12 31] [11,12] (oR [m1 32 11,m1 33 12,m1 6 32,m1 7 33] [6,7])
def iQ:IC:=sQ (oS [m1 16 8,m1 17 1,m1 18 2,o1 19 (.build [.s [],.s []] [(0,1,.t 17),(1,1,.t 18)]),o1 20 (.rdm (.mget (.st [(0,.str),(1,.str)]) (.s []) true) (.t 16) [.t 19]),m1 15 20,xT 21 15 0,xT 22 15 1,m1 9 21,m1 10 22] [1,8,9,10] (oS [m1 23 10] [1,8,9,23] (cD 23 (oR [m1 24 9,m1 6 24,mC 7 (.b true)] [6,7]) .skip))) VL
def mX:IC:=oS [bX 3 0,mC 6 (.s []),mC 7 (.b false)] [1,2,3] (oS [lA 13 3 16,o1 14 (.calln 268 [.t 13]),m1 8 14] [1,2,8] iQ)
@[push_cast]def Amx:List R:=[.t 6,.t 7]
@[push_cast]def AuI:=Ar VL.eq_1<|Ar iQ.eq_1<|AM mX.eq_1
theorem Aju:Au Tryz.prog 211 34 mX Amx=true:=by kernel_rfl
def Yu:IC:=cD 30 (oR [mC 6 (.s []),mZ 7 18] [6,7]) (oS [m1 34 10,o1 35 (.call 212 [.t 34,ci 1]),nT 36 35,m1 33 36] [2,3,10,33] (cD 33 (oR [mC 6 (.s []),mZ 7 4] [6,7]) .skip))
def WD:IC:=sQ (oS [m1 43 9,bZ 44 .neq 43 0] [9,10,12,44] (cD 44 (oR [m1 45 9,mC 6 (.s []),m1 7 45] [6,7]) .skip)) (oR [m1 46 10,m1 47 12,o1 48 (.call 213 [.t 46,.c (.s [123,48,125]),.t 47,ci 1]),m1 6 48,mZ 7 0] [6,7])
def Vt:IC:=sQ (.block 0 (oS [m1 31 11,nT 32 31,m1 30 32] [2,3,10,30] Yu)) (oS [lA 38 3 16,m1 39 2,o1 40 (.call 105 [.t 38,.t 39,.c (.s [])]),m1 37 40,xT 41 37 0,xT 42 37 1,m1 12 41,m1 9 42] [9,10,12] WD)
def r5:IC:=sQ (oS [m1 20 9,bZ 21 .neq 20 0] [1,2,3,8,9,21] (cD 21 (oR [m1 22 9,mC 6 (.s []),m1 7 22] [6,7]) .skip)) (oS [lA 24 3 16,m1 25 1,m1 26 8,q3 27 211 24 25 26,m1 23 27,xT 28 23 0,xT 29 23 1,m1 10 28,m1 11 29] [2,3,10,11] Vt)
def dM:IC:=oS [bX 3 0,mC 6 (.s []),mZ 7 0] [1,2,3] (oS [fA 14 3 3,l1 15 14,m1 16 2,q2 17 210 15 16,m1 13 17,xT 18 13 0,xT 19 13 1,m1 8 18,m1 9 19] [1,2,3,8,9] r5)
@[push_cast]def Aq0:List R:=[.t 6,.t 7]
@[push_cast]def Avk:=Ar Yu.eq_1<|Ar WD.eq_1<|Ar Vt.eq_1<|Ar r5.eq_1<|AM dM.eq_1
theorem Nl:Au Tryz.prog 157 49 dM Aq0=true:=by kernel_rfl
def vY:IC:=oR [m1 3 0,bZ 4 .geq 3 0,m1 5 4,BL 6 5 0,Fz 7 5 .leq 6 1114111,pA 8 5 7,m1 9 8,BL 10 9 0,Fz 11 9 .lss 10 55296,BL 12 9 11,BI 13 12 0,EI 14 12 .gtr 13 57343,gT 15 9 (.pick (.t 12) (.c (.b true)) (.t 14)),pA 16 9 15,m1 2 16] [2]
def fY:IC:=oS [mC 2 (.b false)] [0] vY
@[push_cast]def AmW:List R:=[.t 2]
@[push_cast]def Au6:=Ar vY.eq_1<|AM fY.eq_1
theorem Ain:Au Tryz.prog 237 17 fY AmW=true:=by kernel_rfl
def Wn:IC:=sQ (cD 9 .skip (.exit 0)) (.block 1 (oS [xT 10 8 2,m1 5 10] [3,5,7] (oP [m1 11 3,m1 12 5,o1 13 (.cvi .i64 (.t 12)),o1 14 (.msl false 3 1 [.t 13]),o1 15 (.app (.t 11) (.t 14) 3 1),m1 3 15] [3,7])))
def uE:IC:=sQ (oS [m1 6 0,o1 7 (.mkm .strit [.t 6])] [3,7] (.block 0 (.loop (oS [o1 8 (.wrm .next (.t 7) []),xT 9 8 0] [3,7,8,9] Wn)))) (sQ (.wk (oP [m1 16 3,m1 2 16] [2])) .ret)
def mU:IC:=oS [mC 2 .nil] [0] (oS [mC 3 .nil] [0,3] uE)
@[push_cast]def Aoy:List R:=[.t 2]
@[push_cast]def Av3:=Ar Wn.eq_1<|Ar uE.eq_1<|AM mU.eq_1
theorem Ai4:Au Tryz.prog 239 17 mU Aoy=true:=by kernel_rfl
def Wx:IC:=sQ (oS [m1 12 5,q1 13 237 12,nT 14 13] [3,5,6,7,8,14] (cD 14 (oP [mZ 5 65533] [3,5,6,7,8]) .skip)) (.opx [m1 15 5,o1 16 (.cvi .i32 (.t 15))] [3,6,7,8,16] 17 238 [.t 3,.t 16] [] [3,6,7,8])
def tU:IC:=oS [bT 9 .lss 8 7] [3,6,7,8,9] (sQ (cD 9 .skip (.exit 0)) (sQ (.block 1 (oS [iA 10 6 8 3 1,l1 11 10,m1 5 11] [3,5,6,7,8] Wx)) (oP [bZ 18 .add 8 1,m1 8 18] [3,6,7,8])))
def sJ:IC:=oS [mC 2 (.s [])] [0] (oS [o1 3 (.mkm (.tnew 98 (.agg [.np,.nil])) [])] [0,3] (sQ (oS [m1 6 0,nL 7 6,mZ 8 0] [3,6,7,8] (.block 0 (.loop tU))) (oR [o1 19 (.calls 45 [.t 3]),m1 2 19] [2])))
@[push_cast]def Ao1:List R:=[.t 2]
@[push_cast]def Aum:=Ar Wx.eq_1<|Ar tU.eq_1<|AM sJ.eq_1
theorem AkN:Au Tryz.prog 181 20 sJ Ao1=true:=by kernel_rfl
def cE:IC:=oS [mC 2 (.b false)] [0] (oR [m1 3 0,bZ 4 .geq 3 8294,m1 5 4,BL 6 5 0,Fz 7 5 .leq 6 8296,pA 8 5 7,m1 2 8] [2])
@[push_cast]def AmU:List R:=[.t 2]
@[push_cast]def Avx:=AM cE.eq_1
theorem AkJ:Au Tryz.prog 240 9 cE AmU=true:=by kernel_rfl
def XH:IC:=oS [m1 22 4,m1 23 8,o1 24 (.msl false 4 1 [.t 23]),o1 25 (.app (.t 22) (.t 24) 4 1),m1 4 25] [3,4,5,7,8,11,12,13] (sQ (oS [m1 26 8,nT 27 26] [3,4,5,7,11,12,13,27] (cD 27 (.exit 1) .skip)) (oP [m1 28 5,bZ 29 .add 28 1,m1 5 29] [3,4,5,7,11,12,13]))
def Vu:IC:=oS [m1 42 4,m1 43 4,nL 44 43,bZ 45 .sub 44 1,o1 46 (.slT (.t 42) (.t 45) 1),m1 4 46] [3,4,5,7,9,11,12,13] (sQ (oS [m1 47 9,nT 48 47] [3,4,5,7,11,12,13,48] (cD 48 (.exit 1) .skip)) (oP [m1 49 5,bZ 50 .sub 49 1,m1 5 50] [3,4,5,7,11,12,13]))
def WG:IC:=sQ (oS [m1 33 4,nL 34 33,bZ 35 .eql 34 0] [3,4,5,7,11,12,13,35] (cD 35 (.exit 1) .skip)) (oS [m1 36 4,m1 37 4,nL 38 37,bZ 39 .sub 38 1,iA 40 36 39 4 1,l1 41 40,m1 9 41] [3,4,5,7,9,11,12,13] Vu)
def Yx:IC:=sQ (.block 2 (oS [m1 18 7,q1 19 240 18,m1 17 19] [3,4,5,7,11,12,13,17] (cD 17 (oS [m1 20 5,bZ 21 .lss 20 8,m1 8 21] [3,4,5,7,8,11,12,13] XH) (oS [m1 31 7,bZ 32 .eql 31 8297,m1 30 32] [3,4,5,7,11,12,13,30] (cD 30 WG .skip))))) (.opx [m1 51 7,o1 52 (.msl false 3 1 [.t 51]),q1 53 181 52] [3,4,5,11,12,13,53] 54 124 [.t 3,.t 53] [] [3,4,5,11,12,13])
def XD:IC:=oS [bT 14 .lss 13 12] [3,4,5,11,12,13,14] (sQ (cD 14 .skip (.exit 0)) (sQ (.block 1 (oS [iA 15 11 13 3 1,l1 16 15,m1 7 16] [3,4,5,7,11,12,13] Yx)) (oP [bZ 55 .add 13 1,m1 13 55] [3,4,5,11,12,13])))
def V0:IC:=sQ (.block 4 (.opx [o1 59 (.msl false 3 1 [ci 8297]),q1 60 181 59] [3,56,57,60] 61 124 [.t 3,.t 60] [] [3,56,57])) (oP [bZ 62 .add 57 1,m1 57 62] [3,56,57])
def V4:IC:=sQ (oS [m1 56 5,mZ 57 0] [3,56,57] (.block 3 (.loop (oS [bT 58 .lss 57 56] [3,56,57,58] (sQ (cD 58 .skip (.exit 3)) V0))))) (oR [o1 63 (.calls 45 [.t 3]),m1 2 63] [2])
def jN:IC:=oS [mC 4 .nil] [0,3,4] (oS [mZ 5 0] [0,3,4,5] (sQ (oS [m1 10 0,q1 11 239 10,nL 12 11,mZ 13 0] [3,4,5,11,12,13] (.block 0 (.loop XD))) V4))
def sR:IC:=oS [mC 2 (.s [])] [0] (oS [o1 3 (.mkm (.tnew 98 (.agg [.np,.nil])) [])] [0,3] jN)
@[push_cast]def AlC:List R:=[.t 2]
@[push_cast]def AuY:=Ar XH.eq_1<|Ar Vu.eq_1<|Ar WG.eq_1<|Ar Yx.eq_1<|Ar XD.eq_1<|Ar V0.eq_1<|Ar V4.eq_1<|Ar jN.eq_1<|AM sR.eq_1
theorem Ahp:Au Tryz.prog 182 64 sR AlC=true:=by kernel_rfl
def jQ:IC:=oR [o1 3 (.msl false 3 1 [ci 8296]),q1 4 181 3,m1 5 0,q1 6 182 5,bT 7 .add 4 6,o1 8 (.msl false 3 1 [ci 8297]),q1 9 181 8,bT 10 .add 7 9,m1 2 10] [2]
def pD:IC:=oS [mC 2 (.s [])] [0] jQ
@[push_cast]def AlH:List R:=[.t 2]
@[push_cast]def Ave:=Ar jQ.eq_1<|AM pD.eq_1
theorem AgY:Au Tryz.prog 128 11 pD AlH=true:=by kernel_rfl
def Vl:IC:=oS [bZ 12 .eql 5 5,m1 11 12] [3,5,11] (cD 11 (oR [fA 13 3 1,l1 14 13,bZ 15 .eql 14 3,m1 4 15] [4]) (oS [bZ 17 .eql 5 6,m1 16 17] [3,16] (cD 16 (oR [fA 18 3 1,l1 19 18,bZ 20 .eql 19 4,m1 4 20] [4]) .skip)))
def cV:IC:=oS [bX 3 1,mC 4 (.b false)] [0,3] (sQ (oS [m1 5 0] [3,5] (.block 0 (oS [bZ 7 .eql 5 2,m1 6 7] [3,5,6] (cD 6 (oR [fA 8 3 1,l1 9 8,bZ 10 .neq 9 4,m1 4 10] [4]) Vl)))) (oR [fA 21 3 1,l1 22 21,bZ 23 .eql 22 2,m1 4 23] [4]))
@[push_cast]def Anx:List R:=[.t 4]
@[push_cast]def Aub:=Ar Vl.eq_1<|AM cV.eq_1
theorem Ah4:Au Tryz.prog 156 24 cV Anx=true:=by kernel_rfl
def Xk:IC:=oS [bZ 60 .eql 28 6,m1 59 60] [3,4,5,59] (cD 59 (oR [lA 61 3 16,fA 62 4 3,l1 63 62,fA 64 5 4,l1 65 64,q3 66 159 61 63 65,xT 67 66 0,xT 68 66 1,m1 6 67,m1 7 68] [6,7]) .skip)
def Wo:IC:=oS [bZ 50 .eql 28 5,m1 49 50] [3,4,5,28,49] (cD 49 (oR [lA 51 3 16,fA 52 4 3,l1 53 52,fA 54 5 3,l1 55 54,q3 56 158 51 53 55,xT 57 56 0,xT 58 56 1,m1 6 57,m1 7 58] [6,7]) Xk)
def Vc:IC:=oS [bZ 40 .eql 28 4,m1 39 40] [3,4,5,28,39] (cD 39 (oR [lA 41 3 16,fA 42 4 3,l1 43 42,fA 44 5 2,l1 45 44,q3 46 157 41 43 45,xT 47 46 0,xT 48 46 1,m1 6 47,m1 7 48] [6,7]) Wo)
def XC:IC:=.block 0 (oS [bZ 30 .eql 28 3,m1 29 30] [3,4,5,28,29] (cD 29 (oR [lA 31 3 16,fA 32 5 2,l1 33 32,fA 34 4 3,l1 35 34,q3 36 105 31 33 35,xT 37 36 0,xT 38 36 1,m1 6 37,m1 7 38] [6,7]) Vc))
def XV:IC:=oS [fA 74 5 3,l1 75 74,q1 76 160 75,m1 8 76] [8] (sQ (oS [m1 77 8,bC 78 .eql 77 (.s [])] [8,78] (cD 78 (oR [mC 6 (.s []),mZ 7 2] [6,7]) .skip)) (oR [m1 79 8,m1 6 79,mZ 7 0] [6,7]))
def Wf:IC:=sQ (oS [fA 27 4 0,l1 28 27] [3,4,5,28] XC) (sQ (oS [fA 69 5 1,l1 70 69,bZ 71 .neq 70 3] [5,71] (cD 71 (oR [fA 72 5 2,l1 73 72,m1 6 73,mZ 7 0] [6,7]) .skip)) XV)
def qH:IC:=sQ (oS [lA 17 5 5,q1 18 40 17,nT 19 18,m1 20 19,ER 21 20 4 0,E8 22 20 21,gF 23 20 (.load (.t 5) 5 true),gF 24 20 (.call 156 [.t 22,.t 23]),gF 25 20 (.not (.t 24)),pO 26 20 25] [3,4,5,26] (cD 26 (oR [mC 6 (.s []),mZ 7 11] [6,7]) .skip)) Wf
def jR:IC:=sQ (oS [fA 9 4 0,l1 10 9,bZ 11 .lss 10 2,m1 12 11,ER 13 12 4 0,E8 14 12 13,EI 15 12 .gtr 14 6,pO 16 12 15] [3,4,5,16] (cD 16 (oR [mC 6 (.s []),mZ 7 1] [6,7]) .skip)) qH
def pG:IC:=oS [bX 3 0,bX 4 1,bX 5 2,mC 6 (.s []),mZ 7 0] [3,4,5] jR
@[push_cast]def Ap9:List R:=[.t 6,.t 7]
@[push_cast]def Auh:=Ar Xk.eq_1<|Ar Wo.eq_1<|Ar Vc.eq_1<|Ar XC.eq_1<|Ar XV.eq_1<|Ar Wf.eq_1<|Ar qH.eq_1<|Ar jR.eq_1<|AM pG.eq_1
theorem LV:Au Tryz.prog 108 80 pG Ap9=true:=by kernel_rfl
def xO:IC:=oS [m1 7 0,m1 8 0,nC 9 8,fA 10 9 1,l1 11 10,m1 12 1,o1 13 (.msl false 5 1 [.t 12]),o1 14 (.app (.t 11) (.t 13) 5 1),nC 15 7,fA 16 15 1,sT 16 14 1] [] (oR [mC 4 .ni] [4])
def pU:IC:=oS [mC 4 .ni] [0,1] (oS [m1 5 0,o1 6 (.calls 180 [.t 5])] [0,1] xO)
@[push_cast]def AlW:List R:=[.t 4]
@[push_cast]def AuH:=Ar xO.eq_1<|AM pU.eq_1
theorem AgX:Au Tryz.prog 187 17 pU AlW=true:=by kernel_rfl
def nO:IC:=sQ (.opx [m1 14 0,m1 15 0,nC 16 15,fA 17 16 1,l1 18 17,m1 19 1] [0,6,14,18,19] 20 287 [.t 18,.t 19] [nC 21 14,fA 22 21 1,sT 22 20 1] [0,6]) (oR [m1 23 0,nC 24 23,fA 25 24 1,l1 26 25,nL 27 26,m1 28 6,bT 29 .sub 27 28,m1 4 29,mC 5 .ni] [4,5])
def fN:IC:=oS [mZ 4 0,mC 5 .ni] [0,1] (oS [m1 7 0,o1 8 (.calls 180 [.t 7])] [0,1] (oS [m1 9 0,nC 10 9,fA 11 10 1,l1 12 11,nL 13 12,m1 6 13] [0,1,6] nO))
@[push_cast]def Aqp:List R:=[.t 4,.t 5]
@[push_cast]def AuP:=Ar nO.eq_1<|AM fN.eq_1
theorem Ajy:Au Tryz.prog 238 30 fN Aqp=true:=by kernel_rfl
def tZ:IC:=sQ (oS [m1 5 1,o1 6 (.cvi .u32 (.t 5)),bC 7 .leq 6 (.i .u32 127)] [0,1,7] (cD 7 (oR [m1 8 0,m1 9 1,o1 10 (.cvi .u8 (.t 9)),o1 11 (.msl false 5 1 [.t 10]),o1 12 (.app (.t 8) (.t 11) 5 1),m1 4 12] [4]) .skip)) (sQ (.opx [m1 13 0,m1 14 1] [13,14] 15 318 [.t 13,.t 14] [m1 4 15] [4]) .ret)
def nB:IC:=oS [mC 4 .nil] [0,1] tZ
@[push_cast]def Anu:List R:=[.t 4]
@[push_cast]def Av4:=Ar tZ.eq_1<|AM nB.eq_1
theorem o5:Au Tryz.prog 287 16 nB Anu=true:=by kernel_rfl
def r7:IC:=oR [m1 14 0,m1 15 1,o1 16 (.pu (.shf .shr) [.t 15,.c (.i .u64 6)]),o1 17 (.cvi .u8 (.t 16)),o1 18 (.pu (.bit .or) [.c (.i .u8 192),.t 17]),m1 19 1,o1 20 (.cvi .u8 (.t 19)),o1 21 (.pu (.bit .and) [.t 20,.c (.i .u8 63)]),o1 22 (.pu (.bit .or) [.c (.i .u8 128),.t 21]),o1 23 (.msl false 5 1 [.t 18,.t 22]),o1 24 (.app (.t 14) (.t 23) 5 1),m1 4 24] [4]
def Xb:IC:=oP [m1 28 5,o1 29 (.bin .lss (.c (.i .u32 57343)) (.t 28)),m1 30 29,BL 31 30 5,gT 32 30 (.bin .leq (.t 31) (.c (.i .u32 65535))),pA 33 30 32,m1 25 33] [0,1,5,25]
def Yj:IC:=oR [m1 34 0,m1 35 1,o1 36 (.pu (.shf .shr) [.t 35,.c (.i .u64 12)]),o1 37 (.cvi .u8 (.t 36)),o1 38 (.pu (.bit .or) [.c (.i .u8 224),.t 37]),m1 39 1,o1 40 (.pu (.shf .shr) [.t 39,.c (.i .u64 6)]),o1 41 (.cvi .u8 (.t 40)),o1 42 (.pu (.bit .and) [.t 41,.c (.i .u8 63)]),o1 43 (.pu (.bit .or) [.c (.i .u8 128),.t 42]),m1 44 1,o1 45 (.cvi .u8 (.t 44)),o1 46 (.pu (.bit .and) [.t 45,.c (.i .u8 63)]),o1 47 (.pu (.bit .or) [.c (.i .u8 128),.t 46]),o1 48 (.msl false 5 1 [.t 38,.t 43,.t 47]),o1 49 (.app (.t 34) (.t 48) 5 1),m1 4 49] [4]
def Wt:IC:=oR [m1 57 0,m1 58 1,o1 59 (.pu (.shf .shr) [.t 58,.c (.i .u64 18)]),o1 60 (.cvi .u8 (.t 59)),o1 61 (.pu (.bit .or) [.c (.i .u8 240),.t 60]),m1 62 1,o1 63 (.pu (.shf .shr) [.t 62,.c (.i .u64 12)]),o1 64 (.cvi .u8 (.t 63)),o1 65 (.pu (.bit .and) [.t 64,.c (.i .u8 63)]),o1 66 (.pu (.bit .or) [.c (.i .u8 128),.t 65]),m1 67 1,o1 68 (.pu (.shf .shr) [.t 67,.c (.i .u64 6)]),o1 69 (.cvi .u8 (.t 68)),o1 70 (.pu (.bit .and) [.t 69,.c (.i .u8 63)]),o1 71 (.pu (.bit .or) [.c (.i .u8 128),.t 70]),m1 72 1,o1 73 (.cvi .u8 (.t 72)),o1 74 (.pu (.bit .and) [.t 73,.c (.i .u8 63)]),o1 75 (.pu (.bit .or) [.c (.i .u8 128),.t 74]),o1 76 (.msl false 5 1 [.t 61,.t 66,.t 71,.t 75]),o1 77 (.app (.t 57) (.t 76) 5 1),m1 4 77] [4]
def Vp:IC:=oS [m1 51 5,bC 52 .gtr 51 (.i .u32 65535),m1 53 52,BL 54 53 5,gT 55 53 (.bin .leq (.t 54) (.c (.i .u32 1114111))),pA 56 53 55,m1 50 56] [0,1,50] (cD 50 Wt (oR [m1 8 0,o1 9 (.msl false 5 1 [.c (.i .u8 239),.c (.i .u8 191),.c (.i .u8 189)]),o1 10 (.app (.t 8) (.t 9) 5 1),m1 4 10] [4]))
def tA:IC:=.block 0 (oS [m1 12 5,bC 13 .leq 12 (.i .u32 2047),m1 11 13] [0,1,5,11] (cD 11 r7 (sQ (oS [m1 26 5,bC 27 .lss 26 (.i .u32 55296),m1 25 27] [0,1,5,25] (cD 25 .skip Xb)) (cD 25 Yj Vp))))
def eM:IC:=oS [mC 4 .nil] [0,1] (oS [m1 6 1,o1 7 (.cvi .u32 (.t 6)),m1 5 7] [0,1,5] tA)
@[push_cast]def Aph:List R:=[.t 4]
@[push_cast]def Aud:=Ar r7.eq_1<|Ar Xb.eq_1<|Ar Yj.eq_1<|Ar Wt.eq_1<|Ar Vp.eq_1<|Ar tA.eq_1<|AM eM.eq_1
theorem Aim:Au Tryz.prog 318 78 eM Aph=true:=by kernel_rfl
end Go.Ir

namespace Go.Ir
open Go.Proofs
variable(W0:World)
theorem Sn(s:Aa):An Tryz.prog W0 330 [.s s] [] (.b (FR s)) []:=by
 have a:=Lh W0 Fk s (by decide);unfold FR;generalize d:Fk.contains s=K at *;unfold Fk at a;simp only[Alh,Alw] at a;refine Ah (vs:=[.b K]) Ajs (by simp) (by simp) λn0 c=>?_;clear c;simp only[push_cast,seval,reduceEqDiff];have _h:=trivial;repeat' (first|(first|((first|apply Ab|apply Ag|apply Af)<;>intro _h)|refine Ac a ?_)<;>simp only[push_cast,seval,reduceEqDiff,_h]|intro _)
 exact Ai (by simp[get])
theorem EX{a β:Type}(f:a->β)(l:List a)(x:a):List.map f l++[f x]=List.map f (l++[x]):=by simp
def Hi(o:Option (List Aa)):V:=match o with
 | some l=>.sl (l.map V.s)
 | none=>.nil
def PI(o:Option (List Aa))(e:Int):Int:=if o.isSome then 0 else e
theorem Mw(s:Aa)(B:s.length<=2^30):An Tryz.prog W0 311 [.s s] [] (.tup [Hi (Cu s),.i .i64 (PI (Cu s) 3)]) []:=by
 generalize hS:Cu s=S;unfold Cu at hS;refine Ah (vs:=[Hi S,.i .i64 (PI S 3)]) Ald (by simp) (by simp) λn0 w=>?_;clear w;simp only[push_cast,seval,reduceEqDiff]
 repeat' (first|(((first|apply Ab|apply Ag|apply Af)<;>intro _h)<;>simp only[push_cast,seval,reduceEqDiff,_h])|(refine As (by omega) ?_;simp only[push_cast,seval,reduceEqDiff])|intro _)
 rename_i k1 k2 k3 G;generalize n0+1+k1+1+k2+1+k3+1+G=C;have H:CZ.length=4:=rfl;refine Am 4 (Inv:=λm st=>∃done a n id r out,CZ=done++a/\m=a.length/\Cz a r out=S/\r.length<=2^30/\out.length+a.length<=4/\id.1<n/\st=⟨[(4,.arr id),(5,.s r),(11,.sl (CZ.map V.s)),(12,.i .i64 CZ.length),(13,.i .i64 done.length)],[(id,.arr 9 1 (out.map V.s))],n⟩) ⟨_,(Ak.own (s:=4) (e:=9) (sz:=1) (k:=0) rfl).trans (Ak.envD (env':=[(4,.arr (C,0)),(5,.s s),(11,.sl (CZ.map V.s)),(12,.i .i64 4),(13,.i .i64 0)]) (λt=>?_) (Abm _)),[],CZ,_,(C,0),s,[],rfl,rfl,hS,B,by decide,Ab3 _,rfl⟩ ?_
 ·left;simp only[get];by_cases h:4=t
  ·subst h;simp
  ·simp[h,CZ]
 clear hS B;rintro m _ ⟨done,a,n,id,r,out,l,rfl,d,J,p,I,rfl⟩;cases a with
 | nil=>
  have f:decide ((done.length:Int)<(CZ.length:Int))=false:=by rw[l];simp
  rw[Cz] at d;have g:((out.length:Int)==0)=(out.length==0):=by cases out<;>simp<;>omega
  cases c:(r==([]:Aa))<;>cases j:(out.length==0)
  all_goals simp only[c,j,bq,if_true,if_false,Int.reduceBEq,reduceCtorEq,Av6,Av9] at d
  all_goals subst d
  all_goals simp only[push_cast,seval,reduceEqDiff,f,g,c,j]
  all_goals repeat' (first|(((first|apply Ab|apply Ag|apply Af)<;>intro _h)<;>simp only[push_cast,seval,reduceEqDiff,_h,f,g,c,j])|(refine As (by omega) ?_;simp only[push_cast,seval,reduceEqDiff,f,g,c,j])|intro _)
  all_goals (first|(refine Ae ?_;simp[push_cast,get,Hi,PI];done)|skip)
  refine Ha (Ak.frzAt (s:=4) (id:=id) rfl (by simp[lk]) (mA out) (Abm _)) ?_;simp only[push_cast,seval,reduceEqDiff,f,g];intros;refine Ae ?_;simp[push_cast,get,Hi,PI]
 | cons k a=>
  have D:=AH l;have u:k∈CZ:=by rw[l];simp
  have v:k.length=1/\∀b∈k,b.toNat<128:=by unfold CZ at u;simp at u;rcases u with rfl|rfl|rfl|rfl<;>simp
  have x:=Qm W0 r k (by omega) v.2;have E:=Fp r k;rw[Cz] at d;have o:=Sn W0 (r.take (r.length-(Lib.trimLeftS r k).length));generalize Lib.trimLeftS r k=T at *;have y:IntKind.i64.wrap ((r.length:Int)-(T.length:Int))=((r.length-T.length:Nat):Int):=by rw[wrap64 (by omega) (by omega)];omega
  have z:(r.length-T.length<=r.length)=True:=eq_true (by omega);have A:(out.length+1<=AK)=True:=eq_true (by simp at p;unfold AK;omega);generalize q:r.take (r.length-T.length)=F at *;cases c:(F==([]:Aa))<;>cases j:FR F
  all_goals simp only[c,j,bq,if_true,if_false,Int.reduceBEq,reduceCtorEq] at d o
  all_goals simp only[push_cast,seval,reduceEqDiff,l,Ad k (done:=done) (by omega),y,z,A,q,Alq,Abm,Alj,Acr,c]
  all_goals repeat' (first|(((first|apply Ab|apply Ag|apply Af)<;>intro _h)<;>simp only[push_cast,seval,reduceEqDiff,_h,l,Ad k (done:=done) (by omega),y,z,A,q,Alq,Abm,Alj,Acr,c])|((first|refine Ac (by exact x) ?_|refine Ac (by exact o) ?_|refine As (by omega) ?_);simp only[push_cast,seval,reduceEqDiff,l,Ad k (done:=done) (by omega),y,z,A,q,Alq,Abm,Alj,Acr,c])|intro _)
  ·subst d;refine Ae ?_;simp[push_cast,get,Hi,PI]
  ·rw[EX];exact⟨_,_,Ab3 _,Ak.refl,done++[k],a,_,_,T,out++[F],by simp,rfl,d,by omega,by simp at p⊢;omega,by simp only;omega,rfl⟩
  ·exact⟨_,_,Ab3 _,Ak.refl,done++[k],a,_,id,r,out,by simp,rfl,d,by omega,by simp at p⊢;omega,by omega,rfl⟩
  ·exact⟨_,_,Ab3 _,Ak.refl,done++[k],a,_,id,r,out,by simp,rfl,d,by omega,by simp at p⊢;omega,by omega,rfl⟩
theorem YE:∀(n m:Nat) (p:Aa) (out:List Aa),p.length<n->p.length<m->C6 n p out=C6 m p out:=by
 intro n
 induction n with
 | zero=>intro m p out h;omega
 | succ n f=>
  intro m p out c d;cases m with
  | zero=>omega
  | succ m=>
   have a:=Fp p Ba;rw[C6,C6];split
   ·rfl
   ·rename_i hp;have b:1<=p.length:=by grind
    split
    ·grind
    ·rename_i e;have:(Lib.trimLeftS p Ba).length<p.length:=by
      rcases Av2 (Lib.trimLeftS p Ba).length p.length with h|h
      ·exact h
      simp_all
     grind
theorem Ahe(s:Aa)(r:s.length<=2^30):An Tryz.prog W0 312 [.s s] [] (.tup [Hi (Hn s),.b (Hn s).isSome]) []:=by
 generalize hS:Hn s=S;unfold Hn at hS;refine Ah (vs:=[Hi S,.b S.isSome]) AgR (by simp) (by simp) λn0 q=>?_;clear q;simp only[push_cast,seval,reduceEqDiff]
 repeat' (first|(((first|apply Ab|apply Ag|apply Af)<;>intro _h)<;>simp only[push_cast,seval,reduceEqDiff,_h])|(refine As (by omega) ?_;simp only[push_cast,seval,reduceEqDiff])|intro _)
 rename_i k1 k2;generalize n0+1+k1+1+k2=z;refine Am s.length (Inv:=λm st=>∃n id p out,m=p.length/\C6 (p.length+1) p out=S/\p.length<=2^30/\out.length+p.length<=2^30/\id.1<n/\st=⟨[(0,.s p),(4,.arr id)],[(id,.arr 9 1 (out.map V.s))],n⟩) ⟨_,(Ak.own (s:=4) (e:=9) (sz:=1) (k:=0) rfl).trans (Ak.envD (env':=[(0,.s s),(4,.arr (z,0))]) (λt=>?_) (Abm _)),_,(z,0),s,[],rfl,hS,r,by simpa using r,Ab3 _,rfl⟩ ?_
 ·left;simp only[get];grind
 clear hS r;rintro m _ ⟨n,id,p,out,rfl,a,hp,E,G,rfl⟩;cases p with
 | nil=>rw[C6] at a;simp only[bq,if_true,if_false,Int.reduceBEq,reduceCtorEq,beq_self_eq_true] at a;subst a;simp only[push_cast,seval,reduceEqDiff];intros;refine Ha (Ak.frzAt (s:=4) (id:=id) rfl (by simp[lk]) (mA out) (Abm _)) ?_;simp only[push_cast,seval,reduceEqDiff];intros;refine Ae ?_;simp[push_cast,get,Hi]
 | cons c p=>
  obtain⟨R,f⟩:∃R,R=c::p:=⟨_,rfl⟩;have d:R.drop 1=p:=by rw[f];rfl
  have C:R.length=p.length+1:=by rw[f];simp
  rw[<-f] at a hp E⊢;have l:(R==([]:Aa))=false:=by rw[f];rfl
  clear f;have y:=Qm W0 R Ba (by decide) (by decide);have D:=Fp R Ba;rw[C6,l] at a;have g:=Sn W0 (R.take (R.length-(Lib.trimLeftS R Ba).length));generalize Lib.trimLeftS R Ba=T at *;unfold Ba at y;have u:IntKind.i64.wrap ((R.length:Int)-(T.length:Int))=((R.length-T.length:Nat):Int):=by rw[wrap64 (by omega) (by omega)];omega
  have v:(R.length-T.length<=R.length)=True:=eq_true (by omega);have w:(out.length+1<=AK)=True:=eq_true (by unfold AK;omega);have x:(1<=R.length)=True:=eq_true (by omega);have B:T.length=R.length->R.take (R.length-T.length)=[]:=λh=>by rw[h];simp
  generalize o:R.take (R.length-T.length)=F at *;cases j:(F==([]:Aa))<;>cases A:FR F
  all_goals simp only[j,A,bq,if_true,if_false,Int.reduceBEq,reduceCtorEq] at a g
  all_goals simp only[push_cast,seval,reduceEqDiff,l,u,v,w,x,o,d,Alq,Abm,Alj,Acr,j]
  all_goals repeat' (first|(((first|apply Ab|apply Ag|apply Af)<;>intro _h)<;>simp only[push_cast,seval,reduceEqDiff,_h,l,u,v,w,x,o,d,Alq,Abm,Alj,Acr,j])|((first|refine Ac (by exact y) ?_|refine Ac (by exact g) ?_|refine As (by omega) ?_);simp only[push_cast,seval,reduceEqDiff,l,u,v,w,x,o,d,Alq,Abm,Alj,Acr,j])|intro _)
  ·subst a;refine Ae ?_;simp[push_cast,get,Hi]
  ·rw[EX];have i:T.length<R.length:=by grind
   exact⟨_,_,i,Ak.refl,_,_,T,out++[F],rfl,by rw[YE _ R.length T _ (by omega) i];exact a,by omega,by simp;omega,by simp only;omega,rfl⟩
  ·exact⟨_,_,show p.length<R.length by omega,Ak.refl,_,id,p,out,rfl,by grind,by omega,by omega,by omega,rfl⟩
  ·exact⟨_,_,show p.length<R.length by omega,Ak.refl,_,id,p,out,rfl,by grind,by omega,by omega,by omega,rfl⟩
theorem Ya(l:List Aa)(O:l≠[])(H:l.length<=2^20)(Z:∀f∈l,1<=f.length):An Tryz.prog W0 313 [.sl (l.map V.s)] [] (.tup [.s (GG l).1,.b (GG l).2]) []:=by
 generalize hS:GG l=S;unfold GG Lc at hS;refine Ah (vs:=[.s S.1,.b S.2]) Aht (by simp) (by simp) λn0 N=>?_;clear N;simp only[push_cast,seval,reduceEqDiff]
 repeat' (first|(((first|apply Ab|apply Ag|apply Af)<;>intro _h)<;>simp only[push_cast,seval,reduceEqDiff,_h])|(refine As (by simp only[Agz,Ah5,Alo,AA]<;>omega) ?_;simp only[push_cast,seval,reduceEqDiff])|intro _)
 rename_i k1 k2 k3;generalize n0+1+k1+1+k2+1+k3=U;refine Am l.length (Inv:=λm st=>∃done a n id,l=done++a/\m=a.length/\U<=n/\id.1<n/\st=⟨[(4,.arr id),(8,.sl (l.map V.s)),(9,.i .i64 l.length),(10,.i .i64 done.length)],[(id,.arr 9 1 ((done.map λf=>f.take 1).map V.s))],n⟩) ⟨_,(Ak.own (s:=4) (e:=9) (sz:=1) (k:=0) rfl).trans (Ak.envD (env':=[(4,.arr (U,0)),(8,.sl (l.map V.s)),(9,.i .i64 l.length),(10,.i .i64 0)]) (λt=>?_) (Abm _)),[],l,_,(U,0),rfl,rfl,AmL _,Ab3 _,rfl⟩ ?_
 ·left;simp only[get];by_cases h:4=t
  ·subst h;simp
  ·simp[h]
 rintro m _ ⟨done,a,n,id,u,rfl,hn,F,rfl⟩;cases a with
 | nil=>
  have af:decide ((done.length:Int)<(l.length:Int))=false:=by rw[u];simp
  have L:done=l:=by rw[u];simp
  rw[L];clear u;have D:(l.map λf=>f.take 1).length=l.length:=by simp
  have j:(l.map λf=>f.take 1)≠[]:=by simpa using O
  have z:decide ((l.length:Int)<(l.length:Int))=false:=by simp
  rw[<-D] at hS⊢;obtain⟨G,w⟩:∃G,G=l.map λf=>f.take 1:=⟨_,rfl⟩
  rw[<-w] at hS D j⊢;have I:=AbL W0 G id j (by omega);have g:(G.mergeSort λx y=>decide (x<=y)).length=G.length:=Axl ..;have r:(G.mergeSort λx y=>decide (x<=y))≠[]:=by intro h;rw[h] at g;simp at g;exact j (by simpa using g.symm)
  have A:∀l∈(G.mergeSort λx y=>decide (x<=y)),l∈G:=λl H=>by simpa using H
  generalize(G.mergeSort λx y=>decide (x<=y))=Q at *;have K:=Ln Q;rw[g] at K;have B:∀l∈Lib.compact Q,l.length<=1:=by intro l H;have:=A l (KU H);rw[w] at this;obtain⟨f,_,rfl⟩:=Alx.1 this;simp;omega
  have hj:=qZ W0 (Lib.compact Q) [] (by have:=JN [] 1 0 (by simp) (Lib.compact Q) B;omega);clear A w B;have hc:=tO W0 Q id r (by omega);have hx:=Nx W0 Q;simp only[push_cast,seval,reduceEqDiff,z];intro k;refine MY I (λp hp=>by cases hp) ?_;simp only[push_cast,seval,reduceEqDiff,z];intro k2;refine LE hc (λ_ _ h=>h) ?_;rw[CS];simp only[push_cast,seval,reduceEqDiff,z];intro k3;have E:((n+1+k+1+k2,23):Id)≠id:=λC=>by rw[<-C] at F;simp only at F;omega
  refine AW (Nx W0 Q _ r (by omega)) (λi e h=>by
   simp only[lk] at h⊢;split at h
   ·rename_i Y;rw[if_pos Y];exact h
   ·cases h) (λn2 v σo ae hR=>?_)
  obtain⟨d,i1,i2,rfl,rfl⟩:=hR;have T:over [((n+1+k+1+k2,23),Ax.arr 9 1 (List.map V.s Q))] [(d,Ax.arr 9 1 (List.map V.s (Lib.compact Q)))] [((n+1+k+1+k2,23),Ax.arr 9 1 (List.map V.s Q)),(id,Ax.arr 9 1 (List.map V.s Q))]=[(d,Ax.arr 9 1 (List.map V.s (Lib.compact Q))),(id,Ax.arr 9 1 (List.map V.s Q))]:=by have:=H5 (σi:=[((n+1+k+1+k2,23),Ax.arr 9 1 (List.map V.s Q))]) (σo:=[(d,Ax.arr 9 1 (List.map V.s (Lib.compact Q)))]) (pre:=[]) (post:=[(id,Ax.arr 9 1 (List.map V.s Q))]) (λp hp=>by cases hp) (λp hp q I=>by simp at hp I;subst hp I;exact AhZ E);simpa using this
  rw[T];have c:(id=d)=False:=eq_false λC=>by rw[C] at F;omega
  have o:(d=id)=False:=eq_false λC=>by rw[<-C] at F;omega
  simp only[push_cast,seval,reduceEqDiff,c,o];intro k4;refine Ha (Ak.frzAt (s:=7) (id:=d) rfl (by simp only[lk,c,if_false]) (mA (Lib.compact Q)) (Abm _)) ?_;simp only[push_cast,seval,reduceEqDiff,c,o];have _h:=trivial;repeat' (first|(first|((first|apply Ab|apply Ag|apply Af)<;>intro _h)|refine Ac hj ?_|refine As (by omega) ?_)<;>simp only[push_cast,seval,reduceEqDiff,_h,c,o]|intro _)
  have J:(((Lib.compact Q).length:Int)==(Q.length:Int))=((Lib.compact Q).length==G.length):=by rw[g,Atk];simp;omega
  subst hS;refine Ae ?_;simp[push_cast,get,J]
 | cons f a=>
  have ab:=AH u;have M:=Z f (by rw[u];simp);have W:(done.length+1<=AK)=True:=eq_true (by unfold AK;omega);have X:(1<=f.length)=True:=eq_true M;simp only[push_cast,seval,reduceEqDiff,u,Ad f (done:=done) (by omega),W,X,Alq,Abm,Alj,Acr]
  repeat' (first|(((first|apply Ab|apply Ag|apply Af)<;>intro _h)<;>simp only[push_cast,seval,reduceEqDiff,_h,u,Ad f (done:=done) (by omega),W,X,Alq,Abm,Alj,Acr])|(refine As (by simp only[Agz,Ah5,Alo,AA]<;>omega) ?_;simp only[push_cast,seval,reduceEqDiff,u,Ad f (done:=done) (by omega),W,X,Alq,Abm,Alj,Acr])|intro _)
  rw[EX,EX (λf:Aa=>List.take 1 f)];exact⟨_,_,Ab3 _,Ak.refl,done++[f],a,_,_,by simp,rfl,by omega,by simp only;omega,rfl⟩
theorem QJ:∀(a:List Aa) (r:Aa) (out w:List Aa),Cz a r out=some w->(∀f∈out,1<=f.length)->w≠[]/\w.length<=out.length+a.length/\∀f∈w,1<=f.length:=by
 intro a
 induction a with
 | nil=>intro r out w h b;rw[Cz] at h;grind
 | cons k a c=>
  intro r out w h b;rw[Cz] at h;split at h
  ·grind
  ·rename_i i;split at h
   ·obtain⟨d,e,g⟩:=c _ _ _ h (λf j=>by grind
)
    grind
   ·cases h
theorem Gz{s:Aa}{w:List Aa}(h:Cu s=some w):w≠[]/\w.length<=4/\∀f∈w,1<=f.length:=by have:=QJ CZ s [] w h (by simp);simpa[CZ] using this
theorem YP:∀(n:Nat) (p:Aa) (out g:List Aa),C6 n p out=some g->(∀f∈out,1<=f.length)->g.length<=out.length+p.length/\∀f∈g,1<=f.length:=by
 intro n
 induction n with
 | zero=>intro p out g h;cases h
 | succ n e=>
  intro p out g h d;have a:=Fp p Ba;rw[C6] at h;split at h
  ·grind
  ·split at h
   ·grind
   ·rename_i c;split at h
    ·have b:(Lib.trimLeftS p Ba).length<p.length:=by
      rcases Av2 (Lib.trimLeftS p Ba).length p.length with h|h
      ·exact h
      simp_all
     grind
    ·cases h
theorem xI{s:Aa}{g:List Aa}(h:Hn s=some g):g.length<=s.length/\∀f∈g,1<=f.length:=by have:=YP _ s [] g h (by simp);simpa using this
theorem AcI(h p:Aa)(i:h.length<=2^30)(r:p.length<=2^20):An Tryz.prog W0 277 [.s h,.s p] [] (.b (DL h p)) []:=by
 have d:=Mw W0 h i;have c:=Ahe W0 p (by omega);generalize hS:DL h p=S;unfold DL at hS;cases j:Cu h with
 | none=>
  rw[j] at d hS;simp only[Hi,PI,AtT,AcY,if_false] at d;refine Ah (vs:=[.b S]) Qt (by simp) (by simp) λn0 a=>?_;clear a;simp only[push_cast,seval,reduceEqDiff];cases f:Hn p with
  | none=>
   rw[f] at c hS;simp only[Hi,AtT] at c
   all_goals ((try simp only[bq,if_true,if_false,Int.reduceBEq,reduceCtorEq] at hS);subst hS)
   all_goals (try simp only[push_cast,seval,reduceEqDiff])
   all_goals (repeat' (first|((first|refine Ac (by exact d) ?_|refine Ac (by exact c) ?_|refine As (by omega) ?_);(try simp only[push_cast,seval,reduceEqDiff]))|intro _))
   all_goals (first|(refine Ai ?_;simp[get];done)|(refine Ae ?_;simp[push_cast,get];done)|skip)
  | some g=>
   rw[f] at c hS;simp only[Hi,Ars] at c
   all_goals ((try simp only[bq,if_true,if_false,Int.reduceBEq,reduceCtorEq] at hS);subst hS)
   all_goals (try simp only[push_cast,seval,reduceEqDiff])
   all_goals (repeat' (first|((first|refine Ac (by exact d) ?_|refine Ac (by exact c) ?_|refine As (by omega) ?_);(try simp only[push_cast,seval,reduceEqDiff]))|intro _))
   all_goals (first|(refine Ai ?_;simp[get];done)|(refine Ae ?_;simp[push_cast,get];done)|skip)
 | some w=>
  rw[j] at d hS;simp only[Hi,PI,Ars,if_true] at d;obtain⟨m,a2,a3⟩:=Gz j;have k1:=Ya W0 w m (by omega) a3;cases f:Hn p with
  | none=>
   rw[f] at c hS;simp only[Hi,AtT] at c;refine Ah (vs:=[.b S]) Qt (by simp) (by simp) λn0 a=>?_;clear a;simp only[push_cast,seval,reduceEqDiff]
   all_goals ((try simp only[bq,if_true,if_false,Int.reduceBEq,reduceCtorEq] at hS);subst hS)
   all_goals (try simp only[push_cast,seval,reduceEqDiff])
   all_goals (repeat' (first|((first|refine Ac (by exact d) ?_|refine Ac (by exact c) ?_|refine As (by omega) ?_);(try simp only[push_cast,seval,reduceEqDiff]))|intro _))
   all_goals (first|(refine Ai ?_;simp[get];done)|(refine Ae ?_;simp[push_cast,get];done)|skip)
  | some g=>
   rw[f] at c hS;simp only[Hi,Ars] at c;obtain⟨q,o⟩:=xI f;by_cases l:g=[]
   ·subst l;simp only[Alw] at c;refine Ah (vs:=[.b S]) Qt (by simp) (by simp) λn0 a=>?_;clear a;simp only[push_cast,seval,reduceEqDiff]
    all_goals ((try simp only[bq,if_true,if_false,Int.reduceBEq,reduceCtorEq] at hS);subst hS)
    all_goals (try simp only[push_cast,seval,reduceEqDiff])
    all_goals (repeat' (first|((first|refine Ac (by exact d) ?_|refine Ac (by exact c) ?_|refine As (by omega) ?_);(try simp only[push_cast,seval,reduceEqDiff]))|intro _))
    all_goals (first|(refine Ai ?_;simp[get];done)|(refine Ae ?_;simp[push_cast,get];done)|skip)
   ·have k2:=Ya W0 g l (by omega) o;have e:((g.length:Int)==0)=false:=by simp_all
    have k:(g.length==0)=false:=by grind
    simp only[k] at hS;refine Ah (vs:=[.b S]) Qt (by simp) (by simp) λn0 a=>?_;clear a;simp only[push_cast,seval,reduceEqDiff,e];cases i:(GG g).2
    all_goals simp only[i] at k2 hS
    all_goals ((try simp only[bq,if_true,if_false,Int.reduceBEq,reduceCtorEq] at hS);subst hS)
    all_goals (try simp only[push_cast,seval,reduceEqDiff,e])
    all_goals (repeat' (first|((first|refine Ac (by exact d) ?_|refine Ac (by exact c) ?_|refine Ac (by exact k1) ?_|refine Ac (by exact k2) ?_|refine As (by omega) ?_);(try simp only[push_cast,seval,reduceEqDiff,e]))|intro _))
    all_goals (first|(refine Ai ?_;simp[get];done)|(refine Ae ?_;simp[push_cast,get];done)|skip)
end Go.Ir
section
namespace Go.Ir
section tree
variable{P:Aj→Prop}{Q:List Aj→Prop}{R:List AJ→Prop}
theorem rX(hp:∀p:Aj,R p.cases->Q p.parts->P p)(e:Q [])(q1:∀p ps,P p->Q ps->Q (p::ps))(f:R [])(i:∀(c:AJ) (cs:List AJ),Q c.2->R cs->R (c::cs)) :
  ∀N,(∀p:Aj,p.wt<N->P p)/\(∀ps,AU ps<N->Q ps)/\(∀cs,DG cs<N->R cs):=by
 intro N
 induction N with
 | zero=>grind
 | succ N g=>
  have b:∀p:Aj,p.wt<N+1->P p:=λp h=>by rw[p.wt_eq] at h;grind
  have d:∀ps,AU ps<N+1->Q ps:=by
   intro ps
   induction ps with
   | nil=>intro _;exact e
   | cons p ps a=>intro h;rw[Bk] at h;grind
  refine⟨b,d,λcs=>?_⟩
  induction cs with
  | nil=>intro _;exact f
  | cons c cs a=>intro h;rw[B6] at h;grind
theorem FJ(hp:∀p:Aj,R p.cases->Q p.parts->P p)(a:Q [])(q1:∀p ps,P p->Q ps->Q (p::ps))(b:R [])(d:∀(c:AJ) (cs:List AJ),Q c.2->R cs->R (c::cs))(ps:List Aj):Q ps:=
 (rX hp a q1 b d _).2.1 ps (Ab3 _)
end tree
theorem m6{s:Aa}(h:BN s=true):s≠[]:=by rintro rfl;cases h
theorem Dd(k:Int):Bf k=true↔k=7\/k=8\/k=9:=by unfold Bf;simp;omega
theorem An9{a:Type}{l:List a}(h:((l.length:Int)==0)=true):l=[]:=by simp_all
theorem JC(p:Aj)(c:Bool)(a:(p.kind==11)=false)(b:Bf p.kind=false):KB p c=(p.fieldsB&&!(p.kind==10&&!c)):=by
 obtain⟨k,t,f,st,cs,ps⟩:=p;simp only at a b;have e:(k==7)=false/\(k==8)=false/\(k==9)=false:=by
  have:¬(k=7\/k=8\/k=9):=λh=>by rw[(Dd k).2 h] at b;cases b
  simp;omega
 obtain⟨e,q,r⟩:=e;unfold KB U6 wT wN wS Aj.fieldsB AB;simp only;have l:(t==t)=true:=by simp
 have j:(f==f)=true:=by simp
 have d:(st==st)=true:=by simp
 by_cases m:k=1
 ·grind
 by_cases g:k=10
 ·grind
 by_cases o:k=2
 ·grind
 by_cases i:k=3
 ·subst i;simp only[bq,if_true,if_false,Int.reduceBEq,reduceCtorEq,Int.reduceBEq,l,j,d,Gp];grind
 grind
theorem W5(n:Nat):decide ((n:Int)>0)=!((n:Int)==0):=by grind
theorem Abe{k:Int}(h:Bf k=true):AfU k=(k !=9):=by rcases(Dd k).1 h with rfl|rfl|rfl<;>rfl
theorem Lq(ps:List Aj):∀d c a l,(BM ps d c a l).1=Bz ps (d+1) c a:=by
 refine FJ (P:=λp=>∀d c l,((p.fieldsB&&!(p.kind==10&&!c))&&(p.chk d c l).1)=p.formedB (d+1) c)
  (Q:=λps=>∀d c a l,(BM ps d c a l).1=Bz ps (d+1) c a)
  (R:=λcs=>∀k d c n seen l,Bf k=true->(DJ cs k d c n seen l).1=(decide ((n:Int)<=20)&&Cg cs k d c seen)) ?_ ?_ ?_ ?_ ?_ ps
 ·intro p o j d c l;rw[p.chk_eq,p.formedB_eq];by_cases f:p.kind=11
  ·have g:Bf p.kind=false:=by rw[f];rfl
   have b:(p.kind==11)=true:=by simpa using f
   have h:=j (d+1) c false l;simp only[b,g,if_true,if_false,AcY];have m:p.fieldsB=(BN p.name&&(p.text==[]&&(p.style==[]&&((p.cases.length:Int)==0)))):=by unfold Aj.fieldsB AB;rw[f];simp
   have i:(p.kind==10)=false:=by rw[f];rfl
   have s:decide (d+1>8)=decide (d>=8):=by simp;omega
   have r:=W5 p.cases.length;rw[m,i];unfold Qi;grind
  ·have b:(p.kind==11)=false:=by simpa using f
   simp only[b,if_false,AcY];cases g:Bf p.kind with
   | true=>
    have h:=o p.kind (d+1) c p.cases.length [] l g;have m:p.fieldsB=(BN p.name&&(p.text==[]&&(p.style==[]&&((p.parts.length:Int)==0)))):=by unfold Aj.fieldsB AB;rcases(Dd _).1 g with e|e|e<;>(rw[e];simp)
    have i:(p.kind==10)=false:=by rcases(Dd _).1 g with e|e|e<;>(rw[e];rfl)
    have s:decide (d+1>8)=decide (d>=8):=by simp;omega
    have r:=W5 p.parts.length;have q:decide ((p.cases.length:Int)>20)=!decide ((p.cases.length:Int)<=20):=by rw[Atk];simp
    have v:decide ((p.cases.length:Int)<1)=true->Cg p.cases p.kind (d+1) c []=false:=by intro t;have:p.cases=[]:=List.length_eq_zero_iff.1 (by simp at t;omega);rw[this];simp[Cg]
    rw[m,i];unfold LF;grind
   | false=>simp only[if_false,AcY];rw[JC p c b g];simp
 ·intro d c a l;rfl
 ·intro p ps hp j d c a l;rw[IB,Dg,<-hp d c l];grind
 ·intro k d c n seen l _;simp[DJ,Cg]
 ·intro x cs j o k d c n seen l g;rw[Jc,Eo,Abe g,<-j d (c||(k !=9)) false l];generalize(!Lx k x.1||seen.contains x.1)=u;grind
theorem Rt(ps:List Aj):∀d c b,Bz ps d c b=true->CC ps=(E9 ps).length:=by
 refine FJ (P:=λp=>∀d c,p.formedB d c=true->p.lenB=p.textB.length)
  (Q:=λps=>∀d c b,Bz ps d c b=true->CC ps=(E9 ps).length)
  (R:=λcs=>∀k d c g,Cg cs k d c g=true->E3 cs=(GJ cs).length) ?_ ?_ ?_ ?_ ?_ ps
 ·intro p w m d c h;rw[p.formedB_eq] at h;rw[p.lenB_eq,p.textB_eq];by_cases i:p.kind=11
  ·have z:(p.kind==1)=false:=by rw[i];rfl
   have t:(p.kind==10)=false:=by rw[i];rfl
   have a:(p.kind==11)=true:=by simpa using i
   rw[a,if_pos rfl,Aan] at h;have u:=m _ _ _ h.2;simp only[z,t,a,if_true,if_false,AcY];cases p.parts.isEmpty<;>simp[u]<;>omega
  ·have a:(p.kind==11)=false:=by simpa using i
   rw[a,if_neg (by simp)] at h;cases o:Bf p.kind with
   | true=>
    rw[o,if_pos rfl,Aan] at h;have u:=w _ _ _ _ h.2;have r:(p.kind==1)=false/\(p.kind==10)=false/\(p.kind==2)=false/\(decide (p.kind>=3)&&decide (p.kind<=9))=true:=by rcases(Dd _).1 o with e|e|e<;>(rw[e];decide)
    obtain⟨r,s,y,f⟩:=r;simp only[r,s,y,a,f,if_true,if_false,AcY];unfold NQ zX Ac0 Acs;rw[if_pos f,o];cases l:(p.style==[])<;>simp[u]<;>omega
   | false=>
    rw[o,if_neg (by simp)] at h;unfold KB at h;simp only[Aan] at h;obtain⟨⟨⟨⟨⟨A,v⟩,hp⟩,D⟩,C⟩,l⟩:=h;have v:=An9 v;rw[v];by_cases k1:p.kind=1
    ·simp[k1]
    by_cases xV:p.kind=10
    ·simp[xV]
    have e:∀j:Int,p.kind≠j->(p.kind==j)=false:=λj h=>by simpa using h
    by_cases k2:p.kind=2
    ·have q:p.style=[]:=by unfold wS at l;grind
     rw[k2,q];simp[NQ,Bf,E3]<;>omega
    have B:p.kind=3\/p.kind=4\/p.kind=5\/p.kind=6:=by unfold U6 at A;grind
    have f:(decide (p.kind>=3)&&decide (p.kind<=9))=true:=by simp;omega
    simp only[e 1 k1,e 10 xV,e 2 k2,a,f,if_true,if_false,AcY];unfold NQ zX Ac0 Acs;rw[if_pos f,o];cases l:(p.style==[])<;>simp[E3,GJ]<;>omega
 ·intro d c b _;simp[CC,E9]
 ·intro p ps hp m d c b h;rw[Dg,Aan,Aan] at h;rw[IJ,S9,Agz,hp _ _ h.2.1,m _ _ _ h.2.2]
 ·intro k d c g _;simp[E3,GJ]
 ·intro x cs m w k d c g h;rw[Eo,Aan,Aan] at h;rw[GN,Sg,m _ _ _ h.2.1,w _ _ _ _ h.2.2];simp<;>omega
mutual
def Aj.nms:Aj->List Aa
 | ⟨k,_,n,_,cs,ps⟩=>(if decide (k>=2)&&decide (k<=9) then[n] else[])++(CB ps++EH cs)
def CB:List Aj->List Aa
 | []=>[]
 | p::ps=>p.nms++CB ps
def EH:List (Aa×List Aj)->List Aa
 | []=>[]
 | (_,ps)::cs=>CB ps++EH cs
end
theorem Aj.nms_eq(p:Aj):p.nms=(if decide (p.kind>=2)&&decide (p.kind<=9) then[p.name] else[])++(CB p.parts++EH p.cases):=by cases p;simp only[Aj.nms]
theorem IM(p:Aj)(ps:List Aj):CB (p::ps)=p.nms++CB ps:=by simp only[CB]
theorem Nt(c:AJ)(cs:List AJ):EH (c::cs)=CB c.2++EH cs:=by obtain⟨k,q⟩:=c;simp only[EH]
def Ee(l a m:List Aa):Prop:=(∀x,x∈a↔x∈l\/x∈m)/\(l.Nodup->a.Nodup)
theorem Ee.refl(l:List Aa):Ee l l []:=⟨λx=>by simp,λh=>h⟩
theorem Ee.trans{a b c m n:List Aa}(h:Ee a b m)(k:Ee b c n):Ee a c (m++n):=
 ⟨λx=>by rw[k.1,h.1];simp[or_assoc],λd=>k.2 (h.2 d)⟩
theorem Ee.same{a b m n:List Aa}(h:Ee a b m)(c:∀x,x∈m↔x∈n):Ee a b n:=⟨λx=>by rw[h.1,c],h.2⟩
theorem Th{l:List Aa}{x:Aa}(h:l.Nodup)(a:x∉l):(l++[x]).Nodup:=by grind
theorem RN(x:Aa)(l:List Aa):Ee l (NP x l) [x]:=by
 unfold NP;cases h:l.contains x with
 | true=>
  have a:x∈l:=by simpa using h
  exact⟨λy=>by simp;rintro rfl;exact a,λh=>h⟩
 | false=>
  have a:x∉l:=by simpa using h
  exact⟨λy=>by simp,λh=>Th h a⟩
theorem oL(k:Int)(x:Aa)(l:List Aa):Ee l (KE k x l) (if decide (k>=2)&&decide (k<=9) then[x] else[]):=by
 unfold KE;cases a:(decide (k>=2)&&decide (k<=9)) with
 | false=>simp only[AvE,AcY,if_false];exact Ee.refl l
 | true=>have:=RN x l;unfold NP at this;grind
theorem MZ(ps:List Aj):∀l,Ee l (Bu ps l) (CB ps):=by
 refine FJ (P:=λp=>∀l,Ee l (p.names l) p.nms) (Q:=λps=>∀l,Ee l (Bu ps l) (CB ps)) (R:=λcs=>∀l,Ee l (Dk cs l) (EH cs)) ?_ ?_ ?_ ?_ ?_ ps
 ·intro p b a l;rw[p.names_eq,p.nms_eq];exact(oL _ _ _).trans ((a _).trans (b _))
 ·intro l;simp only[Bu,CB];exact Ee.refl l
 ·intro p ps hp a l;rw[G6,IM];exact(hp l).trans (a _)
 ·intro l;simp only[Dk,EH];exact Ee.refl l
 ·intro c cs a b l;rw[GB,Nt];exact(a l).trans (b _)
theorem Sh{p:Aj}(h:p.fieldsB=true):(if decide (p.kind>=2)&&decide (p.kind<=9) then[p.name] else[])=(if !(p.kind==11)&&!(p.name==[]) then[p.name] else[]):=by
 obtain⟨k,t,b,st,cs,ps⟩:=p;unfold Aj.fieldsB AB at h;simp only at h⊢;have e:∀j:Int,k≠j->(k==j)=false:=λj h=>by simpa using h
 by_cases k1:k=1
 ·grind
 by_cases xV:k=10
 ·grind
 rw[e 1 k1,e 10 xV] at h;simp only[AcY,if_false,Aan] at h;have a:=m6 h.1;grind
theorem Jt{p:Aj}(h:p.fieldsB=true):(Bf p.kind=false->p.cases=[])/\((p.kind==11)=false->p.parts=[])/\(p.kind==11||Bf p.kind->p.text=[]/\p.style=[]):=by
 obtain⟨k,t,o,st,cs,ps⟩:=p;unfold Aj.fieldsB AB at h;simp only at h⊢;have e:∀j:Int,k≠j->(k==j)=false:=λj h=>by simpa using h
 have nil:∀{f:Type} (l:List f),((l.length:Int)==0)=true->l=[]:=λl h=>An9 h;by_cases k1:k=1
 ·subst k1;simp only[Int.reduceBEq,if_true,Aan] at h;exact⟨λ_=>nil _ h.2.2.2.1,λ_=>nil _ h.2.2.2.2,λc=>by cases c⟩
 by_cases xV:k=10
 ·grind
 rw[e 1 k1,e 10 xV] at h;simp only[AcY,if_false,Aan] at h;obtain⟨g,i,h⟩:=h;by_cases k2:k=2
 ·grind
 by_cases UF:k=11
 ·grind
 rw[e 2 k2,e 11 UF] at h;simp only[AcY,if_false] at h;by_cases a:Bf k=true
 ·have b:(k==7||k==8||k==9)=true:=by rcases(Dd k).1 a with rfl|rfl|rfl<;>rfl
  grind
 ·have d:Bf k=false:=by simpa using a
  have m:k≠7/\k≠8/\k≠9:=⟨λe=>a ((Dd k).2 (.inl e)),λe=>a ((Dd k).2 (.inr (.inl e))),λe=>a ((Dd k).2 (.inr (.inr e)))⟩
  grind
theorem eZ(ps:List Aj):∀d c a l,(BM ps d c a l).1=true->Ee l (BM ps d c a l).2 (CB ps):=by
 refine FJ (P:=λp=>p.fieldsB=true->∀d c l,(p.chk d c l).1=true->Ee l (p.chk d c l).2 p.nms)
  (Q:=λps=>∀d c a l,(BM ps d c a l).1=true->Ee l (BM ps d c a l).2 (CB ps))
  (R:=λcs=>∀k d c n seen l,(DJ cs k d c n seen l).1=true->Ee l (DJ cs k d c n seen l).2 (EH cs)) ?_ ?_ ?_ ?_ ?_ ps
 ·intro p w o s d c l h;obtain⟨z,hp,_⟩:=Jt s;rw[p.chk_eq] at h⊢;rw[p.nms_eq,Sh s];have f:∀q m,Ee l q m->Ee l (if !(p.kind==11)&&!(p.name==[]) then NP p.name q else q) ((if !(p.kind==11)&&!(p.name==[]) then[p.name] else[])++m):=by
   intro q m B;cases(!(p.kind==11)&&!(p.name==[])) with
   | true=>simp only[if_true];exact(B.trans (RN p.name q)).same λx=>by grind
   | false=>simpa using B
  by_cases g:p.kind=11
  ·have i:Bf p.kind=false:=by rw[g];rfl
   have e:(p.kind==11)=true:=by simpa using g
   rw[z i];have j:EH []=[]:=by simp only[EH]
   rw[j,Ary];have y:=o (d+1) c false l;simp only[e,i,if_true,if_false,AcY] at h f⊢;grind
  ·have e:(p.kind==11)=false:=by simpa using g
   rw[hp e];have j:CB []=[]:=by simp only[CB]
   rw[j,AqW];simp only[e,if_false,AcY] at h f⊢;cases i:Bf p.kind with
   | false=>
    rw[i] at h;rw[z i];have j:EH []=[]:=by simp only[EH]
    rw[j];simp only[if_false,AcY] at h⊢;exact f l [] (Ee.refl l)
   | true=>
    rw[i] at h;have y:=w p.kind (d+1) c p.cases.length [] l;simp only[if_true] at h⊢;by_cases A:decide (d>=8)=true
    ·rw[A] at h;simp at h
    ·have u:decide (d>=8)=false:=by simpa using A
     rw[u] at h⊢;simp only[AcY,if_false] at h⊢;generalize DJ p.cases p.kind (d+1) c p.cases.length [] l=r at *;obtain⟨b,l1⟩:=r;cases b with
     | false=>simp at h
     | true=>exact f l1 _ (y rfl)
 ·intro d c a l _;simp only[BM,CB];exact Ee.refl l
 ·intro p ps hp o d c a l h;rw[IB] at h⊢;rw[IM];split at h
  ·cases h
  ·rename_i v;rw[if_neg v];have s:p.fieldsB=true:=by grind
   have t:=hp s d c l;generalize p.chk d c l=r at *;obtain⟨b,l1⟩:=r;cases b with
   | false=>simp at h
   | true=>exact(t rfl).trans (o _ _ _ _ h)
 ·intro k d c n seen l _;simp only[DJ,EH];exact Ee.refl l
 ·intro x cs o w k d c n seen l h;rw[Jc] at h⊢;rw[Nt];split at h
  ·cases h
  ·rename_i v;rw[if_neg v];have t:=o d (c||(k !=9)) false l;generalize BM x.2 d (c||(k !=9)) false l=r at *;obtain⟨b,l1⟩:=r;cases b with
   | false=>simp at h
   | true=>exact(t rfl).trans (w _ _ _ _ _ _ h)
theorem K9{a b:List Aa}(c:a.Nodup)(h:∀x∈a,x∈b):a.length<=b.length:=by
 induction a generalizing b with
 | nil=>simp
 | cons x a d=>
  rw[Aun] at c;have e:x∈b:=h x (by simp);have:=d (b:=b.erase x) c.2 λy f=>by grind
  grind
theorem Tc(ps:List Aj):Da ps=TE ps:=by
 unfold Da TE;rw[Lq ps 0 false false []];have a:(0:Int)+1=1:=rfl;rw[a];cases e:Bz ps 1 false false with
 | false=>simp
 | true=>have b:=eZ ps 0 false false [] (by rw[Lq,a,e]);have c:=MZ ps [];have f:=Rt ps _ _ _ e;have g:=K9 (b.2 AxO) λx d=>(c.1 x).2 ((b.1 x).1 d);have h:=K9 (c.2 AxO) λx d=>(b.1 x).2 ((c.1 x).1 d);grind
end Go.Ir
end
namespace Go.Ir
structure WfP (p:Aj):Prop where
 keys:Bf p.kind=true->∀c∈p.cases,Lx p.kind c.1=true
 other:Bf p.kind=true->∃c∈p.cases,c.1=CT
 cases0:Bf p.kind=false->p.cases=[]
 parts0:(p.kind==11)=false->p.parts=[]
 elem:(p.kind==11)=true->p.text=[]/\p.style=[]
 name:Bf p.kind=true->p.name.length<=40
theorem Zt{s:Aa}(h:BN s=true):s.length<=40:=by
 cases s with
 | nil=>simp
 | cons c r=>unfold BN at h;grind
theorem Jp{p:Aj}{c:Bool}(a:(p.kind==11)=false)(b:Bf p.kind=false)(h:KB p c=true):p.fieldsB=true:=by rw[JC p c a b,Aan] at h;exact h.1
theorem ZW(ps:List Aj):∀d c f,Bz ps d c f=true->Cf WfP ps:=by
 refine FJ (P:=λp=>∀d c,p.formedB d c=true->p.all WfP)
  (Q:=λps=>∀d c f,Bz ps d c f=true->Cf WfP ps)
  (R:=λcs=>∀k d c e,Cg cs k d c e=true->DC WfP cs/\(∀x∈cs,Lx k x.1=true)/\(e.contains CT=true\/∃x∈cs,x.1=CT)) ?_ ?_ ?_ ?_ ?_ ps
 ·intro p o l d c h;rw[p.formedB_eq] at h;rw[p.all_eq];cases b:p.kind==11 with
  | true=>
   have i:Bf p.kind=false:=by
    have:p.kind=11:=by simpa using b
    rw[this];rfl
   rw[b,if_pos rfl,Aan] at h;obtain⟨g,j⟩:=h;unfold Qi at g;simp at g;have s:p.cases=[]:=by simpa using g.2
   refine⟨⟨λa=>(by rw[i] at a;cases a),λa=>(by rw[i] at a;cases a),λ_=>s,λa=>(by rw[b] at a;cases a),λ_=>⟨g.1.1.2,g.1.2⟩,λa=>(by rw[i] at a;cases a)⟩,?_,l _ _ _ j⟩;rw[s];simp only[DC]
  | false=>
   rw[b,if_neg (by simp)] at h;cases i:Bf p.kind with
   | true=>
    rw[i,if_pos rfl,Aan] at h;obtain⟨g,j⟩:=h;unfold LF at g;simp at g;have hp:p.parts=[]:=by simpa using g.1.1.2
    obtain⟨m,a2,a3⟩:=o _ _ _ _ j;refine⟨⟨λ_=>a2,λ_=>?_,λa=>(by rw[i] at a;cases a),λ_=>hp,λa=>(by rw[b] at a;cases a),λ_=>Zt g.1.1.1.1.1.2⟩,m,?_⟩
    ·grind
    ·rw[hp];simp only[Cf]
   | false=>
    rw[i,if_neg (by simp)] at h;obtain⟨q,r,w⟩:=Jt (Jp b i h);refine⟨⟨λa=>(by rw[i] at a;cases a),λa=>(by rw[i] at a;cases a),q,r,λa=>(by rw[b] at a;cases a),λa=>(by rw[i] at a;cases a)⟩,?_,?_⟩
    ·rw[q i];simp only[DC]
    ·rw[r b];simp only[Cf]
 ·intro d c f _;simp only[Cf]
 ·intro p ps hp l d c f h;rw[Dg,Aan,Aan] at h;rw[DZ];grind
 ·intro k d c e h;refine⟨by simp only[DC],λx t=>(by cases t),.inl ?_⟩;simpa only[Cg] using h
 ·intro x cs l o k d c e h;rw[Eo,Aan,Aan] at h;obtain⟨z,g,j⟩:=h;obtain⟨m,a2,a3⟩:=o _ _ _ _ j;have A:Lx k x.1=true:=by grind
  rw[Ff];refine⟨⟨l _ _ _ g,m⟩,λy u=>?_,?_⟩
  ·grind
  ·rcases a3 with a3|⟨y,u,v⟩
   ·have:CT∈e\/CT=x.1:=by simpa using a3
    grind
   grind
def Us(L:List EU)(p:Aj):Prop:=Bf p.kind=true->¬I1 L p.kind p.name<0
theorem Us.mono{L a:List EU}(h:DR L a){p:Aj}(hp:Us L p):Us a p:=λb=>by have:=hp b;rw[YK h _ _ this];exact this
def KS(G:Int->Aa->Prop)(l:List EU):Prop:=∀s∈l,∀k∈s.keys,G s.kind k
theorem KS.mod{G:Int->Aa->Prop}{l:List EU}(h:KS G l){j:Nat}{key:Aa}{s:EU}(e:l[j]?=some s)(m:G s.kind key):KS G (l.modify j (G9 key)):=by
 intro t o k a;obtain⟨i,c⟩:=List.getElem?_of_mem o;rw[AwM] at c;by_cases g:j=i
 ·subst g;rw[e] at c;have f:G9 key s=t:=by simpa using c
  subst f;have d:=Aln e;unfold G9 at a⊢;split at a
  ·rename_i b;rw[if_pos b];exact h s d k a
  ·rename_i b;rw[if_neg b];simp only[Ajn,ArF] at a;rcases a with a|rfl
   ·exact h s d k a
   ·exact m
 ·have:l[i]?=some t:=by
   grind
  exact h t (Aln this) k a
theorem KS.add{G:Int->Aa->Prop}{l:List EU}(h:KS G l)(k:Int)(n:Aa):KS G (Ub l k n):=by
 unfold Ub;split
 ·intro s a k b;rcases Ajn.1 a with a|a
  ·exact h s a k b
  grind
 ·exact h
theorem KS.nil(G:Int->Aa->Prop):KS G []:=λs a=>by cases a

structure AsK (p:Aj):Prop where
 sel:Bf p.kind=false
 ten:(p.kind==10)=false
 cs:p.cases=[]
structure Avc (l:List EU):Prop where
 nm:∀s∈l,Bf s.kind=true/\BN s.name=true
 nd:(l.map fun s=>(s.kind,s.name)).Nodup
 ks:∀s∈l,s.keys.Nodup

structure Ast (l:Loc) (ps:List Aj) (F:oG):Prop where
 sound:Aiw F=true
 some:0<F.2.length
 bare:∀v∈F.2,Cf AsK v/\AU v<=2^19/\(Da v=true->Amz l v=(([],[v]),0))
 only:L9 ps=true->F.2=[ps]
 nm:∀s∈F.1,s.name.length<=40
end Go.Ir
section
namespace Go.Ir
def FSz(k:Int):Int:=if k==3||k==4||k==7||k==8 then 2 else if k==5 then 3 else if k==6 then 4 else if k==9 then 1 else 0
def Df(k:Int):Bool:=!(decide (k<2)||decide (k>=10))
def Fa(t:Int):Bool:=decide (t>=0)&&decide (t<=4)
def Jz(a b:Int):Int×Bool:=if !Fa a||!Fa b then(0,false) else if a==b then(a,true) else if a==0&&b !=4 then(b,true) else if b==0&&a !=4 then(a,true) else(0,false)
def Cj(t:CO×Bool)(u:Aa×Int):CO×Bool:=match Bl t.1 u.1 with
 | none=>(Gw t.1 u.1 u.2,t.2)
 | some a=>(Gw t.1 u.1 (Jz a u.2).1,t.2||!(Jz a u.2).2)
mutual
def Aj.uses:Aj->List (Aa×Int)
 | ⟨k,_,n,_,cs,ps⟩=>(if Df k then[(n,FSz k)] else[])++(CM cs++By ps)
def By:List Aj->List (Aa×Int)
 | []=>[]
 | p::ps=>p.uses++By ps
def CM:List (Aa×List Aj)->List (Aa×Int)
 | []=>[]
 | (_,ps)::cs=>By ps++CM cs
end
theorem Aj.uses_eq(p:Aj):p.uses=(if Df p.kind then[(p.name,FSz p.kind)] else[])++(CM p.cases++By p.parts):=by cases p;simp only[Aj.uses]
theorem Up:By []=[]:=by simp only[By]
theorem Ht(p:Aj)(ps:List Aj):By (p::ps)=p.uses++By ps:=by simp only[By]
theorem T0:CM []=[]:=by simp only[CM]
theorem Hs(c:AJ)(cs:List AJ):CM (c::cs)=By c.2++CM cs:=by obtain⟨k,q⟩:=c;simp only[CM]
def EK(ps:List Aj):CO×Bool:=(By ps).foldl Cj ([],false)
theorem DE(m:CO)(n:Aa)(k:Int)(a:Aa):Bl (Gw m n k) a=if a=n then some k else Bl m a:=by
 induction m with
 | nil=>simp only[Gw,Bl,beq_iff_eq];grind
 | cons e m c=>
  rw[Gw];by_cases h:e.1=n
  ·have b:(e.1==n)=true:=by simpa using h
   rw[b,if_pos rfl];simp only[Bl,beq_iff_eq];grind
  ·have b:(e.1==n)=false:=by simpa using h
   rw[b,if_neg (by simp)];simp only[Bl,beq_iff_eq,c];grind
theorem iO{a b:Int}(h:(Jz a b).2=true):(a≠0->(Jz a b).1=a)/\(b≠0->(Jz a b).1=b):=by unfold Jz at *;grind
theorem ZR(t:CO×Bool)(u:Aa×Int)(h:(Cj t u).2=false):t.2=false:=by unfold Cj at h;grind
theorem Mz(us:List (Aa×Int)):∀t:CO×Bool,(us.foldl Cj t).2=false->t.2=false:=by
 induction us with
 | nil=>intro t h;exact h
 | cons u us a=>intro t h;exact ZR _ _ (a _ h)
theorem kP(t:CO×Bool)(u:Aa×Int)(h:(Cj t u).2=false):(∀n x,Bl t.1 n=some x->x≠0->Bl (Cj t u).1 n=some x)/\(u.2≠0->Bl (Cj t u).1 u.1=some u.2):=by
 unfold Cj at *;split at h
 ·rename_i b;simp only[b];refine⟨λn x c a=>?_,λ_=>by rw[DE,if_pos rfl]⟩;rw[DE,if_neg]
  ·exact c
  grind
 ·rename_i e b;simp only[b];simp only[Au8,AuA] at h;have d:=iO h.2;refine⟨λn x c a=>?_,λa=>by rw[DE,if_pos rfl,d.2 a]⟩;rw[DE];grind
theorem bK(us:List (Aa×Int)):∀t:CO×Bool,(us.foldl Cj t).2=false->(∀n x,Bl t.1 n=some x->x≠0->Bl (us.foldl Cj t).1 n=some x)/\∀u∈us,u.2≠0->Bl (us.foldl Cj t).1 u.1=some u.2:=by
 induction us with
 | nil=>grind
 | cons v us a=>intro t h;have b:=a _ h;have c:=kP t v (Mz us _ h);grind
def QX(a b:Int):Bool:=a==b||(b==0&&a !=4)
def ES(vs:List AY):CO->Int->Int×Int
 | [],_=>(0,0)
 | a::r,i=>match Bt vs a.1 with
  | none=>(i,12)
  | some v=>if !Gh v||!QX v.type a.2 then(i,11) else ES vs r (i+1)
theorem aR{vs:List AY}(args:CO):∀i,(ES vs args i).2=0->∀a∈args,∃v,Bt vs a.1=some v/\Gh v=true/\QX v.type a.2=true:=by
 induction args with
 | nil=>intro i _ a c;cases c
 | cons b r d=>intro i h a c;rw[ES] at h;grind
end Go.Ir
end
namespace Go.Ir
open Go.Proofs
variable{P:Program}{W0:World}{nt n:Nat}{Q:Exit→St→Prop}{env:AE}{σ:Al}
def qF:IC:=sQ (oS [m1 14 4,nC 15 14,fA 16 15 1,l1 17 16] [4,17] (cD 17 (oR [mC 2 .nil,mZ 3 11] [2,3]) .skip)) (oR [m1 18 4,o1 19 (.calls 37 [.t 18]),m1 2 19,mZ 3 0] [2,3])
def Aet:IC:=oS [o1 8 (.mkm .mkmap []),o1 9 (.build [.nm,.b false] [(0,1,.t 8)]),bX 10 9,m1 4 10] [0,4] (oS [m1 11 4,m1 12 0,o1 13 (.calls 36 [.t 11,.t 12])] [4] qF)
def AeA:IC:=oS [mC 2 .nil,mZ 3 0] [0] (sQ (oS [m1 5 0,q1 6 35 5,nT 7 6] [0,7] (cD 7 (oR [mC 2 .nil,mZ 3 1] [2,3]) .skip)) Aet)
@[push_cast]def ArH:List R:=[.t 2,.t 3]
@[push_cast]def Aw2:=Ar qF.eq_1<|Ar Aet.eq_1<|AM AeA.eq_1
theorem Apu:Au Tryz.prog 19 20 AeA ArH=true:=by kernel_rfl
def iS:IC:=oS [lA 30 8 5,q1 31 40 30,nT 32 31,m1 33 32,ER 34 33 8 1,E8 35 33 34,ER 36 33 7 1,E8 37 33 36,gF 38 33 (.call 41 [.t 35,.t 37]),gF 39 33 (.not (.t 38)),pO 40 33 39] [1,6,13,14,15,40] (cD 40 (oR [m1 41 6,m1 4 41,mZ 5 11] [4,5]) .skip)
def sD:IC:=oS [m1 21 1,fA 22 7 0,l1 23 22,q2 24 39 21 23,m1 20 24,xT 25 20 0,xT 26 20 1,o1 8 (.alloc (.agg [.s [],.i .i64 0,.s [],.i .i64 0,.nil])),sT 8 25 5,m1 9 26] [1,6,7,8,9,13,14,15] (sQ (oS [m1 27 9,nT 28 27] [1,6,7,8,13,14,15,28] (cD 28 (oR [m1 29 6,m1 4 29,mZ 5 12] [4,5]) .skip)) iS)
def gL:IC:=sQ (.block 1 (oS [m1 17 15,iA 18 13 15 86 2,lA 19 18 2,o1 7 (.alloc (.agg [.s [],.i .i64 0])),m1 6 17,sT 7 19 2] [1,6,7,13,14,15] sD)) (oP [bZ 42 .add 15 1,m1 15 42] [1,13,14,15])
def Adj:IC:=sQ (oS [m1 13 0,nL 14 13,mZ 15 0] [1,13,14,15] (.block 0 (.loop (oS [bT 16 .lss 15 14] [1,13,14,15,16] (sQ (cD 16 .skip (.exit 0)) gL))))) (oR [mZ 4 0,mZ 5 0] [4,5])
def Adz:IC:=oS [mZ 4 0,mZ 5 0] [0,1] (sQ (oS [m1 10 0,q1 11 38 10,nT 12 11] [0,1,12] (cD 12 (oR [mZ 4 0,mZ 5 1] [4,5]) .skip)) Adj)
@[push_cast]def As6:List R:=[.t 4,.t 5]
@[push_cast]def Aw0:=Ar iS.eq_1<|Ar sD.eq_1<|Ar gL.eq_1<|Ar Adj.eq_1<|AM Adz.eq_1
theorem AoC:Au Tryz.prog 20 43 Adz As6=true:=by kernel_rfl
def dN:IC:=sQ (.ops [fA 12 4 0,l1 13 12,q1 14 62 13,nT 15 14,m1 16 15,ER 17 16 4 1,E8 18 16 17,gF 19 16 (.call 63 [.t 18]),gF 20 16 (.not (.t 19)),pO 21 16 20,m1 22 21,BI 23 22 3,EI 24 22 .gtr 23 0,BI 25 22 24,Ft 26 25 4 0,EQ 27 25 26,BL 28 25 0,BL 29 25 3,Fz 30 25 .sub 29 1,gT 31 25 (.iaddr (.t 28) (.t 30) 86 2),Ft 32 25 31 0,EQ 33 25 32,gT 34 25 (.bin .leq (.t 27) (.t 33)),gF 35 22 (.pick (.t 25) (.t 34) (.c (.b false))),pO 36 22 35] [0,5,6,7,36] [[0,1],[1,2],[2,3],[3,4],[4,5],[4,6],[5,6],[4,7],[6,7],[4,8],[7,8],[4,9],[8,9],[9,10],[10,11],[10,12],[11,12],[10,13],[12,13],[13,14],[13,15],[14,15],[13,16],[13,17],[13,18],[17,18],[13,19],[16,19],[18,19],[13,20],[19,20],[13,21],[20,21],[13,22],[15,22],[21,22],[10,23],[13,23],[22,23],[10,24],[23,24]]) (cD 36 (oR [mC 2 (.b false)] [2]) .skip)
def eK:IC:=sQ (.block 1 (oS [m1 9 7,iA 10 5 7 86 2,lA 11 10 2,o1 4 (.alloc (.agg [.s [],.i .i64 0])),m1 3 9,sT 4 11 2] [0,3,4,5,6,7] dN)) (oP [bZ 37 .add 7 1,m1 7 37] [0,5,6,7])
def Adf:IC:=sQ (oS [m1 5 0,nL 6 5,mZ 7 0] [0,5,6,7] (.block 0 (.loop (oS [bT 8 .lss 7 6] [0,5,6,7,8] (sQ (cD 8 .skip (.exit 0)) eK))))) (oR [m1 38 0,nL 39 38,bZ 40 .leq 39 20,m1 2 40] [2])
def Afy:IC:=oS [mC 2 (.b false)] [0] Adf
@[push_cast]def AtJ:List R:=[.t 2]
@[push_cast]def AwG:=Ar dN.eq_1<|Ar eK.eq_1<|Ar Adf.eq_1<|AM Afy.eq_1
theorem AoA:Au Tryz.prog 38 41 Afy AtJ=true:=by kernel_rfl
def Afh:IC:=oR [m1 5 0,m1 6 1,bT 7 .eql 5 6,m1 8 7,BI 9 8 1,EI 10 8 .eql 9 0,BI 11 8 10,BL 12 11 0,Fz 13 11 .neq 12 4,gF 14 8 (.pick (.t 11) (.t 13) (.c (.b false))),pO 15 8 14,m1 4 15] [4]
def AeM:IC:=oS [mC 4 (.b false)] [0,1] Afh
@[push_cast]def AsJ:List R:=[.t 4]
@[push_cast]def AwS:=Ar Afh.eq_1<|AM AeM.eq_1
theorem ApN:Au Tryz.prog 41 16 AeM AsJ=true:=by kernel_rfl
def Af4:IC:=sQ (oS [m1 6 0,bZ 7 .lss 6 2,m1 8 7,BI 9 8 0,EI 10 8 .geq 9 10,pO 11 8 10] [0,4,11] (cD 11 (oR [mZ 2 0,mC 3 (.b false)] [2,3]) .skip)) (oR [m1 12 0,o1 13 (.pu (.aidx 10 1) [.t 4,.t 12]),l1 14 13,m1 2 14,mC 3 (.b true)] [2,3])
def Aed:IC:=oS [o1 5 (.build [.i .i64 0,.i .i64 0,.i .i64 0,.i .i64 0,.i .i64 0,.i .i64 0,.i .i64 0,.i .i64 0,.i .i64 0,.i .i64 0] [(2,1,ci 0),(3,1,ci 2),(4,1,ci 2),(5,1,ci 3),(6,1,ci 4),(7,1,ci 2),(8,1,ci 2),(9,1,ci 1)]),o1 4 (.alloc (.agg [.i .i64 0,.i .i64 0,.i .i64 0,.i .i64 0,.i .i64 0,.i .i64 0,.i .i64 0,.i .i64 0,.i .i64 0,.i .i64 0])),sT 4 5 10] [0,4] Af4
def Afe:IC:=oS [mZ 2 0,mC 3 (.b false)] [0] Aed
@[push_cast]def Atd:List R:=[.t 2,.t 3]
@[push_cast]def Awu:=Ar Af4.eq_1<|Ar Aed.eq_1<|AM Afe.eq_1
theorem Aeg:Au Tryz.prog 60 15 Afe Atd=true:=by kernel_rfl
def AeK:IC:=oS [mC 2 (.b false)] [0] (oR [m1 3 0,bZ 4 .geq 3 0,m1 5 4,BL 6 5 0,Fz 7 5 .leq 6 4,pA 8 5 7,m1 2 8] [2])
@[push_cast]def As3:List R:=[.t 2]
@[push_cast]def Awm:=AM AeK.eq_1
theorem AoS:Au Tryz.prog 63 9 AeK As3=true:=by kernel_rfl
def qI:IC:=oS [m1 29 1,bZ 30 .eql 29 0,m1 31 30,BL 32 31 0,Fz 33 31 .neq 32 4,pA 34 31 33,m1 28 34] [0,28] (cD 28 (oR [m1 35 0,m1 4 35,mC 5 (.b true)] [4,5]) .skip)
def oO:IC:=oS [m1 21 0,bZ 22 .eql 21 0,m1 23 22,BL 24 23 1,Fz 25 23 .neq 24 4,pA 26 23 25,m1 20 26] [0,1,20] (cD 20 (oR [m1 27 1,m1 4 27,mC 5 (.b true)] [4,5]) qI)
def Ad8:IC:=cD 6 (oR [mZ 4 0,mC 5 (.b false)] [4,5]) (oS [m1 16 0,m1 17 1,bT 18 .eql 16 17,m1 15 18] [0,1,15] (cD 15 (oR [m1 19 0,m1 4 19,mC 5 (.b true)] [4,5]) oO))
def AeS:IC:=sQ (.block 0 (oS [m1 7 0,q1 8 63 7,nT 9 8,m1 10 9,BI 11 10 1,gF 12 10 (.call 63 [.t 11]),gF 13 10 (.not (.t 12)),pO 14 10 13,m1 6 14] [0,1,6] Ad8)) (oR [mZ 4 0,mC 5 (.b false)] [4,5])
def Ae7:IC:=oS [mZ 4 0,mC 5 (.b false)] [0,1] AeS
@[push_cast]def AsI:List R:=[.t 4,.t 5]
@[push_cast]def AwW:=Ar qI.eq_1<|Ar oO.eq_1<|Ar Ad8.eq_1<|Ar AeS.eq_1<|AM Ae7.eq_1
theorem AmS:Au Tryz.prog 50 36 Ae7 AsI=true:=by kernel_rfl
def mE:IC:=sQ (.block 3 (oS [iA 33 29 31 118 2,lA 34 33 2,o1 9 (.alloc (.agg [.s [],.nil])),sT 9 34 2] [0,5,9,10,11,12,29,30,31] (oP [m1 35 0,fA 36 9 1,l1 37 36,o1 38 (.calls 36 [.t 35,.t 37])] [0,5,10,11,12,29,30,31]))) (oP [bZ 39 .add 31 1,m1 31 39] [0,5,10,11,12,29,30,31])
def Uz:IC:=oS [bT 32 .lss 31 30] [0,5,10,11,12,29,30,31,32] (sQ (cD 32 .skip (.exit 2)) mE)
def vP:IC:=sQ (oS [fA 28 5 4,l1 29 28,nL 30 29,mZ 31 0] [0,5,10,11,12,29,30,31] (.block 2 (.loop Uz))) (oP [m1 40 0,fA 41 5 5,l1 42 41,o1 43 (.calls 36 [.t 40,.t 42])] [0,10,11,12])
def wQ:IC:=sQ (oS [fA 17 5 0,l1 18 17,q1 19 60 18,m1 16 19,xT 20 16 0,xT 21 16 1,m1 6 20,m1 7 21] [0,5,6,7,10,11,12] (oS [m1 22 7] [0,5,6,10,11,12,22] (cD 22 (oP [m1 23 0,fA 24 5 2,l1 25 24,m1 26 6,o1 27 (.calls 61 [.t 23,.t 25,.t 26])] [0,5,10,11,12]) .skip))) vP
def AfJ:IC:=sQ (.block 1 (oS [iA 14 10 12 116 6,lA 15 14 6,o1 5 (.alloc (.agg [.i .i64 0,.s [],.s [],.s [],.nil,.nil])),sT 5 15 6] [0,5,10,11,12] wQ)) (oP [bZ 44 .add 12 1,m1 12 44] [0,10,11,12])
def Adh:IC:=oS [m1 10 1,nL 11 10,mZ 12 0] [0,10,11,12] (.block 0 (.loop (oS [bT 13 .lss 12 11] [0,10,11,12,13] (sQ (cD 13 .skip (.exit 0)) AfJ))))
@[push_cast]def Asv:List R:=[]
@[push_cast]def AvQ:=Ar mE.eq_1<|Ar Uz.eq_1<|Ar vP.eq_1<|Ar wQ.eq_1<|Ar AfJ.eq_1<|AM Adh.eq_1
theorem Aqk:Au Tryz.prog 36 45 Adh Asv=true:=by kernel_rfl
def gK:IC:=oP [m1 17 3,m1 18 5,m1 19 0,nC 20 19,fA 21 20 0,l1 22 21,m1 23 5,o1 24 (.rdm (.mget .str (.i .i64 0) false) (.t 22) [.t 23]),o1 25 (.build [.s [],.i .i64 0] [(0,1,.t 18),(1,1,.t 24)]),o1 26 (.msl false 86 2 [.t 25]),o1 27 (.app (.t 17) (.t 26) 86 2),m1 3 27] [0,3,11,12,13]
def Ad6:IC:=oS [bT 14 .lss 13 12] [0,3,11,12,13,14] (sQ (cD 14 .skip (.exit 0)) (sQ (.block 1 (oS [iA 15 11 13 9 1,l1 16 15,m1 5 16] [0,3,5,11,12,13] gK)) (oP [bZ 28 .add 13 1,m1 13 28] [0,3,11,12,13])))
def Afz:IC:=sQ (sQ (.opx [m1 6 0,nC 7 6,fA 8 7 0,l1 9 8] [0,3,9] 10 52 [.t 9] [o1 11 (.calln 51 [.t 10]),nL 12 11,mZ 13 0] [0,3,11,12,13]) (.block 0 (.loop Ad6))) (oR [m1 29 3,m1 2 29] [2])
def AdR:IC:=oS [mC 2 .nil] [0] (oS [mC 3 .nil] [0,3] Afz)
@[push_cast]def AtD:List R:=[.t 2]
@[push_cast]def Awi:=Ar gK.eq_1<|Ar Ad6.eq_1<|Ar Afz.eq_1<|AM AdR.eq_1
theorem AqM:Au Tryz.prog 37 30 AdR AtD=true:=by kernel_rfl
def eH:IC:=oS [m1 33 0,nC 34 33,fA 35 34 0,l1 36 35,m1 37 1,m1 38 8,o0 (.wrm (.mput .str) (.t 36) [.t 37,.t 38])] [0,9] (oP [m1 39 0,m1 40 0,nC 41 40,fA 42 41 1,l1 43 42,m1 44 43,BI 45 44 9,gF 46 44 (.not (.t 45)),pO 47 44 46,nC 48 39,fA 49 48 1,sT 49 47 1] [])
def Aev:IC:=sQ (oS [m1 19 7,nT 20 19] [0,1,2,6,20] (cD 20 (oR [m1 21 0,nC 22 21,fA 23 22 0,l1 24 23,m1 25 1,m1 26 2,o0 (.wrm (.mput .str) (.t 24) [.t 25,.t 26])] []) .skip)) (oS [m1 28 6,m1 29 2,q2 30 50 28 29,m1 27 30,xT 31 27 0,xT 32 27 1,m1 8 31,m1 9 32] [0,1,8,9] eH)
def AdV:IC:=oS [m1 11 0,nC 12 11,fA 13 12 0,l1 14 13,m1 15 1,o1 16 (.rdm (.mget .str (.i .i64 0) true) (.t 14) [.t 15]),m1 10 16,xT 17 10 0,xT 18 10 1,m1 6 17,m1 7 18] [0,1,2,6,7] Aev
@[push_cast]def AtG:List R:=[]
@[push_cast]def AvP:=Ar eH.eq_1<|Ar Aev.eq_1<|AM AdV.eq_1
theorem AmM:Au Tryz.prog 61 50 AdV AtG=true:=by kernel_rfl
end Go.Ir

namespace Go.Ir
open Go.Proofs
variable(W0:World)
def JE(a:Aa×Int):V:=.agg [.s a.1,.i .i64 a.2]
def Im(i:Int)(a:Aa):CO->Bool
 | []=>true
 | x::r=>if !BN x.1||!Fa x.2||(decide (i>0)&&(Op.bytesLess x.1 a||x.1==a)) then false else Im (i+1) x.1 r
def MM(args:CO):Bool:=Im 0 [] args&&decide ((args.length:Int)<=20)
theorem No(t:Int):An Tryz.prog W0 63 [.i .i64 t] [] (.b (Fa t)) []:=by
 generalize hS:Fa t=S;unfold Fa at hS;refine Ah (vs:=[.b S]) AoS (by simp) (by simp) λn0 a=>?_;clear a;simp only[push_cast,seval,reduceEqDiff]
 repeat' (first|(((first|apply Ab|apply Ag|apply Af)<;>intro _h)<;>simp only[push_cast,seval,reduceEqDiff,_h])|intro _)
 all_goals (subst hS;refine Ai ?_;simp[get, *];done)
theorem Ahu(a b:Int):An Tryz.prog W0 50 [.i .i64 a,.i .i64 b] [] (.tup [.i .i64 (Jz a b).1,.b (Jz a b).2]) []:=by
 have d:=No W0 a;have e:=No W0 b;generalize hS:Jz a b=S;unfold Jz at hS;generalize Fa a=f at *;generalize Fa b=g at *;refine Ah (vs:=[.i .i64 S.1,.b S.2]) AmS (by simp) (by simp) λn0 c=>?_;clear c;simp only[push_cast,seval,reduceEqDiff];have _h:=trivial;repeat' (first|(first|((first|apply Ab|apply Ag|apply Af)<;>intro _h)|refine Ac d ?_|refine Ac e ?_)<;>simp only[push_cast,seval,reduceEqDiff,_h]|intro _)
 all_goals (simp only[*,bq,if_true,if_false,Int.reduceBEq,reduceCtorEq] at hS)
 all_goals (subst hS;refine Ae ?_;simp[push_cast,get])
theorem AkV(a b:Int):An Tryz.prog W0 41 [.i .i64 a,.i .i64 b] [] (.b (QX a b)) []:=by
 generalize hS:QX a b=S;unfold QX at hS;refine Ah (vs:=[.b S]) ApN (by simp) (by simp) λn0 c=>?_;clear c;simp only[push_cast,seval,reduceEqDiff]
 repeat' (first|(((first|apply Ab|apply Ag|apply Af)<;>intro _h)<;>simp only[push_cast,seval,reduceEqDiff,_h])|intro _)
 all_goals (subst hS;refine Ai ?_;simp[get, *];done)
theorem AoU{a:Aa×Int}{done b L:CO}(h:L=done++a::b):(L.map JE)[done.length]?=some (.agg [.s a.1,.i .i64 a.2]):=by rw[h,Aru,Arf (by simp)];simp[JE]
theorem xD(args:CO)(J:∀a∈args,a.1.length<AA)(M:args.length<=2^30):An Tryz.prog W0 38 [.sl (args.map JE)] [] (.b (MM args)) []:=by
 generalize hS:MM args=S;unfold MM at hS;refine Ah (vs:=[.b S]) AoA (by simp) (by simp) λn0 C=>?_;clear C;simp only[push_cast,seval,reduceEqDiff];intros;refine Am args.length (Inv:=λm st=>∃done c p n',args=done++c/\m=c.length/\(∀k,done.length=k+1->∃t,(args.map JE)[k]?=some (.agg [.s p,.i .i64 t]))/\(Im done.length p c&&decide ((args.length:Int)<=20))=S/\st=⟨[(0,.sl (args.map JE)),(5,.sl (args.map JE)),(6,.i .i64 args.length),(7,.i .i64 done.length)],[],n'⟩) ⟨_,Ak.refl,[],args,[],_,rfl,rfl,(λk h=>by simp at h),hS,rfl⟩ ?_;clear hS;rintro m _ ⟨done,c,p,n',q,rfl,D,e,rfl⟩;cases c with
 | nil=>
  simp only[Im,AtA] at e;subst e;have A:args.length=done.length:=by rw[q];simp
  rw[A];simp only[push_cast,seval,reduceEqDiff,q];intros;exact Ai (by simp[get])
 | cons x c=>
  have I:=AH q;have r:=CR W0 x.1 (J x (by rw[q];simp));have u:=No W0 x.2;rw[Im] at e;generalize BN x.1=K at *;generalize Fa x.2=L at *;have g:=AoU q;have j:decide ((done.length:Int)<(args.length:Int))=true:=by simp;omega
  have d:done.length<args.length:=by omega
  have l:=Ad x (done:=done) (by omega);have w:∀k,(done++[x]).length=k+1->∃t,(args.map JE)[k]?=some (.agg [.s x.1,.i .i64 t]):=by simp_all
  have f:(((done++[x]).length:Nat):Int)=(done.length:Int)+1:=by simp
  generalize E:Im ((done.length:Int)+1) x.1 c=G at e;generalize hB:decide ((args.length:Int)<=20)=B at e;obtain H|⟨k,F⟩:done.length=0\/∃k,done.length=k+1:=by cases done.length<;>simp
  ·have o:decide ((done.length:Int)>0)=false:=by simp[H]
   rw[o] at e;simp only[push_cast,seval,reduceEqDiff,g,o,j,d,l];have _h:=trivial;repeat' (first|(first|((first|apply Ab|apply Ag|apply Af)<;>intro _h)|refine Ac r ?_|refine Ac u ?_)<;>simp only[push_cast,seval,reduceEqDiff,_h,g,o,j,d,l]|intro _)
   all_goals (simp only[*,bq,if_true,if_false,Int.reduceBEq,reduceCtorEq] at e;first|(subst e;exact Ai (by simp[get]))|exact⟨_,_,Ab3 _,Ak.drop1 (by simp[lk]) (Abm _),done++[x],c,x.1,_,by rw[q];simp,rfl,w,by rw[f,E];exact e,rfl⟩)
  ·have o:decide ((done.length:Int)>0)=true:=by simp[F]
   obtain⟨t,y⟩:=D k F;have z:IntKind.i64.wrap ((done.length:Int)-1)=(k:Nat):=by rw[wrap64 (by omega) (by omega)];omega
   have v:k<args.length:=by omega
   rw[o] at e;simp only[push_cast,seval,reduceEqDiff,g,o,j,d,l,z,y,v];have _h:=trivial;repeat' (first|(first|((first|apply Ab|apply Ag|apply Af)<;>intro _h)|refine Ac r ?_|refine Ac u ?_)<;>simp only[push_cast,seval,reduceEqDiff,_h,g,o,j,d,l,z,y,v]|intro _)
   all_goals (simp only[*,bq,if_true,if_false,Int.reduceBEq,reduceCtorEq] at e;first|(subst e;exact Ai (by simp[get]))|exact⟨_,_,Ab3 _,Ak.drop1 (by simp[lk]) (Abm _),done++[x],c,x.1,_,by rw[q];simp,rfl,w,by rw[f,E];exact e,rfl⟩)
def GD(args:CO)(vs:List AY):Int×Int:=if !MM args then(0,1) else ES vs args 0
theorem cI(args:CO)(vs:List AY)(z:∀a∈args,a.1.length<AA)(y:args.length<=2^30)(r:vs.length<=2^40)(u:∀v∈vs,v.text.length<=2^29/\v.list.length<=2^30) :
  An Tryz.prog W0 20 [.sl (args.map JE),.sl (vs.map AY.enc)] [] (.tup [.i .i64 (GD args vs).1,.i .i64 (GD args vs).2]) []:=by
 have h:=xD W0 args z y;generalize hS:GD args vs=S;unfold GD at hS;refine Ah (vs:=[.i .i64 S.1,.i .i64 S.2]) AoC (by simp) (by simp) λn0 t=>?_;clear t;cases p:MM args with
 | false=>
  rw[p] at h hS;simp only[bq,if_true,if_false,Int.reduceBEq,reduceCtorEq,Av9] at hS;subst hS;simp only[push_cast,seval,reduceEqDiff];have _h:=trivial;repeat' (first|(first|((first|apply Ab|apply Ag|apply Af)<;>intro _h)|refine Ac h ?_)<;>simp only[push_cast,seval,reduceEqDiff,_h]|intro _)
  all_goals (refine Ae ?_;simp[push_cast,get])
 | true=>
 rw[p] at h hS;simp only[bq,if_true,if_false,Int.reduceBEq,reduceCtorEq,Av6] at hS;simp only[push_cast,seval,reduceEqDiff];have _h:=trivial;repeat' (first|(first|((first|apply Ab|apply Ag|apply Af)<;>intro _h)|refine Ac h ?_)<;>simp only[push_cast,seval,reduceEqDiff,_h]|intro _)
 refine Am args.length (Inv:=λm st=>∃done b n',args=done++b/\m=b.length/\ES vs b done.length=S/\st=⟨[(1,.sl (vs.map AY.enc)),(13,.sl (args.map JE)),(14,.i .i64 args.length),(15,.i .i64 done.length)],[],n'⟩) ⟨_,Ak.refl,[],args,_,rfl,rfl,hS,rfl⟩ ?_;clear hS;rintro m _ ⟨done,b,n',o,rfl,d,rfl⟩;cases b with
 | nil=>
  simp only[ES] at d;subst d;have s:args.length=done.length:=by rw[o];simp
  rw[s];simp only[push_cast,seval,reduceEqDiff,o];intros;refine Ae ?_;simp[push_cast,get]
 | cons x b=>
  have w:=AH o;have f:=AoU o;have g:decide ((done.length:Int)<(args.length:Int))=true:=by simp;omega
  have c:done.length<args.length:=by omega
  have j:=Ad x (done:=done) (by omega);have k:(((done++[x]).length:Nat):Int)=(done.length:Int)+1:=by simp
  have e:=M5 W0 vs x.1 r (λv p=>(u v p).2);rw[ES] at d;cases l:Bt vs x.1 with
  | none=>
   rw[l] at e d;simp only at d;subst d;unfold Jl gV M1 at e;simp only[AtT] at e;simp only[push_cast,seval,reduceEqDiff,f,g,c,j];have _h:=trivial;repeat' (first|(first|((first|apply Ab|apply Ag|apply Af)<;>intro _h)|refine Ac e ?_)<;>simp only[push_cast,seval,reduceEqDiff,_h,f,g,c,j]|intro _)
   all_goals (refine Ae ?_;simp[push_cast,get])
  | some v=>
   have hp:=K1 W0 v (by have:=(u v (FX l)).1;omega);have q:=AkV W0 v.type x.2;rw[l] at e d;simp only at d;unfold Jl gV at e;simp only[Ars] at e;rw[AY.enc_eq] at e hp;generalize Gh v=A at *;generalize QX v.type x.2=B at *;simp only[push_cast,seval,reduceEqDiff,f,g,c,j];have _h:=trivial;repeat' (first|(first|((first|apply Ab|apply Ag|apply Af)<;>intro _h)|refine Ac e ?_|refine Ac hp ?_|refine Ac q ?_)<;>simp only[push_cast,seval,reduceEqDiff,_h,f,g,c,j]|intro _)
   all_goals (simp only[*,bq,if_true,if_false,Int.reduceBEq,reduceCtorEq] at d;first|(subst d;refine Ae ?_;simp[push_cast,get];done)|exact⟨_,_,Ab3 _,(Ak.drop1 (by simp[lk]) (Abm _)).trans (Ak.drop1 (by simp[lk]) (Abm _)),done++[x],b,_,by rw[o];simp,rfl,by rw[k];exact d,rfl⟩)
theorem AlZ(k:Int):An Tryz.prog W0 60 [.i .i64 k] [] (.tup [.i .i64 (if Df k then FSz k else 0),.b (Df k)]) []:=by
 cases c:Df k with
 | false=>
  refine Ah (vs:=[.i .i64 0,.b false]) Aeg (by simp) (by simp) λn0 a=>?_;clear a;unfold Df at c;simp only[AuA] at c;simp only[push_cast,seval,reduceEqDiff]
  repeat' (first|(((first|apply Ab|apply Ag|apply Af)<;>intro _h)<;>simp only[push_cast,seval,reduceEqDiff,_h])|intro _)
  all_goals (first|(refine Ae ?_;simp[push_cast,get];done)|(exfalso;simp_all;done))
 | true=>
  have d:k=2\/k=3\/k=4\/k=5\/k=6\/k=7\/k=8\/k=9:=by unfold Df at c;simp at c;omega
  clear c;refine Ah (vs:=[.i .i64 (if true then FSz k else 0),.b true]) Aeg (by simp) (by simp) λn0 a=>?_;clear a;rcases d with rfl|rfl|rfl|rfl|rfl|rfl|rfl|rfl
  all_goals
   skip;simp only[push_cast,seval,reduceEqDiff]
   repeat' (first|(((first|apply Ab|apply Ag|apply Af)<;>intro _h)<;>simp only[push_cast,seval,reduceEqDiff,_h])|intro _)
   all_goals (refine Ae ?_;simp[push_cast,get,FSz])
abbrev AmB:=Aa×List Aj
def Ap0(l:AmB):V:=.agg [.s l.1,.sl (l.2.map Aj.enc)]

end Go.Ir

namespace Go.Ir
open Go.Proofs
variable{P:Program}{W0:World}{nt n:Nat}{Q:Exit→St→Prop}{env:AE}{σ:Al}
end Go.Ir

namespace Go.Ir
open Go.Proofs
variable(W0:World)
end Go.Ir
section
namespace Go.Ir
abbrev Zf:=List (List Aj)
mutual
def Aj.bld:Aj->Zf->Aj×Zf
 | ⟨k,t,n,s,cs,ps⟩,l=>if Bf k then(⟨k,t,n,s,(Va cs l).1,ps⟩,(Va cs l).2) else(⟨k,t,n,s,cs,l.headD []++(Tx ps l.tail).1⟩,(Tx ps l.tail).2)
def Tx:List Aj->Zf->List Aj×Zf
 | [],l=>([],l)
 | p::ps,l=>((p.bld l).1::((p.bld l).2.headD []++(Tx ps (p.bld l).2.tail).1),(Tx ps (p.bld l).2.tail).2)
def Va:List (Aa×List Aj)->Zf->List (Aa×List Aj)×Zf
 | [],l=>([],l)
 | (k,ps)::cs,l=>((k,l.headD []++(Tx ps l.tail).1)::(Va cs (Tx ps l.tail).2).1,(Va cs (Tx ps l.tail).2).2)
end
end Go.Ir
end
namespace Go.Ir
structure WfK (p:Aj):Prop where
 bare:Bf p.kind=true->p.text=[]/\p.style=[]
 nodup:Bf p.kind=true->(p.cases.map (·.1)).Nodup
theorem ofNat_toNat{n:Nat}(h:n<256):(UInt8.ofNat n).toNat=n:=by simp_all
end Go.Ir
section
namespace Go.Ir
mutual
def Aj.cnt:Aj->Nat
 | ⟨k,_,_,_,cs,ps⟩=>if Bf k then AeL cs else 1+AkS ps
def AkS:List Aj->Nat
 | []=>0
 | p::ps=>p.cnt+(1+AkS ps)
def AeL:List (Aa×List Aj)->Nat
 | []=>0
 | (_,ps)::cs=>1+AkS ps+AeL cs
end
end Go.Ir
end
namespace Go.Ir
open Go.Proofs
variable{P:Program}{W0:World}{nt n:Nat}{Q:Exit→St→Prop}{env:AE}{σ:Al}
end Go.Ir

namespace Go.Ir
open Go.Proofs
variable(W0:World)
def bx(l:List AmB):Ax:=.box (.agg [.sl (l.map Ap0)])
theorem WH{b:Id}{E e:Ax}{i:Id}(h:lk [(b,E)] i=some e):i=b/\e=E:=by simp only[lk] at h;grind
def Dn(m:CO):List (V×V):=m.map λe=>(.s e.1,.i .i64 e.2)
theorem HK(k:Aa)(m:CO):∀n,(∃i v,Bl m k=some v/\Br .str (.s k) (Dn m) n=some (some (n+i,.i .i64 v))/\∀x:Int,(Dn m).modify i (λe=>(e.1,.i .i64 x))=Dn (Gw m k x))\/(Bl m k=none/\Br .str (.s k) (Dn m) n=some none/\∀x:Int,Dn m++[(.s k,.i .i64 x)]=Dn (Gw m k x)):=by
 induction m with
 | nil=>intro n;exact .inr ⟨rfl,rfl,λx=>rfl⟩
 | cons e m f=>
  intro n;have d:Br .str (.s k) (Dn (e::m)) n=(match Et .str (.s k) (.s e.1) with
   | some true=>some (some (n,.i .i64 e.2))
   | some false=>Br .str (.s k) (Dn m) (n+1)
   | none=>none):=rfl
  have c:Et .str (.s k) (.s e.1)=some (k==e.1):=rfl;rw[d,c];simp only[Bl,Gw];by_cases h:e.1=k
  ·subst h;refine .inl ⟨0,e.2,by simp,by simp,λx=>by simp[Dn]⟩
  ·have b:(k==e.1)=false:=by simpa using AhZ h
   have a:(e.1==k)=false:=by simpa using h
   rw[b,a];rcases f (n+1) with⟨i,v,h1,h2,h3⟩|⟨h1,h2,h3⟩
   ·refine .inl ⟨i+1,v,by simpa using h1,?_,λx=>?_⟩
    ·grind
    ·have:=h3 x;show(Dn (e::m)).modify (i+1) _=_;simp only[Dn,Alh,List.modify_succ_cons,AcY,if_false] at this⊢;rw[this]
   ·refine .inr ⟨by simpa using h1,by simpa using h2,λx=>?_⟩;have:=h3 x;simp only[Dn,Alh,Anz,AcY,if_false] at this⊢;rw[this]
def B9(tid mid:Id)(t:CO×Bool):Al:=[(tid,.box (.agg [.arr mid,.b t.2])),(mid,.map (Dn t.1))]
theorem Ah2(t:CO×Bool)(d:Aa)(a:Int)(tid mid:Id)(f:tid≠mid) :
  An Tryz.prog W0 61 [.ref tid 0,.s d,.i .i64 a] (B9 tid mid t) (.tup []) (B9 tid mid (Cj t (d,a))):=by
 obtain⟨m,w⟩:=t;have g:(tid=mid)=False:=eq_false f;have j:(mid=tid)=False:=eq_false (AhZ f);unfold Cj B9;refine Ah (vs:=[]) AmM (by simp) (by intro i h;simp only[lk] at h⊢;split<;>simp_all) λn0 k=>?_;clear k;rcases HK d m 0 with⟨i,v,h1,h2,h3⟩|⟨h1,h2,h3⟩
 ·have l:=Ahu W0 v a;simp only[Awg] at h2;simp only[h1];generalize Jz v a=C at *;obtain⟨c,b⟩:=C;cases w
  all_goals
   skip;simp only[push_cast,seval,reduceEqDiff,g,j,h2,h3];have _h:=trivial;repeat' (first|(first|((first|apply Ab|apply Ag|apply Af)<;>intro _h)|refine Ac l ?_)<;>simp only[push_cast,seval,reduceEqDiff,_h,g,j,h2,h3]|intro _)
   all_goals (refine⟨_,Ak.refl,trivial,?_⟩;simp)
 ·simp only[h1];simp only[push_cast,seval,reduceEqDiff,g,j,h2,h3]
  repeat' (first|(((first|apply Ab|apply Ag|apply Af)<;>intro _h)<;>simp only[push_cast,seval,reduceEqDiff,_h,g,j,h2,h3])|intro _)
  all_goals exact⟨_,Ak.refl,trivial,λi e h=>h⟩
theorem WS{tid mid:Id}{t:CO×Bool}{a:Id}(c:a≠tid)(d:a≠mid):∀q∈B9 tid mid t,a≠q.1:=by intro q b;simp[B9] at b;grind
theorem M8{tid mid:Id}{t t':CO×Bool}{pre post:Al}(a:∀p∈pre++post,p.1≠tid/\p.1≠mid):over (B9 tid mid t) (B9 tid mid t') (pre++(B9 tid mid t++post))=B9 tid mid t'++(pre++post):=by rw[<-AvS];exact H5 (λp hp q b=>WS (a p (AtS _ hp)).1 (a p (AtS _ hp)).2 q b) (λp hp q b=>WS (a p (Awv _ hp)).1 (a p (Awv _ hp)).2 q b)
theorem O4{tid mid:Id}{t t':CO×Bool}{a:Id×Ax}{post:Al}(b:∀p∈[a]++post,p.1≠tid/\p.1≠mid):over (B9 tid mid t) (B9 tid mid t') (a::(B9 tid mid t++post))=B9 tid mid t'++(a::post):=M8 (pre:=[a]) b
theorem Yw{tid mid:Id}{t:CO×Bool}{pre post:Al}(d:∀p∈pre,p.1≠tid/\p.1≠mid):∀i e,lk (B9 tid mid t) i=some e->lk (pre++(B9 tid mid t++post)) i=some e:=by
 intro i e h;have g:i=tid\/i=mid:=by simp only[B9,lk] at h;grind
 induction pre with
 | nil=>show lk (B9 tid mid t++post) i=some e;exact AP h
 | cons a pre j=>obtain⟨c,b⟩:=a;have f:=d (c,b) (by simp);show(if c=i then some b else lk (pre++(B9 tid mid t++post)) i)=some e;grind
set_option maxHeartbeats 4000000 in
theorem RU(cs:List AJ)(tid mid a:Id)(X:Ax)(t0:CO×Bool)(n0:Nat)(d e f:V)(Q:Exit->St->Prop)(y:tid≠mid)(C:a≠tid)(D:a≠mid)(G:tid.1<n0)(H:mid.1<n0)(I:a.1<n0)
  (w:∀x∈cs,∀t,An Tryz.prog W0 36 [.ref tid 0,.sl (x.2.map Aj.enc)] (B9 tid mid t) (.tup []) (B9 tid mid ((By x.2).foldl Cj t)))(J:cs.length<=2^30)
  (o:∀n',n0<=n'->Q (.exit 2) ⟨[(0,.ref tid 0),(5,.ref a 0),(10,d),(11,e),(12,f),(29,.sl (cs.map AJ.enc)),(30,.i .i64 cs.length),(31,.i .i64 cs.length),(32,.b false)],B9 tid mid ((CM cs).foldl Cj t0)++[(a,X)],n'⟩) :
  GX Tryz.prog W0 45 Uz Q ⟨[(0,.ref tid 0),(5,.ref a 0),(10,d),(11,e),(12,f),(29,.sl (cs.map AJ.enc)),(30,.i .i64 cs.length),(31,.i .i64 0)],B9 tid mid t0++[(a,X)],n0⟩:=by
 generalize hS:(CM cs).foldl Cj t0=S at o;refine Am cs.length (Inv:=λm st=>∃h g n t,cs=h++g/\m=g.length/\(CM g).foldl Cj t=S/\n0<=n/\st=⟨[(0,.ref tid 0),(5,.ref a 0),(10,d),(11,e),(12,f),(29,.sl (cs.map AJ.enc)),(30,.i .i64 cs.length),(31,.i .i64 h.length)],B9 tid mid t++[(a,X)],n⟩) ⟨_,Ak.refl,[],cs,_,t0,rfl,rfl,hS,Abm _,rfl⟩ ?_;clear hS;rintro m _ ⟨h,g,n,t,k,rfl,l,K,rfl⟩;cases g with
 | nil=>simp only[CM,AwR] at l;subst l;rw[k] at o⊢;simp only[Ary] at o⊢;simp only[push_cast,seval,reduceEqDiff];grind
 | cons c g=>
  have F:=AH k;have r:c∈cs:=by rw[k];simp
  rw[Hs,Ax2] at l;have E:=w c r t;simp only[push_cast,seval,reduceEqDiff,k,Ad c (done:=h) (by omega)];intro k2 k3;have s:∀j,((n+1+k2,j):Id)≠tid:=λj B=>by grind
  have u:∀j,((n+1+k2,j):Id)≠mid:=λj B=>by grind
  have z:∀Y:Ax,∀p∈([((n+1+k2,9),Y)]:Al),p.1≠tid/\p.1≠mid:=by grind
  have A:∀Y:Ax,∀p∈([((n+1+k2,9),Y)]:Al)++[(a,X)],p.1≠tid/\p.1≠mid:=by simp_all
  refine Bq E (Yw (z _)) ?_;rw[O4 (A _)];simp only[push_cast,seval,reduceEqDiff,k,Ad c (done:=h) (by omega)];intros;refine⟨_,_,Ab3 _,Ak.sub ?_ (σ':=B9 tid mid ((By c.2).foldl Cj t)++[(a,X)]) (λq L=>?_) (Abm _),h++[c],g,_,_,by simp,rfl,l,?_,rfl⟩
  ·have v:((n+1+k2,9):Id)≠a:=λB=>by grind
   simp[B9,y,AhZ C,AhZ D,AhZ (s 9),AhZ (u 9),v]
  ·grind
  ·omega
theorem ZY{tid mid:Id}{t t':CO×Bool}{a:Id×Ax}(b:a.1≠tid)(c:a.1≠mid):over (B9 tid mid t) (B9 tid mid t') (a::B9 tid mid t)=B9 tid mid t'++[a]:=by have:=O4 (t:=t) (t':=t') (a:=a) (post:=[]) (by intro p hp;simp at hp;subst hp;exact⟨b,c⟩);simpa using this
theorem wV{tid mid:Id}{t:CO×Bool}{a:Id×Ax}(b:a.1≠tid)(c:a.1≠mid):∀i e,lk (B9 tid mid t) i=some e->lk (a::B9 tid mid t) i=some e:=by have:=Yw (t:=t) (pre:=[a]) (post:=[]) (by intro p hp;simp at hp;subst hp;exact⟨b,c⟩);simpa using this
theorem OF{tid mid:Id}{t t':CO×Bool}{a:Id×Ax}(b:a.1≠tid)(c:a.1≠mid):over (B9 tid mid t) (B9 tid mid t') (B9 tid mid t++[a])=B9 tid mid t'++[a]:=by have:=M8 (t:=t) (t':=t') (pre:=[]) (post:=[a]) (by intro p hp;simp at hp;subst hp;exact⟨b,c⟩);simpa using this
theorem Yd{tid mid a:Id}{X:Ax}(b:a≠tid)(c:a≠mid)(t:CO×Bool):lk (B9 tid mid t++[(a,X)]) a=some X:=by simp[B9,lk,AhZ b,AhZ c]
set_option maxHeartbeats 4000000 in
theorem AbT:∀(N:Nat) (ps:List Aj) (tid mid:Id) (t0:CO×Bool),AU ps<N->AU ps<=2^26->tid≠mid->
  An Tryz.prog W0 36 [.ref tid 0,.sl (ps.map Aj.enc)] (B9 tid mid t0) (.tup []) (B9 tid mid ((By ps).foldl Cj t0)):=by
 intro N
 induction N with
 | zero=>intro ps tid mid t0 h;omega
 | succ N A=>
 intro ps tid mid t0 U W j;have G:=Ez ps;generalize hS:(By ps).foldl Cj t0=S;refine Ah (vs:=[]) Aqk (by simp) (by intro i h;simp only[B9,lk] at h⊢;split<;>simp_all) λn0 v=>?_;have J:tid.1<n0:=v tid (.box (.agg [.arr mid,.b t0.2])) (by simp[B9,lk]);have K:mid.1<n0:=v mid (.map (Dn t0.1)) (by simp[B9,lk,j]);clear v;simp only[push_cast,seval,reduceEqDiff];intro k1;refine Am ps.length (Inv:=λm st=>∃done d n t,ps=done++d/\m=d.length/\(By d).foldl Cj t=S/\n0<=n/\st=⟨[(0,.ref tid 0),(10,.sl (ps.map Aj.enc)),(11,.i .i64 ps.length),(12,.i .i64 done.length)],B9 tid mid t,n⟩) ⟨_,Ak.refl,[],ps,_,t0,rfl,rfl,hS,?_,rfl⟩ ?_
 ·omega
 clear hS;rintro m _ ⟨done,d,n,t,o,rfl,r,v,rfl⟩;cases d with
 | nil=>simp only[By,AwR] at r;subst r;simp only[push_cast,seval,reduceEqDiff,o];intros;exact⟨_,Ak.refl,trivial,λi e h=>h⟩
 | cons p d=>
  have I:=AH o;have O:=Fq (ps:=ps) (p:=p) (by rw[o];simp);have M:=p.wt_eq;have L:=Ep p.cases;have l:=AlZ W0 p.kind;rw[Ht,p.uses_eq,Ax2,Ax2,Ax2] at r;cases F:Df p.kind with
  | false=>
   rw[F] at l r;simp only[bq,if_true,if_false,Int.reduceBEq,reduceCtorEq,AwR] at l r;simp only[push_cast,seval,reduceEqDiff,o,Ad p (done:=done) (by omega)];have _h:=trivial;repeat' (first|(first|((first|apply Ab|apply Ag|apply Af)<;>intro _h)|refine Ac l ?_)<;>simp only[push_cast,seval,reduceEqDiff,_h,o,Ad p (done:=done) (by omega)]|intro _)
   rename_i H k3 k2 E T;obtain⟨a,k⟩:∃a:Id,a=(n+1+H,5):=⟨_,rfl⟩
   have x:a.1<n+1+H+1:=by rw[k];simp
   have D:n<=a.1:=by rw[k];simp only;omega
   have f:a≠tid:=by rintro rfl;omega
   have g:a≠mid:=by rintro rfl;omega
   rw[<-k];obtain⟨X,y⟩:∃X:Ax,X=.box (.agg [V.i IntKind.i64 p.kind,V.s p.text,V.s p.name,V.s p.style,V.sl (List.map AJ.enc p.cases),V.sl (List.map Aj.enc p.parts)]):=⟨_,rfl⟩
   have u:∀t,lk (B9 tid mid t++[(a,X)]) a=some (.box (.agg [V.i IntKind.i64 p.kind,V.s p.text,V.s p.name,V.s p.style,V.sl (List.map AJ.enc p.cases),V.sl (List.map Aj.enc p.parts)])):=λt=>by rw[Yd f g,y]
   rw[<-y];refine Nj (Ak.sub (σ':=B9 tid mid t++[(a,X)]) (by simp[B9,j,f,g]) (λq Y=>by grind) (Abm _)) ?_;refine Nj (Ak.refl) (RU W0 p.cases tid mid a X t _ _ _ _ _ j f g (by omega) (by omega) (by have:=x;omega) (λc z t=>A c.2 tid mid t (by have:=Cm z;omega) (by have:=Cm z;omega) j) (by omega) (λn' B=>?_));have w:=A p.parts tid mid ((CM p.cases).foldl Cj t) (by omega) (by omega) j;simp only[push_cast,seval,reduceEqDiff,o,Ad p (done:=done) (by omega),u];intros;refine Bq w (λi e h=>AP h) ?_;rw[OF f g];simp only[push_cast,seval,reduceEqDiff,o,Ad p (done:=done) (by omega)];intros;exact⟨_,_,Ab3 _,Ak.pre (Abm _),done++[p],d,_,_,by simp,rfl,r,by omega,rfl⟩
  | true=>
   rw[F] at l r;simp only[bq,if_true,if_false,Int.reduceBEq,reduceCtorEq,Awx,AwR] at l r;have C:=Ah2 W0 t p.name (FSz p.kind) tid mid j;simp only[push_cast,seval,reduceEqDiff,o,Ad p (done:=done) (by omega)];have _h:=trivial;repeat' (first|(first|((first|apply Ab|apply Ag|apply Af)<;>intro _h)|refine Ac l ?_)<;>simp only[push_cast,seval,reduceEqDiff,_h,o,Ad p (done:=done) (by omega)]|intro _)
   rename_i k3 k2 E T;obtain⟨a,k⟩:∃a:Id,a=(n+1+k3,5):=⟨_,rfl⟩
   have x:a.1<n+1+k3+1:=by rw[k];simp
   have D:n<=a.1:=by rw[k];simp only;omega
   have f:a≠tid:=by rintro rfl;omega
   have g:a≠mid:=by rintro rfl;omega
   rw[<-k];obtain⟨X,y⟩:∃X:Ax,X=.box (.agg [V.i IntKind.i64 p.kind,V.s p.text,V.s p.name,V.s p.style,V.sl (List.map AJ.enc p.cases),V.sl (List.map Aj.enc p.parts)]):=⟨_,rfl⟩
   have u:∀t,lk (B9 tid mid t++[(a,X)]) a=some (.box (.agg [V.i IntKind.i64 p.kind,V.s p.text,V.s p.name,V.s p.style,V.sl (List.map AJ.enc p.cases),V.sl (List.map Aj.enc p.parts)])):=λt=>by rw[Yd f g,y]
   rw[<-y];refine Bq C (wV f g) ?_;rw[ZY f g];simp only[push_cast,seval,reduceEqDiff,o,Ad p (done:=done) (by omega),u];intros;refine Nj (Ak.refl) (RU W0 p.cases tid mid a X (Cj t (p.name,FSz p.kind)) _ _ _ _ _ j f g (by omega) (by omega) (by have:=x;omega) (λc z t=>A c.2 tid mid t (by have:=Cm z;omega) (by have:=Cm z;omega) j) (by omega) (λn' B=>?_));have w:=A p.parts tid mid ((CM p.cases).foldl Cj (Cj t (p.name,FSz p.kind))) (by omega) (by omega) j;simp only[push_cast,seval,reduceEqDiff,o,Ad p (done:=done) (by omega),u];intros;refine Bq w (λi e h=>AP h) ?_;rw[OF f g];simp only[push_cast,seval,reduceEqDiff,o,Ad p (done:=done) (by omega)];intros;exact⟨_,_,Ab3 _,Ak.pre (Abm _),done++[p],d,_,_,by simp,rfl,r,by omega,rfl⟩
end Go.Ir
