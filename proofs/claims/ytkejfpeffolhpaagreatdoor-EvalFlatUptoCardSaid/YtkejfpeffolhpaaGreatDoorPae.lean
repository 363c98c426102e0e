/- A part of the proof that the law EvalFlat answers true at every input of a bulk of at most 2^20. -/
import Derived.Test.YtkejfpeffolhpaaGreatDoorPad
import Derived.Lib.LaidTab
import Derived.Lib.ItoaLen
import Derived.MakeChecks
import Derived.Shelf.Small.Strs
import Derived.Shelf.Strings.OnBuilder
import Derived.Shelf.Strings.Split
import Derived.Shelf.Strings.Cut
import Derived.Shelf.Strings.Replace
import Derived.Shelf.Slices.ReverseS
import Derived.Shelf.SlIter.Nil
import Derived.Shelf.SortM.Plain
import Derived.Shelf.SortM.SortNone
import Derived.Ground.GgzProg
import Derived.Ground.SlgmProg
import Derived.Shelf.Strings.Repeat
import Derived.Lib.ReplaceLaws
import Derived.Lib.SplitLaws
import Derived.ShapedOpen
import Derived.Shelf.Slices.Clone
import Derived.Shelf.Slices.CompactS
set_option linter.all false
set_option maxHeartbeats 4000000
open Nat renaming reduceEqDiff→rq
open Int renaming reduceBEq→rn
open Int renaming reduceBNe→qz
namespace Go.Ir
open Go.Proofs
variable(O:World)
theorem Ue:∀(N:Nat) (ps:List Ad),A7 ps<N->A7 ps<=2^24->
  Ak π O 62 [.sl (ps.map Ad.enc)] [] (.i .i64 (CV ps)) []:=by
 intro N
 induction N with
 | zero=>intro ps h;omega
 | succ N ih=>
 intro ps hN hb;have Z:=El ps;generalize hS:CV ps=S;refine Ac (vs:=[.i .i64 S]) Ati (by simp) (by simp) λn0 T=>?_;clear T;simp only[push_cast,rq];intros;refine Aj ps.length (Inv:=λm st=>∃dn a n d x,x=((d:Nat):Int)/\ps=dn++a/\m=a.length/\d+CV a=S/\d+20*A7 a<=20*A7 ps/\st=⟨[(3,.i .i64 x),(10,.sl (ps.map Ad.enc)),(11,.i .i64 ps.length),(12,.i .i64 dn.length)],[],n⟩) ⟨_,Ag.refl,[],ps,_,0,0,rfl,rfl,rfl,by omega,by omega,rfl⟩ ?_;clear hS;rintro m _ ⟨dn,a,n,d,_,rfl,f,rfl,b,C,rfl⟩;cases a with
 | nil=>
  rw[CV,A1f] at b;subst b;simp only[push_cast,rq,f]
  repeat' (first|(((first|apply Ai|apply Am|apply Al)<;>intro _h)<;>simp only[push_cast,rq,_h])|intro _)
  all_goals (first|(refine Af ?_;simp[get]<;>(intros;omega);done)|(refine Ah ?_;simp[push_cast,get];done)|skip)
 | cons p a=>
  have ad:=A9 f;have hw:=Fd (ps:=ps) (p:=p) (by rw[f];simp);rw[p.wt_eq] at hw;rw[Ig,<-A1g] at b;rw[A5,p.wt_eq] at C;have U:=p.lenB_le;rw[p.wt_eq] at U;have ai:=KO p.parts;have ah:=Er p.cases;have M:=ih p.parts (by omega) (by omega);have G:=D7 O p.kind;rw[p.lenB_eq] at b;by_cases k1:p.kind=1
  .have K:=eV O p.text (by omega);have:=Th p.text;rw[k1] at b;simp only[push_cast,rq,f,k1,rn]
   repeat' (first|(((first|apply Ai|apply Am|apply Al)<;>intro _h)<;>simp only[push_cast,rq,_h,f,Ae p (dn:=dn) (by omega),k1,rn,qz])|((first|refine Ab (by exact K) ?_|refine As (by simp only <;>omega) ?_);simp only[push_cast,rq,Ae p (dn:=dn) (by omega)])|intro _)
   refine⟨_,_,Ab4 _,Ag.drop1 rfl (Ab6 _),dn++[p],a,_,d+(GT p.text).length,_,by(try simp(disch:=omega) only [wrap64]);omega,by simp,rfl,by rw[<-b];simp,by rw[<-f];omega,rfl⟩
  by_cases k2:p.kind=10
  .rw[k2] at b;simp only[push_cast,rq,f,Ae p (dn:=dn) (by omega),k2,rn]
   repeat' (first|(((first|apply Ai|apply Am|apply Al)<;>intro _h)<;>simp only[push_cast,rq,_h,f,Ae p (dn:=dn) (by omega),k2,rn,qz])|(refine As (by simp only <;>omega) ?_;simp only[push_cast,rq,f,Ae p (dn:=dn) (by omega),k2,rn,qz])|intro _)
   refine⟨_,_,Ab4 _,Ag.drop1 rfl (Ab6 _),dn++[p],a,_,d+1,_,by(try simp(disch:=omega) only [wrap64]);omega,by simp,rfl,by rw[<-b];simp,by rw[<-f];omega,rfl⟩
  by_cases k3:p.kind=11
  .rw[k3] at b;rcases hps:p.parts with _|⟨q,qs⟩
   .rw[hps] at b;simp only[push_cast,rq,f,Ae p (dn:=dn) (by omega),k3,rn,hps]
    repeat' (first|(((first|apply Ai|apply Am|apply Al)<;>intro _h)<;>simp only[push_cast,rq,_h,f,Ae p (dn:=dn) (by omega),k3,rn,qz,hps])|(refine As (by simp only <;>omega) ?_;simp only[push_cast,rq,f,Ae p (dn:=dn) (by omega),k3,rn,qz,hps])|intro _)
    refine⟨_,_,Ab4 _,Ag.drop1 rfl (Ab6 _),dn++[p],a,_,d+(3+p.name.length),_,by(try simp(disch:=omega) only [wrap64]);omega,by simp,rfl,by rw[<-b];simp,by rw[<-f];omega,rfl⟩
   .have W:decide ((p.parts.length:Int)>0)=true:=by rw[hps];simp<;>omega
    have e2:p.parts.isEmpty=false:=by rw[hps];rfl
    rw[e2] at b;clear hps;simp only[push_cast,rq,f,k3,rn,W]
    repeat' (first|(((first|apply Ai|apply Am|apply Al)<;>intro _h)<;>simp only[push_cast,rq,_h,f,Ae p (dn:=dn) (by omega),k3,rn,qz,W])|((first|refine Ab (by exact M) ?_|refine As (by simp only <;>omega) ?_);simp only[push_cast,rq,Ae p (dn:=dn) (by omega)])|intro _)
    refine⟨_,_,Ab4 _,Ag.drop1 rfl (Ab6 _),dn++[p],a,_,d+(3+p.name.length)+((2+p.name.length)+CV p.parts),_,by(try simp(disch:=omega) only [wrap64]);omega,by simp,rfl,by rw[<-b];simp<;>omega,by rw[<-f];omega,rfl⟩
  have q1:(p.kind==1)=false:=by simpa using k1
  have q2:(p.kind==10)=false:=by simpa using k2
  have q3:(p.kind==11)=false:=by simpa using k3
  rw[q1,q2,q3] at b;simp only[Ab9,reduceCtorEq] at b;simp only[push_cast,rq,f,q1,q2,q3];intros;refine Jn (Anz O) (λ_ _ h=>by simp[lk] at h) ?_;rw[I0];simp only[push_cast,rq];intro kk;have al:=NR p.kind;refine Aj (Ui []) (Inv:=λm st=>∃seen n' x u I,x=((d+(2+p.name.length)+H5 p.kind seen:Nat):Int)/\m=Ui seen/\(∀i∈seen,i<7)/\st=⟨[(3,.i .i64 x),(5,.ref (I,5) 0),(10,.sl (List.map Ad.enc (dn++p::a))),(11,.i .i64 (dn++p::a).length),(12,.i .i64 dn.length),(25,.arr (u,25))],[((u,25),.mit (u,24) F7.length seen F7.length),((u,24),.map F7),((I,5),.box p.v)],n'⟩) ⟨_,Ag.refl,[],_,_,_,_,by(simp(disch:=omega) only [wrap64,eK];omega),rfl,by simp,rfl⟩ ?_;rintro m _ ⟨seen,n',x,u,I,H,rfl,z,rfl⟩;unfold Ad.v;simp only[push_cast];refine X4 (id:=(u,25)) (mid:=(u,24)) (es:=F7) (seen:=seen) rfl (by simp[lk]) (by simp[lk]) (by simp) (by simp) (λi kv Y F=>?_) (λl=>?_)
  .obtain⟨L,rfl⟩:=Aeg Y;have w:(seen++[i]).getLast?=some i:=by simp
   have aa:=NR (i+3:Nat);have E:=kN L F;have s:∀j∈seen++[i],j<7:=by
    intro j hj;rcases AfJ.1 hj with h|h
    .exact z j h
    .simp at h;omega
   have D:=λh=>gZ (k:=p.kind) (seen:=seen) (i:=i) h F;have y:=λh=>Wp (k:=p.kind) (seen:=seen) (i:=i) h;generalize ag:((i+3:Nat):Int)=ki at *;have aj:H5 p.kind seen<=9:=by unfold H5;split<;>omega
   simp only[push_cast,rq,w,Y]
   repeat' (first|(((first|apply Ai|apply Am|apply Al)<;>intro _h)<;>simp only[push_cast,rq,_h])|intro _)
   .have ⟨u1,V⟩:=D (by simpa using _h);refine⟨_,_,E,Ag.refl,seen++[i],_,_,_,_,?_,rfl,s,rfl⟩;rw[V];rw[u1] at H;simp(disch:=omega) only [wrap64];rw[H];simp only[A2g];omega
   .have V:=y (by simpa using _h);refine⟨_,_,E,Ag.envD (λt=>?_) (Ab6 _),seen++[i],_,x,u,I,?_,rfl,s,rfl⟩
    .by_cases X:6=t
     .right;subst X;rfl
     .by_cases B:34=t
      .right;subst B;rfl
      .left;simp[get,X,B]
    .rw[V,H];simp only[A2g];omega
  .rw[SN] at l;rw[cW l z] at H;have am:=Zo p.kind;clear l z;have ⟨sS,hsS⟩:∃n,n=(if(p.style==[])=true then 0 else 2+p.style.length):=⟨_,rfl⟩
   have ⟨sC,hsC⟩:∃n,n=(if AI p.kind=true then 1 else 0):=⟨_,rfl⟩
   rw[<-hsS,<-hsC] at b;simp only[push_cast,rq]
   repeat' (first|(((first|apply Ai|apply Am|apply Al)<;>intro _h)<;>simp only[push_cast,rq,_h])|(refine Ab (by exact G) ?_;simp only[push_cast,rq])|intro _)
   all_goals (try simp only[AsZ,Ay9] at *)
   all_goals (first|rw[Amm (by assumption)] at hsS|rw[AfL (by simp only[*,Ab7,A13])] at hsS)
   all_goals (first|rw[Amm (by assumption)] at hsC|rw[AfL (by simp only[*,Ab7,A13])] at hsC)
   all_goals
    refine Aj p.cases.length (Inv:=λm st=>∃A r n' e x,x=((e:Nat):Int)/\p.cases=A++r/\m=r.length/\e+E8 r+CV a=S/\e+20*De r+20*A7 a<=20*A7 ps/\st=⟨[(3,.i .i64 x),(10,.sl (List.map Ad.enc (dn++p::a))),(11,.i .i64 (dn++p::a).length),(12,.i .i64 dn.length),(55,.sl (p.cases.map AD.enc)),(56,.i .i64 p.cases.length),(57,.i .i64 A.length)],[],n'⟩) ⟨_,Ag.drop (λ_ _ h=>by cases h) (Ab6 _),[],p.cases,_,d+(2+p.name.length)+Pr p.kind+sS+sC,_,by((try simp(disch:=omega) only [wrap64]);omega),rfl,rfl,by rw[<-b];omega,by omega,rfl⟩ ?_;clear b hsS hsC H;rintro m _ ⟨A,r,n',e,x,rfl,o,rfl,b,g,rfl⟩;cases r with
    | nil=>rw[E8,A1f] at b;rw[KZ] at g;simp only[push_cast,rq,o,Ae p (dn:=dn) (by omega)];intros;exact⟨_,_,Ab4 _,Ag.refl,dn++[p],a,_,e,_,rfl,by simp,rfl,b,by rw[<-f];omega,rfl⟩
    | cons c r=>
     have ae:=A9 o;have ao:=B7 (cs:=p.cases) (c:=c) (by simp[o]);rw[Gx] at b;rw[Bn] at g;have ak:=KO c.2;have J:=ih c.2 (by omega) (by omega);simp only[push_cast,rq,o]
     repeat' (first|(refine Ab (by exact J) ?_;simp only[push_cast,rq,Ae c (dn:=A) (by omega)])|intro _)
     refine⟨_,_,Ab4 _,Ag.drop1 rfl (Ab6 _),A++[c],r,_,e+((4+c.1.length)+CV c.2),_,by(simp(disch:=omega) only [wrap64];omega),by simp ,rfl,by rw[<-b];omega,by omega,rfl⟩
def Ck(ps:List Ad):Bool:=(BZ ps 0 false false []).1&&decide (((BZ ps 0 false false []).2.length:Int)<=20)&&decide ((CV ps:Int)<=4000)
theorem AbP ps (d:A7 ps<=2^24):Ak π O 27 [.sl (ps.map Ad.enc),.b false] [] (.b (Ck ps)) []:=by
 have a:=λid=>Apm O _ ps 0 false [] id (Ab4 _) d (by omega) (by omega);have e:=Ue O _ ps (Ab4 _) d;generalize hS:Ck ps=S;unfold Ck at hS;generalize BZ ps 0 false false []=R at *;have ⟨rb,rl⟩:=R;have a:∀id,Ak π O 61 [.agg [.arr id],.sl (ps.map Ad.enc),.i .i64 0,.b false] [(id,.map [])] (.b rb) [(id,.map (Dv rl))]:=a;simp only at hS;refine Ac (vs:=[.b S]) Asi (by simp) (by simp) λn0 c=>?_;clear c;simp only[push_cast,seval];intros;refine dT (a _) ?_ ?_
 .simp
 simp only[push_cast]
 (repeat' (first|(first|(apply AL<;>intro _h)|refine Ab (by exact e) ?_)<;>simp only[push_cast,seval,_h]|intro _))
 all_goals (try simp only[oG] at *)
 all_goals subst hS
 all_goals (first|(refine Af ?_;simp[get, *]<;>(intros;omega);done)|(refine Ah ?_;simp[push_cast,get, *];done)|skip)
theorem MR ps (c:A7 ps<=2^24):Ak π O 11 [.sl (ps.map Ad.enc)] [] (.b (Ck ps)) []:=by
 refine Ac (vs:=[.b (Ck ps)]) Atc (by simp) (by simp) λn0 a=>?_;clear a;push_cast
 repeat' (first|((apply AL<;>intro _h)<;>push_cast[_h])|(refine Ab (by exact AbP O ps c) ?_;push_cast)|intro _)
 all_goals (first|(refine Af ?_;simp[get]<;>(intros;omega);done)|(exact Gj;done)|skip)
structure WX where
 L:Du
 vs:List Ch
 iso:Bool
def TW:Nat:=136
def wA(u:Bool)(a:Id):V:=if u then .ref a 0 else .np
def wC(X:WX)(a:V)(b:Id)(e:Int):V:=.agg [a,.arr b,.s X.L.tag,.s X.L.parent,.s X.L.dir,.sl (X.L.card.map A8.enc),.sl (X.L.ord.map A8.enc),.s X.L.dec,.s X.L.grp,.s X.L.minus,.s X.L.perc,.i .i64 X.L.prim,.i .i64 X.L.sec,.sl (X.L.lists.map Ed.enc),.sl (X.L.units.map Fv.enc),.sl (X.L.dates.map E4.enc),.sl (X.L.months.map V.s),.sl (X.L.days.map V.s),.sl (X.vs.map Ch.enc),.b X.iso,.i .i64 e]
@[push_cast]theorem App X a b e:wC X a b e=.agg [a,.arr b,.s X.L.tag,.s X.L.parent,.s X.L.dir,.sl (X.L.card.map A8.enc),.sl (X.L.ord.map A8.enc),.s X.L.dec,.s X.L.grp,.s X.L.minus,.s X.L.perc,.i .i64 X.L.prim,.i .i64 X.L.sec,.sl (X.L.lists.map Ed.enc),.sl (X.L.units.map Fv.enc),.sl (X.L.dates.map E4.enc),.sl (X.L.months.map V.s),.sl (X.L.days.map V.s),.sl (X.vs.map Ch.enc),.b X.iso,.i .i64 e]:=rfl
def Ly(a:Id)(X:WX)(u:Bool)(b:Id)(l:Aa):Aq:=[(a,.tbox TW (wC X (wA u a) b 0)),(b,.arr 5 1 (A6 l))]
theorem EE{n0 n n' m}{b a:Id}(h:n<=a.1/\a.1<n'\/a=b)(c:n0<=n)(d:n'<=m):n0<=a.1/\a.1<m\/a=b:=by grind
theorem aQ{n m}{b c a:Id}(h:n<=c.1/\c.1<m\/c=b)(k:n<=a.1/\a.1<m\/a=c):n<=a.1/\a.1<m\/a=b:=by grind
theorem FW(a b:Aa):A6 a++A6 b=A6 (a++b):=by simp[A6]
theorem CD(a:Aa):(A6 a).length=a.length:=by simp[A6]
theorem Lu{a c A C}(h:a≠c):∀i e,lk [(a,A),(c,C)] i=some e->lk [(c,C),(a,A)] i=some e:=by intro i e b;simp only[lk] at b⊢;grind
theorem Ie σ σo:over σ σo σ=σo:=by have:=Fs (σi:=σ) (σo:=σo) (pre:=[]) (λp hp=>by cases hp);simpa using this
theorem Aas(a b:Id)(X:WX)(u:Bool)(l t:Aa)(c:b≠a)(h:l.length+t.length<=2^30) :
  FK π O 152 [.ref a 0,.s t] (Ly a X u b l) (λn n' v σ'=>v=.tup [.i .i64 t.length,.ni]/\∃d:Id,(n<=d.1/\d.1<n')/\σ'=Ly a X true d (l++t)):=by
 generalize x:(fun(n n':Nat) (v:V) (σ':Aq)=>v=V.tup [.i .i64 t.length,.ni]/\∃d:Id,(n<=d.1/\d.1<n')/\σ'=Ly a X true d (l++t))=R;refine C7 sF (by simp) λn0 m=>?_;have A:a.1<n0:=m a _ (by simp[Ly,lk];rfl);have z:b.1<n0:=m b _ (by simp[Ly,lk,Ao0 c];rfl);clear m;have f:Ak π O 167 [.ref a 0] [(a,.tbox TW (wC X (wA u a) b 0))] (.tup []) [(a,.tbox TW (wC X (wA true a) b 0))]:=by
  cases u with
  | true=>exact Z4 O
  | false=>exact ZA O (by kernel_rfl)
 simp only[App] at f;have q:(a=b)=False:=Ab8 (Ao0 c);have y:(b=a)=False:=Ab8 c;simp only[push_cast,seval,Ly];intro k1;refine AX f (λi e h=>AK (τ:=[(b,AP.arr 5 1 (A6 l))]) h) ?_;rw[Jt (λp hp=>by simp at hp;subst hp;exact c)];clear f;have o:∀k j:Nat,((n0+1+k1+1+k,j)=a)=False:=λk j=>Ab8 λg=>by have:=A1o Prod.fst g;simp only at this;omega
 have r:∀k j:Nat,((n0+1+k,j)=b)=False:=λk j=>Ab8 λg=>(by have:=A1o Prod.fst g;(try simp only at this);omega)
 have w:∀k j:Nat,(b=(n0+1+k,j))=False:=λk j=>Ab8 λg=>AiZ (r k j) g.symm;simp only[push_cast,seval,q,CD];intro k2;refine As (by unfold AJ;omega) ?_;simp only[push_cast,seval,o];intro k3 B;subst x;rw[FW];exact⟨_,Ag.refl,[.i .i64 t.length,.ni],Ly a X true (n0+1+k1+1+k2,14) (l++t),⟨rfl,rfl,trivial⟩,Lu (Ao0 (λg=>AiZ (o _ _) g)),rfl,_,⟨by simp only;omega,by simp only;omega⟩,rfl⟩
theorem Anl a b X u l(c:b≠a):Ak π O 153 [.ref a 0] (Ly a X u b l) (.i .i64 l.length) (Ly a X u b l):=by refine Ac (vs:=[.i .i64 l.length]) Ak6 (by simp) (λ_ h=>h) λn0 d=>?_;clear d;have e:(a=b)=False:=Ab8 (Ao0 c);have f:(b=a)=False:=Ab8 c;simp only[push_cast,rq,e,Ly,CD];intros;exact Aw (by simp[get]) (λ_ _ h=>h)
theorem CK{a b X u l}:lk (Ly a X u b l) a=some (.tbox TW (wC X (wA u a) b 0)):=by simp[Ly,lk]
theorem Ri{a b x X u l}(c:a≠x)(d:b≠x):lk (Ly a X u b l) x=none:=by simp[Ly,lk,c,d]
theorem Ng{a b x X u l e σo}(d:a≠x)(f:b≠x):over (Ly a X u b l) σo ((x,e)::Ly a X u b l)=σo++[(x,e)]:=
 Fs (pre:=[(x,e)]) (λp hp q c=>by simp[Ly] at hp c;grind)
theorem Ag.ownTbox{O T nt n env}{τ:Aq}{rid A B}(e sz k:Nat):Ag O nt ⟨env,(rid,.tbox T (.agg (A++.nil::B)))::τ,n⟩ ⟨env,((n,k),.arr e sz [])::(rid,.tbox T (.agg (A++.arr (n,k)::B)))::τ,n+1⟩:=by
 intro W a w y;obtain⟨μ,H,C,hp,N,s,m⟩:=y;have b:μ (n,k)=none:=hp.bd _ (Ab6 _);have i:=BQ (v:=.slice none 0 0) b;have z:lk ((rid,AP.tbox T (.agg (A++.nil::B)))::τ) rid=some (.tbox T (.agg (A++.nil::B))):=by simp[lk]
 have r:((n,k):Id)≠rid:=by rintro rfl;obtain⟨_,G⟩:=(hp.ents _ _ z).named;rw[b] at G;cases G
 have d:=(hp.more (Avb n)).new_ (n':=n+1) (w':=w) (R:=λ_=>False) ⟨rfl,rfl,rfl,Ab6 _,λ_ _ _=>rfl⟩ (λ_ h=>h.elim) (σ1:=(rid,.tbox T (.agg (A++.nil::B)))::τ) (λid e h=>⟨h,λ_ _ h=>h⟩) (id:=(n,k)) (e:=.arr e sz []) (val:=.slice none 0 0) b (Ab4 _) (Ab6 _) (λE M=>by simp[Cl] at M)
  ⟨.slice none 0 0,[],Au _ _ _,rfl,A12 w _ e sz,Avz _,(λx U=>by cases U),AY.nil_⟩
 have p:lk (((n,k),AP.arr e sz [])::(rid,.tbox T (.agg (A++.nil::B)))::τ) rid=some (.tbox T (.agg (A++.nil::B))):=by simp[lk,r]
 have f:=d.1.set_ p (w':=w) (e:=.tbox T (.agg (A++.arr (n,k)::B))) ⟨rfl,rfl,rfl,Ab6 _,λ_ _ _=>rfl⟩ (by
  obtain⟨E,t,J,K,L,l⟩:=d.1.ents _ _ p;refine⟨E,t,J,K,L,⟨⟨by have:=l.len;simpa[cells] using this,λj c v g D=>?_⟩,l.one⟩⟩;simp only[cells] at g;by_cases F:j<A.length
  .rw[AxD F] at g;exact l.at_ j c v (by simp only[cells];rw[AxD F];exact g) D
  .rw[Au5 (by omega)] at g;cases u:j-A.length with
   | zero=>rw[u] at g;simp only[A0B,Ao3] at g;subst g;have:=l.at_ j .nil v (by simp only[cells];rw[Au5 (by omega),u];rfl) D;rw[this.nil_inv];exact .arr _ _ (Au _ _ _) rfl
   | succ q=>rw[u] at g;simp only[Azq] at g;exact l.at_ j c v (by simp only[cells];rw[Au5 (by omega),u];exact g) D)
 have S:upd (((n,k),AP.arr e sz [])::(rid,.tbox T (.agg (A++.nil::B)))::τ) rid (.tbox T (.agg (A++.arr (n,k)::B)))=((n,k),.arr e sz [])::(rid,.tbox T (.agg (A++.arr (n,k)::B)))::τ:=by simp[upd,r]
 rw[S] at f;refine⟨_,H,⟨C.size,C.defers,λV=>(C.at_ V).mono i (λ_ _ h=>h)⟩,f.1,N.trans (d.2.trans f.2),λid o I=>?_,AoW m (Avb _)⟩;simp only at m;rw[Ce _ _ (by rintro rfl;simp at o;omega)];exact s id o I
def I7(keys:List Aa):List Aa->Int
 | []=>IntKind.i64.wrap ((keys.length:Int)-1)
 | w::a=>if AV (λx=>w==x) keys<0 then I7 keys a else AV (λx=>w==x) keys
def G2(l:Jp)(s:B4)(v:Ch):List Aa:=if s.kind==9 then[v.text] else[61::v.text,K5 l s.kind v.text]
def Vv(l:Jp)(s:B4)(v:Ch):Int:=I7 s.keys (G2 l s v)
theorem Atz(l:Jp)(s:B4)(v:Ch)(C:(Jp.enc l).ok=true)(t:l.rest.length=11)(H:Ax l.card+Ax l.ord<=2^24)(K:v.text.length<=2^29)(J:s.keys.length<=2^30) :
  Ak π O 25 [l.enc,s.enc,v.enc] [] (.i .i64 (Vv l s v)) []:=by
 unfold Vv;generalize hS:I7 s.keys (G2 l s v)=S;refine Ac (vs:=[.i .i64 S]) AsG (by simp) (by simp) λn0 r=>?_;clear r;have g:=YJ O l s.kind C;have u:Ax (CX l s.kind)<=2^30:=by unfold CX;split<;>omega
 have p:=MV O (CX l s.kind) v.text (by omega) u;have k:=Jp.enc_eq l;rw[k] at g⊢;unfold G2 K5 at hS;generalize(Cs (CX l s.kind) v.text).1=y at *;generalize(Cs (CX l s.kind) v.text).2=F at *;unfold B4.enc Ch.enc;have D:[(61:UInt8)].length+v.text.length<AG:=by unfold AG;simp;omega
 have q:=λw:Aa=>JN O nK s.keys w (by omega);have ⟨r1,r2,r3,r4,r5,r6,r7,r8,r9,r10,r11,hrest⟩:=QC t;rw[hrest] at g⊢;have c:∀(n:Nat) (W:List Aa) (Q:Exit->St->Prop),W.length<=2->I7 s.keys W=S->
   (∀n,Q .ret ⟨[(6,.i .i64 S)],[((n0,5),.box (.agg [.s v.name,.i .i64 v.type,.s v.text,.i .i64 v.date,.sl (v.list.map V.s)])),((n0,4),.box (.agg [.i .i64 s.kind,.s s.name,.sl (s.keys.map V.s)])),((n0,3),.box (.agg [.s l.tag,.s l.parent,.s l.dir,.sl (l.card.map A8.enc),.sl (l.ord.map A8.enc),r1,r2,r3,r4,r5,r6,r7,r8,r9,r10,r11]))],n⟩)->
   (∀n,IntKind.i64.wrap ((s.keys.length:Int)-1)=S->Q (.exit 0) ⟨[(4,.ref (n0,4) 0),(34,.sl (W.map V.s)),(35,.i .i64 W.length),(36,.i .i64 W.length),(37,.b false)],[((n0,5),.box (.agg [.s v.name,.i .i64 v.type,.s v.text,.i .i64 v.date,.sl (v.list.map V.s)])),((n0,4),.box (.agg [.i .i64 s.kind,.s s.name,.sl (s.keys.map V.s)])),((n0,3),.box (.agg [.s l.tag,.s l.parent,.s l.dir,.sl (l.card.map A8.enc),.sl (l.ord.map A8.enc),r1,r2,r3,r4,r5,r6,r7,r8,r9,r10,r11]))],n⟩)->
   F8 π O 52 V2 Q ⟨[(4,.ref (n0,4) 0),(34,.sl (W.map V.s)),(35,.i .i64 W.length),(36,.i .i64 0)],[((n0,5),.box (.agg [.s v.name,.i .i64 v.type,.s v.text,.i .i64 v.date,.sl (v.list.map V.s)])),((n0,4),.box (.agg [.i .i64 s.kind,.s s.name,.sl (s.keys.map V.s)])),((n0,3),.box (.agg [.s l.tag,.s l.parent,.s l.dir,.sl (l.card.map A8.enc),.sl (l.ord.map A8.enc),r1,r2,r3,r4,r5,r6,r7,r8,r9,r10,r11]))],n⟩:=by
  intro E W Q G d z o;refine Aj W.length (Inv:=λm st=>∃dn a n,W=dn++a/\m=a.length/\I7 s.keys a=S/\st=⟨[(4,.ref (n0,4) 0),(34,.sl (W.map V.s)),(35,.i .i64 W.length),(36,.i .i64 dn.length)],[((n0,5),.box (.agg [.s v.name,.i .i64 v.type,.s v.text,.i .i64 v.date,.sl (v.list.map V.s)])),((n0,4),.box (.agg [.i .i64 s.kind,.s s.name,.sl (s.keys.map V.s)])),((n0,3),.box (.agg [.s l.tag,.s l.parent,.s l.dir,.sl (l.card.map A8.enc),.sl (l.ord.map A8.enc),r1,r2,r3,r4,r5,r6,r7,r8,r9,r10,r11]))],n⟩) ⟨_,Ag.refl,[],W,_,rfl,rfl,d,rfl⟩ ?_;clear d E;rintro m _ ⟨dn,a,n,j,rfl,d,rfl⟩;cases a with
  | nil=>simp only[push_cast,rq,j];intros;rw[At9] at j;subst j;exact o _ d
  | cons w a=>
   have A:=A9 j;rw[I7] at d;have B:=q w;generalize AV (λx=>w==x) s.keys=I at *;simp only[push_cast,rq,j];repeat' (first|(first|((first|apply Ai|apply Am|apply Al)<;>intro _h)|refine Ab B ?_)<;>simp only[push_cast,rq,Ae w (dn:=dn) (by omega)]|intro _)
   .have hI:I>=0:=Awz _h;rw[AfL (by omega)] at d;simp_all
   .have hI:¬I>=0:=AvV _h;rw[Amm (by omega)] at d;exact⟨_,_,Ab4 _,Ag.refl,dn++[w],a,_,by simp,rfl,d,rfl⟩
 cases h:(s.kind==9) with
 | true=>
  have f:(s.kind !=9)=false:=by simp_all
  rw[h] at hS;simp only[push_cast,rq,f];intros;refine c _ [v.text] _ (by simp) hS (λn=>?_) (λn e=>?_)
  .exact Af (by simp[get])
  .simp only[push_cast,rq];intros;exact Af (by simp[get,e])
 | false=>
  have f:(s.kind !=9)=true:=by simp_all
  rw[h] at hS;simp only[push_cast,rq,f];repeat' (first|(first|((first|apply Ai|apply Am|apply Al)<;>intro _h)|refine Ab g ?_|refine Ab p ?_|refine As (by omega) ?_)<;>simp only[push_cast,rq]|intro _)
  refine c _ [61::v.text,y] _ (by simp) hS (λn=>?_) (λn e=>?_)
  .exact Af (by simp[get])
  .simp only[push_cast,rq];intros;exact Af (by simp[get,e])

def Cy:List B4->Nat->List Aa×Nat
 | [],i=>([],i)
 | s::L,i=>(s.keys[(Cy L i).2 % s.keys.length]?.getD []::(Cy L i).1,(Cy L i).2 / s.keys.length)
theorem rO L i:(Cy L i).1.length=L.length:=by
 induction L with
 | nil=>rfl
 | cons s L a=>simp[Cy,a]
theorem Aec L i:(Cy L i).2<=i:=by
 induction L with
 | nil=>exact Ab6 _
 | cons s L a=>exact AoW (Nat.div_le_self _ _) a
theorem Aok{r:List V}(h:r.length=16):∃a b c d e f g i j k l m n o p q,r=[a,b,c,d,e,f,g,i,j,k,l,m,n,o,p,q]:=by
 match r,h with
 | [a,b,c,d,e,f,g,i,j,k,l,m,n,o,p,q],_=>grind
theorem PN(L:List B4)(hL:L.length<=2^26)(hk:∀s∈L,s.keys≠[]/\s.keys.length<=2^26)(i:Nat)(hi:i<=2^30)(rid kid a:Id)(h1:(rid=kid)=False)(h2:(rid=a)=False)(h3:(kid=a)=False)(A:List V)(hA:A.length=16)(X:V)(τ:Aq)(v a2 a4 a37 e:V)(n0:Nat)(Q:Exit->St->Prop)
  (hQ:∀n,n0<=n->Q (.exit 2) ⟨[(1,v),(2,a2),(4,a4),(6,.ref a 0),(9,.ref rid 0),(10,.i .i64 (Cy L i).2),(11,.i .i64 (-1)),(37,a37),(38,e),(56,.b false)],(rid,.box (.agg (A++[.sl (L.map B4.enc),.arr kid])))::(kid,.arr 9 1 ((Cy L i).1.map V.s))::(a,.box (.agg [.sl (L.map B4.enc),X]))::τ,n⟩) :
  F8 π O 92 qA Q ⟨[(1,v),(2,a2),(4,a4),(6,.ref a 0),(9,.ref rid 0),(10,.i .i64 i),(11,.i .i64 ((L.length:Int)-1)),(37,a37),(38,e)],(rid,.box (.agg (A++[.sl (L.map B4.enc),.arr kid])))::(kid,.arr 9 1 ((List.replicate L.length []).map V.s))::(a,.box (.agg [.sl (L.map B4.enc),X]))::τ,n0⟩:=by
 refine Aj L.length (Inv:=λm st=>∃B C n k r,L=B++C/\m=B.length/\k=(B.length:Int)-1/\r=(((Cy C i).2:Nat):Int)/\n0<=n/\st=⟨[(1,v),(2,a2),(4,a4),(6,.ref a 0),(9,.ref rid 0),(10,.i .i64 r),(11,.i .i64 k),(37,a37),(38,e)],(rid,.box (.agg (A++[.sl (L.map B4.enc),.arr kid])))::(kid,.arr 9 1 ((List.replicate B.length []++(Cy C i).1).map V.s))::(a,.box (.agg [.sl (L.map B4.enc),X]))::τ,n⟩) ⟨_,Ag.refl,L,[],n0,(L.length:Int)-1,(i:Int),(At9 L).symm,rfl,rfl,rfl,Ab6 _,by rw[show(Cy [] i).1=[] from rfl,At9]⟩ ?_;rintro m _ ⟨B,C,n,k,r,M,rfl,f,g,hn,rfl⟩;obtain rfl|⟨D,s,rfl⟩:B=[]\/∃D s,B=D++[s]:=by rcases Ay5 B with h|⟨d,y,h⟩;exact .inl h;grind
 .simp at M f;subst M f g;simp only[push_cast,rq,show decide ((-1:Int)>=0)=false from rfl];grind
 .have c:L=D++s::C:=by rw[M];simp
  have F:=hk s (by rw[c];simp);have E:0<s.keys.length:=A0E.2 F.1;have ae:=A9 c;have x:k=(D.length:Int):=by rw[f];simp
  have ai:=Aec C i;have p:(r.tmod (s.keys.length:Int))=(((Cy C i).2 % s.keys.length:Nat):Int):=by rw[g];rfl
  have l:(r.tdiv (s.keys.length:Int))=(((Cy C i).2 / s.keys.length:Nat):Int):=by rw[g];rfl
  have af:(Cy C i).2 / s.keys.length<=(Cy C i).2:=Nat.div_le_self _ _;have G:=Nat.mod_lt (Cy C i).2 E;have u:∀d:Nat,d<=2^30->IntKind.i64.wrap (d:Int)=d:=λd h=>by simp(disch:=omega) only [wrap64]
  have J:IntKind.i64.wrap ((D.length:Int)-1)=(D.length:Int)-1:=by simp(disch:=omega) only [wrap64]
  have H:(s.keys.length:Int)≠0:=by omega
  have ⟨key,hkey⟩:∃key,s.keys[(Cy C i).2 % s.keys.length]?=some key:=⟨_,Am7 G⟩
  have o:(s.keys.map V.s)[(Cy C i).2 % s.keys.length]?=some (.s key):=by simp_all
  have t:(List.map V.s (List.replicate (D++[s]).length []++(Cy C i).1)).set D.length (.s key)=List.map V.s (List.replicate D.length []++(Cy (s::C) i).1):=by simp only[Ajd,An9,AtX,Cy,hkey,Option.getD_some];rw[List.replicate_succ'];simp_all
  have z:D.length<(List.replicate (D++[s]).length ([]:Aa)++(Cy C i).1).length:=by simp;omega
  have ag:decide ((D.length:Int)>=0)=true:=by simp
  have I:(L.map B4.enc)[D.length]?=some s.enc:=by rw[c,ArI,Au5 (by simp)];simp
  have w:(List.map V.s (List.replicate (D++[s]).length []++(Cy C i).1))[D.length]?=some (.s []):=by rw[ArI,AxD (by simp),List.getElem?_replicate];simp
  have j:(Cy (s::C) i).2=(Cy C i).2 / s.keys.length:=rfl;subst x;generalize(Cy C i).2 % s.keys.length=q at *;generalize(Cy C i).2 / s.keys.length=Z at *;have K:=u Z (by omega);obtain⟨b0,b1,b2,b3,b4,b5,b6,b7,b8,b9,N,S,T,U,W,Y,rfl⟩:=Aok hA;simp only[push_cast,rq,I,p,l,K,J,o,t,w,Amm z,h1,h2,h3,H];intros;exact⟨_,_,by simp,Ag.refl,D,s::C,_,_,_,c,rfl,rfl,by rw[j],by omega,rfl⟩
theorem Ac4 L (a:∀s∈L,s.keys≠[]) i:∀(j:Nat) (k),(Cy L i).1[j]?=some k->∃s,L[j]?=some s/\k∈s.keys:=by
 induction L with
 | nil=>intro j k h;simp[Cy] at h
 | cons s L c=>
  intro j k h;cases j with
  | zero=>have hp:0<s.keys.length:=A0E.2 (a s (by simp));have b:=Nat.mod_lt (Cy L i).2 hp;simp only[Cy,A0B,Ao3] at h;grind
  | succ j=>simp only[Cy,Azq] at h⊢;grind
theorem Vl{L}(a:∀s∈L,s.keys≠[]){M}(c:∀s∈L,∀k∈s.keys,k.length<=M) i:∀k∈(Cy L i).1,k.length<=M:=by intro k b;have ⟨j,hj⟩:=A2h b;have ⟨s,hs,hmem⟩:=Ac4 L a i j k hj;grind
theorem Xv{O:World}{nt n n' e sz:Nat}{env env':BB}{τ:Aq}{rid kid:Id}{A es:List V}(j:rid≠kid)(t:lk τ kid=none)(p:∀y∈es,y.ok=true)(d:∀s,get env' s=get env s\/get env' s=.any)(o:n<=n') :
  Ag O nt ⟨env,(rid,.box (.agg (A++[.arr kid])))::(kid,.arr e sz es)::τ,n⟩ ⟨env',(rid,.box (.agg (A++[.sl es])))::τ,n'⟩:=by
 refine Ag.weak (λi=>if i=kid then some es else none) (λi es' h=>?_) (λs=>?_) (λi e' h=>?_) o
 .split at h
  .rename_i f;subst f;cases h;simp only[lk,AfL j];grind
  .cases h
 .rcases d s with h|h
  .rw[h];exact .refl _
  .rw[h];exact .any _
 .simp only[lk] at h⊢;by_cases f:rid=i
  .rw[Amm f] at h⊢;cases h;refine⟨_,rfl,.box _ _ (.agg _ _ (by simp) λk c l b a=>?_) (by simp[cells]) rfl rfl⟩;by_cases m:k<A.length
   .rw[AxD m] at b a;rw[b] at a;cases a;exact .refl _
   .rw[Au5 (by omega)] at b a;cases r:k-A.length with
    | zero=>
     rw[r] at b a;simp at b a;subst b a;refine .arr kid es es (by simp) rfl (λk c l b a=>?_) (λk c l b a=>?_)
     .rw[b] at a;cases a;exact .refl _
     grind
    | succ q=>grind
  .rw[AfL f] at h⊢;have g:kid≠i:=by grind
   rw[AfL g];exact⟨_,h,.refl _⟩
abbrev P8:=List B4×List (List Ad)
def J7(v:List Ad):V:=.sl (v.map Ad.enc)
def GM(f:P8):V:=.agg [.sl (f.1.map B4.enc),.sl (f.2.map J7)]
theorem okV(l:List (List Ad)):∀y∈l.map J7,y.ok=true:=by intro y a;obtain⟨x,_,rfl⟩:=Aov.1 a;rfl
def Ct(a:List Aa->Py)(L:List B4)(ps:List Ad)(n:Nat):List (List Ad):=(List.range n).map λi=>BM (a (Cy L i).1) [] ps []
def Bk(l:Jp)(ps:List Ad):P8×Int:=
 if !Ck ps then(([],[]),1)
 else if decide ((CS 1 (Bl ps):Int)>400) then(([],[]),6)
 else if !AW [] l.card||!AW [] l.ord then(([],[]),18)
 else((Bl ps,Ct (Kz l (Bl ps)) (Bl ps) ps (CS 1 (Bl ps))),0)
theorem Jo{O nt n env σ id u f e}(k:get env 4=.ref id 0)(l:get env 5=.i .i64 e)(q:lk σ id=some (.box u)) φ (g:∀i es,φ i=some es->(∃e sz,lk σ i=some (.arr e sz es))/\i≠id)
  (r:JI φ u (GM f))(o:(cells u).length=2)(p:u.ok=true):ME O nt [.c 4 2 true,.t 5] [GM f,.i .i64 e] [] .ret ⟨env,σ,n⟩:=by
 refine⟨⟨[(4,.ref id 0),(5,.i .i64 e)],[(id,.box (GM f))],n⟩,Ag.weak φ (λi es h=>?_) (λt=>?_) (λi e' h=>?_) (Ab6 _),⟨⟨id,0,GM f,rfl,by simp[lk],rfl⟩,rfl,trivial⟩,λ_ _ h=>by cases h⟩
 .have ⟨a,b⟩:=g i es h;exact⟨a,by simp only[lk];grind⟩
 .by_cases j:4=t
  .subst j;rw[k];exact .refl _
  .by_cases d:5=t
   .subst d;rw[l];exact .refl _
   .simp only[get,AfL j,AfL d];exact .any _
 .simp only[lk] at h;split at h
  .rename_i m;subst m;cases h;exact⟨_,q,.box _ _ r (by rw[o];rfl) p rfl⟩
  .cases h
theorem Nj φ:JI φ (.agg [.nil,.nil]) (GM ([],[])):=by
 refine .agg _ _ rfl λk c d a b=>?_
 match k with
 | 0=>simp at a b;subst a b;exact .nil
 | 1=>simp at a b;subst a b;exact .nil
 | k+2=>simp at a
theorem UN{φ} L e d (h:d=none->e=[])(f:∀id,d=some id->φ id=some (e.map J7)):JI φ (.agg [.sl (L.map B4.enc),sv d]) (GM (L,e)):=by
 refine .agg _ _ rfl λk c g a b=>?_
 match k with
 | 0=>simp at a b;subst a b;exact .refl _
 | 1=>
  simp at a b;subst a b;cases d with
  | none=>rw[h rfl];exact .nil
  | some id=>
   refine .arr id _ _ (f id rfl) rfl (λk c g a b=>?_) (λk c g a b=>?_)
   .rw[a] at b;cases b;exact .refl _
   .rw[a] at b;cases b;have:=okV _ c (Ao6 a);grind
 | k+2=>simp at a
def vV:Nat:=31
def vS(b:Option Id)(a:List (List Ad)):Aq:=match b with
 | none=>[]
 | some id=>[(id,.arr vV 1 (a.map J7))]
theorem Aoh(l:Jp)(ps:List Ad)(hr:(Jp.enc l).ok=true)(aq:l.rest.length=11)(hb:Ax l.card+Ax l.ord<=2^24)(hw:A7 ps<=2^24)
  (hL:(Bl ps).length<=2^26)(hk:∀s∈Bl ps,s.keys≠[]/\s.keys.length<=2^26)(aI:∀s∈Bl ps,∀k∈s.keys,k.length<=2^30)(ab:Ck ps=true->A4 (ZV (Bl ps)) ps) :
  Ak π O 7 [l.enc,.sl (ps.map Ad.enc)] [] (.tup [GM (Bk l ps).1,.i .i64 (Bk l ps).2]) []:=by
 have G:=MR O ps hw;have N:=U0 O ps hw;generalize hS:Bk l ps=S;have ⟨S1,S2⟩:=S;unfold Bk at hS;generalize bd:Bl ps=L at *;have K:=xS O L (by omega) (λs hs=>by grind);have c:=Fu O l.card (by omega);have d:=Fu O l.ord (by omega);have ⟨r1,r2,r3,r4,r5,r6,r7,r8,r9,r10,r11,hrest⟩:=QC aq;have aD:l.enc=.agg [.s l.tag,.s l.parent,.s l.dir,.sl (l.card.map A8.enc),.sl (l.ord.map A8.enc),r1,r2,r3,r4,r5,r6,r7,r8,r9,r10,r11]:=by rw[Jp.enc_eq,hrest]
 have ak:∀KS:List Aa,rV l L KS=.agg [.s l.tag,.s l.parent,.s l.dir,.sl (l.card.map A8.enc),.sl (l.ord.map A8.enc),r1,r2,r3,r4,r5,r6,r7,r8,r9,r10,r11,.sl (L.map B4.enc),.sl (KS.map V.s)]:=λKS=>by unfold rV;rw[hrest];rfl
 rw[aD];refine Ac (vs:=[GM S1,.i .i64 S2]) Aws (by simp) (by simp) λn0 aK=>?_;clear aK;generalize bg:Ck ps=VB at *;cases VB with
 | false=>
  simp only[AzQ,AbA] at hS;cases hS;simp only[push_cast,seval];repeat' (first|(first|((first|apply Ai|apply Am|apply Al)<;>intro _h)|refine Ab G ?_)<;>simp only[push_cast,seval]|intro _)
  exact Jo (u:=.agg [.nil,.nil]) (f:=([],[])) rfl rfl (by simp[lk]) (λ_=>none) (λ_ _ h=>by cases h) (Nj _) rfl rfl
 | true=>
  simp only[Azx,Ab9,Ab7] at hS;have ab:=ab rfl;generalize bf:CS 1 L=t at *;by_cases h4:(t:Int)>400
  .have v:decide ((t:Int)>400)=true:=by simpa using h4
   rw[v,Amm rfl] at hS;cases hS;simp only[push_cast,seval];repeat' (first|(first|((first|apply Ai|apply Am|apply Al)<;>intro _h)|refine Ab G ?_|refine Ab N ?_|refine Ab K ?_)<;>simp only[push_cast,seval,v]|intro _)
   exact Jo (u:=.agg [.nil,.nil]) (f:=([],[])) rfl rfl (by simp[lk]) (λ_=>none) (λ_ _ h=>by cases h) (Nj _) rfl rfl
  .have v:decide ((t:Int)>400)=false:=by simpa using h4
   rw[v,AfL (by simp)] at hS;cases E:AW [] l.card with
   | false=>
    rw[E] at c hS;simp only[bq,AbA] at hS;cases hS;simp only[push_cast,seval];repeat' (first|(first|((first|apply Ai|apply Am|apply Al)<;>intro _h)|refine Ab G ?_|refine Ab N ?_|refine Ab K ?_|refine Ab c ?_)<;>simp only[push_cast,seval,v]|intro _)
    exact Jo (u:=.agg [.nil,.nil]) (f:=([],[])) rfl rfl (by simp[lk]) (λ_=>none) (λ_ _ h=>by cases h) (Nj _) rfl rfl
   | true=>
   cases M:AW [] l.ord with
   | false=>
    rw[E] at c;rw[M] at d;rw[E,M] at hS;simp only[bq,AbA] at hS;cases hS;simp only[push_cast,seval];repeat' (first|(first|((first|apply Ai|apply Am|apply Al)<;>intro _h)|refine Ab G ?_|refine Ab N ?_|refine Ab K ?_|refine Ab c ?_|refine Ab d ?_)<;>simp only[push_cast,seval,v]|intro _)
    exact Jo (u:=.agg [.nil,.nil]) (f:=([],[])) rfl rfl (by simp[lk]) (λ_=>none) (λ_ _ h=>by cases h) (Nj _) rfl rfl
   | true=>
    rw[E] at c;rw[M] at d;rw[E,M] at hS;simp only[bq,Ab9] at hS;cases hS;simp only[push_cast,seval];repeat' (first|(first|((first|apply Ai|apply Am|apply Al)<;>intro _h)|refine Ab G ?_|refine Ab N ?_|refine Ab K ?_|refine Ab c ?_|refine Ab d ?_)<;>simp only[push_cast,seval,v]|intro _)
    rename_i k1 k2 k3 k4 k5 k6 k7;have aJ:n0<n0+1+k1+1+k2/\n0+1+k1+1+k2<n0+1+k1+1+k2+1+k3+1+k4+1+k5+1+k6+1+k7:=by omega
    generalize n0+1+k1+1+k2+1+k3+1+k4+1+k5+1+k6+1+k7=n1 at *;generalize n0+1+k1+1+k2=m1 at *;have be:t<=400:=by omega
    generalize aj:V.agg [.s l.tag,.s l.parent,.s l.dir,.sl (l.card.map A8.enc),.sl (l.ord.map A8.enc),r1,r2,r3,r4,r5,r6,r7,r8,r9,r10,r11]=LC;have an:t-0=t:=by omega
    refine Aj t (Inv:=λm st=>∃i n vo,i<=t/\m=t-i/\(vo=none->i=0)/\(∀id,vo=some id->m1<id.1/\id.1<n)/\m1<n/\st=⟨[(1,.sl (ps.map Ad.enc)),(2,.ref (n0,2) 0),(4,.ref (n0,4) 0),(6,.ref (m1,6) 0),(37,.i .i64 t),(38,.i .i64 i)],((m1,6),.box (.agg [.sl (L.map B4.enc),sv vo]))::(vS vo (Ct (Kz l L) L ps i)++[((n0,4),.box (.agg [.nil,.nil])),((n0,2),.box LC)]),n⟩) ⟨_,Ag.refl,0,n1,none,Avz _,an.symm,λ_=>rfl,(λ_ h=>by cases h),aJ.2,rfl⟩ ?_;clear an;rintro m _ ⟨i,n,vo,hi,rfl,au,X,bi,rfl⟩;have f1:∀k j:Nat,((n+1+k,j)=(m1,6))=False:=λk j=>Ab8 λa=>by grind
    have f2:∀k j q:Nat,((n+1+k,j)=(n0,q))=False:=λk j q=>Ab8 λa=>by grind
    have f3:∀q:Nat,((m1,6)=(n0,q))=False:=λq=>Ab8 λa=>by grind
    have bc:∀q:Nat,((n0,q)=(m1,6))=False:=λq=>Ab8 λa=>AiZ (f3 q) a.symm;have a8:∀k j:Nat,((m1,6)=(n+1+k,j))=False:=λk j=>Ab8 λa=>AiZ (f1 k j) a.symm;have ba:∀k j q:Nat,((n0,q)=(n+1+k,j))=False:=λk j q=>Ab8 λa=>AiZ (f2 k j q) a.symm;by_cases ap:i<t
    .have r:decide ((i:Int)<(t:Int))=true:=by simpa using ap
     have aa:=Vl (L:=L) (λs hs=>(hk s hs).1) aI i;have W:=λrid=>dP O l L (Cy L i).1 rid hr aq hb (by omega) (rO L i) aa _ ps [] (Ab4 _) hw ab;have ar:Ct (Kz l L) L ps (i+1)=Ct (Kz l L) L ps i++[BM (Kz l L (Cy L i).1) [] ps []]:=by unfold Ct;rw[List.range_succ,A0D];rfl
     have aM:(Ct (Kz l L) L ps i).length=i:=by simp[Ct]
     have aw:IntKind.i64.wrap ((i:Int)+1)=((i+1:Nat):Int):=by rw[wrap64 (by omega) (by omega)];simp
     have av:IntKind.i64.wrap ((L.length:Int)-1)=(L.length:Int)-1:=by simp(disch:=omega) only [wrap64]
     have T:((L.length:Int)<=(L.length:Int)/\(L.length:Int)<=(AJ:Int))=True:=Arp ⟨Int.le_refl _,by unfold AJ;omega⟩;have U:List.replicate L.length (V.s [])=(List.replicate L.length ([]:Aa)).map V.s:=by simp
     have al:(Ct (Kz l L) L ps i++[BM (Kz l L (Cy L i).1) [] ps []]).length<=AJ:=by rw[Ajd,aM];unfold AJ;simp;omega
     generalize BM (Kz l L (Cy L i).1) [] ps []=RV at *;generalize aS:Ct (Kz l L) L ps i=B at *;cases vo with
     | none=>
      have am:=au rfl;have x:vS none B=[]:=rfl;have w:sv none=.nil:=rfl;have aF:B=[]:=List.length_eq_zero_iff.1 (by omega);rw[x,Avc,<-aj];simp only[push_cast,seval,r,w,av,T,U];intros;rename_i C D b3 b4 b5;have hx:n<n+1+C+1+D/\n+1+C+1+D<n+1+C+1+D+1+b3+1+b4+1+b5:=by omega
      generalize n+1+C+1+D+1+b3+1+b4+1+b5=n3 at *;generalize n+1+C+1+D=o at *;have Z:∀j:Nat,((o,j)=(m1,6))=False:=λj=>Ab8 λa=>by grind
      have az:∀j:Nat,((m1,6)=(o,j))=False:=λj=>Ab8 λa=>AiZ (Z j) a.symm;have g2:∀j q:Nat,((o,j)=(n0,q))=False:=λj q=>Ab8 λa=>by injection a with I J;omega
      have aB:∀j q:Nat,((n0,q)=(o,j))=False:=λj q=>Ab8 λa=>AiZ (g2 j q) a.symm;refine PN O L hL hk i (by omega) _ _ _ (by simp) (Z _) (Z _) [.s l.tag,.s l.parent,.s l.dir,.sl (l.card.map A8.enc),.sl (l.ord.map A8.enc),r1,r2,r3,r4,r5,r6,r7,r8,r9,r10,r11] rfl _ _ _ _ _ _ _ _ _ ?_;intro g aL;have F:=W (o,49);rw[ak] at F;generalize(Cy L i).1=KS at *;generalize(Cy L i).2=KR at *;simp only[push_cast];refine H3 (Xv (rid:=(o,49)) (kid:=(o,47)) (A:=[.s l.tag,.s l.parent,.s l.dir,.sl (l.card.map A8.enc),.sl (l.ord.map A8.enc),r1,r2,r3,r4,r5,r6,r7,r8,r9,r10,r11,.sl (L.map B4.enc)]) (by simp) (by simp[lk]) (λy hy=>by obtain⟨z,_,rfl⟩:=Aov.1 hy;rfl) (λs=>.inl rfl) (Ab6 _)) ?_;have e1:∀k j:Nat,((g+1+k,j)=(m1,6))=False:=λk j=>Ab8 λa=>by injection a with I J;omega
      have a4:∀k j:Nat,((m1,6)=(g+1+k,j))=False:=λk j=>Ab8 λa=>AiZ (e1 k j) a.symm;have e2:∀k j q:Nat,((g+1+k,j)=(n0,q))=False:=λk j q=>Ab8 λa=>by injection a with I J;omega
      have e0:∀j:Nat,((g,j)=(m1,6))=False:=λj=>Ab8 λa=>by injection a with I J;omega
      have ay:∀j:Nat,((m1,6)=(g,j))=False:=λj=>Ab8 λa=>AiZ (e0 j) a.symm;have e3:∀j q:Nat,((g,j)=(n0,q))=False:=λj q=>Ab8 λa=>by injection a with I J;omega
      have e4:∀j q:Nat,((g,j)=(o,q))=False:=λj q=>Ab8 λa=>by injection a with I J;omega
      simp only[push_cast,seval];refine Ej F (λi e h=>AK (τ:=[_,_,_]) h) ?_;simp only[push_cast,seval,aw,Arp (show 1<=AJ by decide)];intros;have H:vS (some (g,88)) (Ct (Kz l L) L ps (i+1))=[((g,88),.arr vV 1 [V.sl (RV.map Ad.enc)])]:=by rw[ar,aF];rfl
      refine⟨t-(i+1),⟨_,[((m1,6),.box (.agg [.sl (L.map B4.enc),.arr (g,88)])),((g,88),.arr vV 1 [V.sl (RV.map Ad.enc)]),((n0,4),.box (.agg [.nil,.nil])),((n0,2),.box (.agg [.s l.tag,.s l.parent,.s l.dir,.sl (l.card.map A8.enc),.sl (l.ord.map A8.enc),r1,r2,r3,r4,r5,r6,r7,r8,r9,r10,r11]))],_⟩,by omega,Ag.sub ?_ ?_ (Ab6 _),i+1,_,some (g,88),by omega,rfl,(λh=>by cases h),?_,?_,by rw[H];rfl⟩
      .simp
      .intro p hp;simp at hp⊢;rcases hp with h|h|h|h<;>simp[h,vV]
      .intro id h;cases h;omega
      .omega
     | some b=>
      have ⟨c,d⟩:=X b rfl;have w:sv (some b)=.arr b:=rfl;have x:vS (some b) B=[(b,.arr vV 1 (B.map J7))]:=rfl;have d1:∀k j:Nat,((n+1+k,j)=b)=False:=λk j=>Ab8 λa=>by rw[<-a] at d;simp at d;omega
      have a2:∀k j:Nat,(b=(n+1+k,j))=False:=λk j=>Ab8 λa=>AiZ (d1 k j) a.symm;have d2:((m1,6)=b)=False:=Ab8 λa=>by rw[<-a] at c;simp at c
      have ax:(b=(m1,6))=False:=Ab8 λa=>AiZ d2 a.symm;have Y:∀q:Nat,(b=(n0,q))=False:=λq=>Ab8 λa=>by rw[a] at c;simp at c;omega
      have ai:∀q:Nat,((n0,q)=b)=False:=λq=>Ab8 λa=>AiZ (Y q) a.symm;rw[x,<-aj];simp only[push_cast,seval,r,w,av,T,U,Y];intros;rename_i C D b3 b4 b5;have hx:n<n+1+C+1+D/\n+1+C+1+D<n+1+C+1+D+1+b3+1+b4+1+b5:=by omega
      generalize n+1+C+1+D+1+b3+1+b4+1+b5=n3 at *;generalize n+1+C+1+D=o at *;have Z:∀j:Nat,((o,j)=(m1,6))=False:=λj=>Ab8 λa=>by injection a with I J;omega
      have az:∀j:Nat,((m1,6)=(o,j))=False:=λj=>Ab8 λa=>AiZ (Z j) a.symm;have g2:∀j q:Nat,((o,j)=(n0,q))=False:=λj q=>Ab8 λa=>by injection a with I J;omega
      have aB:∀j q:Nat,((n0,q)=(o,j))=False:=λj q=>Ab8 λa=>AiZ (g2 j q) a.symm;have g3:∀j:Nat,((o,j)=b)=False:=λj=>Ab8 λa=>by rw[<-a] at d;simp at d;omega
      have aC:∀j:Nat,(b=(o,j))=False:=λj=>Ab8 λa=>AiZ (g3 j) a.symm;refine PN O L hL hk i (by omega) _ _ _ (by simp) (Z _) (Z _) [.s l.tag,.s l.parent,.s l.dir,.sl (l.card.map A8.enc),.sl (l.ord.map A8.enc),r1,r2,r3,r4,r5,r6,r7,r8,r9,r10,r11] rfl _ _ _ _ _ _ _ _ _ ?_;intro g aL;have F:=W (o,49);rw[ak] at F;generalize(Cy L i).1=KS at *;generalize(Cy L i).2=KR at *;simp only[push_cast];refine H3 (Xv (rid:=(o,49)) (kid:=(o,47)) (A:=[.s l.tag,.s l.parent,.s l.dir,.sl (l.card.map A8.enc),.sl (l.ord.map A8.enc),r1,r2,r3,r4,r5,r6,r7,r8,r9,r10,r11,.sl (L.map B4.enc)]) (by simp) (by simp[lk,aC]) (λy hy=>by obtain⟨z,_,rfl⟩:=Aov.1 hy;rfl) (λs=>.inl rfl) (Ab6 _)) ?_;have e0:∀j:Nat,((g,j)=(m1,6))=False:=λj=>Ab8 λa=>by injection a with I J;omega
      have ay:∀j:Nat,((m1,6)=(g,j))=False:=λj=>Ab8 λa=>AiZ (e0 j) a.symm;have e3:∀j q:Nat,((g,j)=(n0,q))=False:=λj q=>Ab8 λa=>by injection a with I J;omega
      have e4:∀j q:Nat,((g,j)=(o,q))=False:=λj q=>Ab8 λa=>by injection a with I J;omega
      have e5:∀j:Nat,((g,j)=b)=False:=λj=>Ab8 λa=>by rw[<-a] at d;simp at d;omega
      have aG:List.map J7 B++[V.sl (RV.map Ad.enc)]=(B++[RV]).map J7:=by simp[J7]
      rw[Ajd,An9,AtX] at al;simp only[push_cast,seval,vV];refine Ej F (λi e h=>AK (τ:=[_,_,_,_]) h) ?_;simp only[push_cast,seval,g3,d2,ai,aw,Arp al,aG];intros;have H:vS (some (g,88)) (Ct (Kz l L) L ps (i+1))=[((g,88),.arr vV 1 ((B++[RV]).map J7))]:=by rw[ar];rfl
      refine⟨t-(i+1),⟨_,[((m1,6),.box (.agg [.sl (L.map B4.enc),.arr (g,88)])),((g,88),.arr vV 1 ((B++[RV]).map J7)),((n0,4),.box (.agg [.nil,.nil])),((n0,2),.box (.agg [.s l.tag,.s l.parent,.s l.dir,.sl (l.card.map A8.enc),.sl (l.ord.map A8.enc),r1,r2,r3,r4,r5,r6,r7,r8,r9,r10,r11]))],_⟩,by omega,Ag.sub ?_ ?_ (Ab6 _),i+1,_,some (g,88),by omega,rfl,(λh=>by cases h),?_,?_,by rw[H];rfl⟩
      .simp
      .intro p hp;simp at hp⊢;rcases hp with h|h|h|h<;>simp[h,vV]
      .intro id h;cases h;omega
      .omega
    .have ao:i=t:=by omega
     have r:decide ((i:Int)<(t:Int))=false:=by simpa using ap
     cases vo with
     | none=>
      have am:=au rfl;have aE:Ct (Kz l L) L ps i=[]:=by rw[am];rfl
      have x:vS none (Ct (Kz l L) L ps i)=[]:=rfl;have w:sv none=.nil:=rfl;rw[x,Avc];simp only[push_cast,seval,r,w];intros;rw[<-ao,aE];exact Jo (u:=.agg [.sl (L.map B4.enc),.nil]) (f:=(L,[])) rfl rfl (by simp[lk]) (λ_=>none) (λ_ _ h=>by cases h) (UN L [] none (λ_=>rfl) (λ_ h=>by cases h)) rfl rfl
     | some b=>
      have ⟨c,d⟩:=X b rfl;have w:sv (some b)=.arr b:=rfl;have x:vS (some b) (Ct (Kz l L) L ps i)=[(b,.arr vV 1 ((Ct (Kz l L) L ps i).map J7))]:=rfl;have d2:((m1,6)=b)=False:=Ab8 λa=>by grind
      have ax:(b=(m1,6))=False:=Ab8 λa=>AiZ d2 a.symm;have Y:∀q:Nat,(b=(n0,q))=False:=λq=>Ab8 λa=>by grind
      have ai:∀q:Nat,((n0,q)=b)=False:=λq=>Ab8 λa=>AiZ (Y q) a.symm;rw[x];simp only[push_cast,seval,r,w,Y];intros;rw[<-ao];generalize Ct (Kz l L) L ps i=B at *;refine Jo (u:=.agg [.sl (L.map B4.enc),.arr b]) (f:=(L,B)) rfl rfl (by simp[lk,Y]) (λj=>if j=b then some (B.map J7) else none) (λj es h=>?_) (UN L B (some b) (λh=>by cases h) (λid h=>by cases h;simp)) rfl rfl;split at h
      .rename_i a;subst a;cases h;exact⟨⟨vV,1,by simp[lk,d2]⟩,λa=>AiZ (Y _) a⟩
      .cases h
def I1:List Aa->List Aa->Bool
 | _,[]=>true
 | d,k::r=>!d.contains k&&I1 (d++[k]) r
def Hl(l:List Aa):Bool:=match l.getLast? with
 | none=>false
 | some k=>k==AH
def TO(s:B4):Bool:=AI s.kind&&(BF s.name&&Hl s.keys)
def DB:List B4->List B4->Bool
 | _,[]=>true
 | d,s::r=>TO s&&(I1 [] s.keys&&(!d.any (BX s.kind s.name)&&DB (d++[s]) r))
def Gf(f:P8):Bool:=DB [] f.1&&(decide ((CS 1 f.1:Int)<=400)&&((f.2.length:Int)==(CS 1 f.1:Int)))
theorem AsN(s:B4):Pg true 3 s.enc:=Fh rfl
theorem AqZ:Ao π 43 19 (JA 70 3 true) Rc=true:=by kernel_rfl
theorem Ar5:Ao π 54 9 (O5 43) cT=true:=by kernel_rfl
theorem Aji{l:List B4}{g first caps σ p}(c:l.length<2^62)(a:∀x∈l,Ak π O g (first++[x.enc]++caps) σ (.b (p x)) σ) :
  Ak π O 54 [.sl (l.map B4.enc),.fn g first caps] σ (.b (l.any p)) σ:=by
 rw[<-EY];exact CQ O Ar5 _ _ _ _ (Cn O AqZ B4.enc l p g first caps σ (λx _=>AsN x) a c)
theorem rJ(t s:B4) a σ (d:lk σ a=some (.box (.agg [.i .i64 s.kind,.s s.name,.sl (s.keys.map V.s)]))):Ak π O 55 [t.enc,.ref a 0] σ (.b (BX s.kind s.name t)) σ:=by
 generalize hS:BX s.kind s.name t=S;unfold BX at hS;refine Ac (vs:=[.b S]) Apr (by simp) (λ_ h=>h) λn0 c=>?_;have f:∀j,((n0,j)=a)=False:=λj=>Gt (c _ _ d);simp only[push_cast,rq,f,d]
 repeat' (first|((apply AL<;>intro _h)<;>simp only[push_cast,rq,_h,f,d])|intro _)
 all_goals subst hS
 all_goals (refine Aw (by simp[get, *]) (λi e h=>DJ (c i e h) h))
theorem Wg l:(l=[]/\Hl l=false)\/∃d k,l=d++[k]/\Hl l=(k==AH):=by
 rcases Ay5 l with h|⟨d,k,h⟩
 .left;subst h;exact⟨rfl,rfl⟩
 .right;refine⟨d,k,by grind,?_⟩;subst h;rw[Azh];simp[Hl]
theorem Acc(f:P8)(h1:f.1.length<=2^26)(hk:∀s∈f.1,s.keys.length<=2^26/\s.name.length<=2^30):Ak π O 24 [GM f] [] (.b (Gf f)) []:=by
 have ⟨L,VS⟩:=f;simp only at h1 hk;have aa:=xS O L (by omega) (λs Y=>by grind);unfold Gf GM;simp only;generalize CS 1 L=CB at *;generalize hT:(decide ((CB:Int)<=400)&&((VS.length:Int)==(CB:Int)))=T;generalize hS:(DB [] L&&T)=S;refine Ac (vs:=[.b S]) ArJ (by simp) (by simp) λn0 ab=>?_;clear ab;simp only[push_cast,seval];intros;refine Aj L.length (Inv:=λm st=>∃dn d n,L=dn++d/\m=d.length/\(DB dn d&&T)=S/\n0<n/\st=⟨[(1,.ref (n0,1) 0),(9,.sl (L.map B4.enc)),(10,.i .i64 L.length),(11,.i .i64 dn.length)],[((n0,1),.box (.agg [.sl (L.map B4.enc),.sl (VS.map J7)]))],n⟩) ⟨_,Ag.refl,[],L,_,rfl,rfl,hS,by grind,rfl⟩ ?_;clear hS;rintro m _ ⟨dn,d,n,X,rfl,a,hn,rfl⟩;cases d with
 | nil=>
  have g:decide ((dn.length:Int)<(L.length:Int))=false:=by rw[X];simp
  rw[DB,AxA] at a;subst a;simp only[push_cast,seval,g];repeat' (first|(first|((first|apply Ai|apply Am|apply Al)<;>intro _h)|refine Ab aa ?_)<;>simp only[push_cast,seval,_h]|intro _)
  all_goals (refine Af ?_;simp only[<-hT];simp[get, *])
 | cons s d=>
  have g:decide ((dn.length:Int)<(L.length:Int))=true:=by rw[X];simp;omega
  have ar:=A9 X;have ⟨hks,hns⟩:=hk s (by rw[X];simp);have r:(L.map B4.enc)[dn.length]?=some s.enc:=by grind
  have c:=D7 O s.kind;have v:=Ds O s.name (by unfold AG;omega);rw[DB] at a;unfold TO at a;have f1:∀k j q:Nat,((n+1+k,j)=(n0,q))=False:=λk j q=>Ab8 λM=>by grind
  have Z:∀k j q:Nat,((n0,q)=(n+1+k,j))=False:=λk j q=>Ab8 λM=>AiZ (f1 k j q) M.symm;cases Y:AI s.kind with
  | false=>
   rw[Y] at a c;simp only[AyN] at a;subst a;simp only[push_cast,seval,g,r];repeat' (first|(first|((first|apply Ai|apply Am|apply Al)<;>intro _h)|refine Ab c ?_)<;>simp only[push_cast,seval]|intro _)
   exact Af (by simp[get])
  | true=>
  cases hm:BF s.name with
  | false=>
   rw[Y] at a c;rw[hm] at a v;simp only[AyN,AxA] at a;subst a;simp only[push_cast,seval,g,r];repeat' (first|(first|((first|apply Ai|apply Am|apply Al)<;>intro _h)|refine Ab c ?_|refine Ab v ?_)<;>simp only[push_cast,seval]|intro _)
   exact Af (by simp[get])
  | true=>
  rw[Y] at a c;rw[hm] at a v;rcases Wg s.keys with⟨hk0,hlo⟩|⟨kd0,kl,hk0,hlo⟩
  .rw[hlo] at a;simp only[AyN,AxA] at a;subst a;simp only[push_cast,seval,g,r,hk0];repeat' (first|(first|((first|apply Ai|apply Am|apply Al)<;>intro _h)|refine Ab c ?_|refine Ab v ?_)<;>simp only[push_cast,seval]|intro _)
   exact Af (by simp[get])
  .have U:s.keys.length=kd0.length+1:=by rw[hk0];simp
   have G:((s.keys.length:Int)==0)=false:=by rw[U];simp;omega
   have H:IntKind.i64.wrap ((s.keys.length:Int)-1)=(kd0.length:Int):=by rw[wrap64 (by omega) (by omega)];omega
   have F:(s.keys.map V.s)[kd0.length]?=some (.s kl):=by simp_all
   have W:kd0.length<s.keys.length:=by omega
   cases z:(kl==AH) with
   | false=>
    have B:(kl==[111,116,104,101,114])=false:=z;rw[hlo,z] at a;simp only[AyN,AxA] at a;subst a;simp only[push_cast,seval,g,r];repeat' (first|(first|((first|apply Ai|apply Am|apply Al)<;>intro _h)|refine Ab c ?_|refine Ab v ?_)<;>simp only[push_cast,seval,G,H,F,B]|intro _)
    exact Af (by simp[get])
   | true=>
    have B:(kl==[111,116,104,101,114])=true:=z;rw[hlo,z] at a;simp only[AxA] at a;simp only[push_cast,seval,g,r];repeat' (first|(first|((first|apply Ai|apply Am|apply Al)<;>intro _h)|refine Ab c ?_|refine Ab v ?_)<;>simp only[push_cast,seval,G,H,F,B]|intro _)
    rename_i J b2 b3 b4;have hx:n<n+1+J/\n+1+J<n+1+J+1+b2+1+b3+1+b4:=by omega
    generalize n+1+J+1+b2+1+b3+1+b4=n2 at *;generalize n+1+J=E at *;have ⟨hx1,hx2⟩:=hx;have g1:∀j q:Nat,((E,j)=(n0,q))=False:=λj q=>Ab8 λM=>by grind
    have an:∀j q:Nat,((n0,q)=(E,j))=False:=λj q=>Ab8 λM=>AiZ (g1 j q) M.symm;clear hk0 hlo U G H F W B z c v f1 Z;refine Aj s.keys.length (Inv:=λm st=>∃w I n,s.keys=w++I/\m=I.length/\(I1 w I&&(!dn.any (BX s.kind s.name)&&DB (dn++[s]) d)&&T)=S/\E<n/\st=⟨[(1,.ref (n0,1) 0),(3,.i .i64 dn.length),(4,.ref (E,4) 0),(9,.sl (L.map B4.enc)),(10,.i .i64 L.length),(11,.i .i64 dn.length),(44,.sl (s.keys.map V.s)),(45,.i .i64 s.keys.length),(46,.i .i64 w.length)],[((E,4),.box (.agg [.i .i64 s.kind,.s s.name,.sl (s.keys.map V.s)])),((n0,1),.box (.agg [.sl (L.map B4.enc),.sl (VS.map J7)]))],n⟩) ⟨_,Ag.refl,[],s.keys,_,rfl,rfl,a,hx2,rfl⟩ ?_;clear a;rintro m _ ⟨w,I,n3,D,rfl,a,av,rfl⟩;cases I with
    | nil=>
     have u:decide ((w.length:Int)<(s.keys.length:Int))=false:=by rw[D];simp
     rw[I1,AxA] at a;have K:=Aji O (l:=dn) (p:=BX s.kind s.name) (σ:=[((E,4),.box (.agg [.i .i64 s.kind,.s s.name,.sl (s.keys.map V.s)]))]) (first:=[]) (caps:=[.ref (E,4) 0]) (by omega) (λt _=>rJ O t s (E,4) _ (by simp[lk]));have A:(if 0<=dn.length/\dn.length<=L.length then some (V.sl (List.take dn.length (L.map B4.enc))) else none)=some (V.sl (dn.map B4.enc)):=by simp_all
     have o:∀y∈L.map B4.enc,(cells y).length=3:=λy hy=>by obtain⟨x,_,rfl⟩:=Aov.1 hy;rfl
     generalize ap:dn.any (BX s.kind s.name)=AN at *;cases AN with
     | true=>simp only[bq] at a;subst a;simp only[push_cast,seval,u,A,Arp o];intros;refine Ej K (λi e h=>AK (τ:=[_]) h) ?_;simp only[push_cast,seval];intros;exact Af (by simp[get])
     | false=>simp only[bq] at a;simp only[push_cast,seval,u,A,Arp o];intros;refine Ej K (λi e h=>AK (τ:=[_]) h) ?_;simp only[push_cast,seval,Ae s (dn:=dn) (by omega)];intros;exact⟨_,_,Ab4 _,Ag.drop1 (by simp[lk]) (Ab6 _),dn++[s],d,_,by rw[X];simp,rfl,a,by omega,rfl⟩
    | cons key I=>
     have u:decide ((w.length:Int)<(s.keys.length:Int))=true:=by rw[D];simp;omega
     have au:=A9 D;rw[I1] at a;have N:(s.keys.map V.s)[w.length]?=some (.s key):=by simp_all
     have A:(if 0<=w.length/\w.length<=s.keys.length then some (V.sl (List.take w.length (s.keys.map V.s))) else none)=some (V.sl (w.map V.s)):=by simp_all
     have o:∀y∈s.keys.map V.s,(cells y).length=1:=λy hy=>by obtain⟨x,_,rfl⟩:=Aov.1 hy;rfl
     have C:=G8 O w key (by omega);cases hc:w.contains key with
     | true=>
      rw[hc] at a C;simp only[bq] at a;subst a;simp only[push_cast,seval,u,A,N,Arp o];repeat' (first|(first|((first|apply Ai|apply Am|apply Al)<;>intro _h)|refine Ab C ?_)<;>simp only[push_cast,seval]|intro _)
      exact Af (by simp[get])
     | false=>
      rw[hc] at a C;simp only[bq] at a;simp only[push_cast,seval,u,A,N,Arp o];repeat' (first|(first|((first|apply Ai|apply Am|apply Al)<;>intro _h)|refine Ab C ?_)<;>simp only[push_cast,seval,Ae key (dn:=w) (by omega)]|intro _)
      exact⟨_,_,Ab4 _,Ag.refl,w++[key],I,_,by rw[D];simp,rfl,a,by omega,rfl⟩
def MH(kind:Int)(a:Aa)(vs:List Ch):Option Ch×Int:=
 match Fo vs a with
 | none=>(none,12)
 | some v=>if !FA v||v.type !=(if kind==9 then 1 else 2) then(none,11) else(some v,0)
def DK(l:Jp)(vs:List Ch):List B4->Int->Int×Int
 | [],n=>(n,0)
 | s::L,n=>match(MH s.kind s.name vs).1 with
  | none=>(0,(MH s.kind s.name vs).2)
  | some v=>DK l vs L (IntKind.i64.wrap (IntKind.i64.wrap (n*(s.keys.length:Int))+Vv l s v))
theorem AvQ{s dn a L}(h:L=dn++s::a):(L.map B4.enc)[dn.length]?=some (.agg [.i .i64 s.kind,.s s.name,.sl (s.keys.map V.s)]):=by rw[h,ArI,Au5 (by simp)];simp[B4.enc]
theorem lB(l:Jp)(f:P8)(vs:List Ch)(x:l.rest.length=11)(V:Ax l.card+Ax l.ord<=2^24)(E:f.1.length<=2^26)(B:∀s∈f.1,s.keys.length<=2^26/\s.name.length<=2^30)
  (X:vs.length<=2^40)(G:∀v∈vs,v.text.length<=2^29/\v.list.length<=2^30) :
  Ak π O 9 [l.enc,GM f,.sl (vs.map Ch.enc)] [] (.tup [.i .i64 (if !Gf f then(0,1) else if !AW [] l.card||!AW [] l.ord then(0,18) else DK l vs f.1 0).1,.i .i64 (if !Gf f then(0,1) else if !AW [] l.card||!AW [] l.ord then(0,18) else DK l vs f.1 0).2]) []:=by
 have e:=Acc O f E B;have p:=Fu O l.card (by omega);have t:=Fu O l.ord (by omega);have w:=λs v (T:v.text.length<=2^29) (U:s.keys.length<=2^30)=>Atz O l s v rfl x V T U;have ⟨L,VS⟩:=f;simp only at E B;have ⟨r1,r2,r3,r4,r5,r6,r7,r8,r9,r10,r11,hrest⟩:=QC x;have A:l.enc=.agg [.s l.tag,.s l.parent,.s l.dir,.sl (l.card.map A8.enc),.sl (l.ord.map A8.enc),r1,r2,r3,r4,r5,r6,r7,r8,r9,r10,r11]:=by rw[Jp.enc_eq,hrest]
 rw[A] at w⊢;generalize hS:(if !Gf (L,VS) then((0,1):Int×Int) else if !AW [] l.card||!AW [] l.ord then(0,18) else DK l vs L 0)=S;generalize Gf (L,VS)=K at *;unfold GM at e⊢;simp only at e⊢;generalize AW [] l.card=I at *;generalize AW [] l.ord=J at *;refine Ac (vs:=[.i .i64 S.1,.i .i64 S.2]) Axw (by simp) (by simp) λn0 C=>?_;clear C;cases K
 .simp only[bq,AbA] at hS;subst hS;simp only[push_cast,rq];repeat' (first|(first|((first|apply Ai|apply Am|apply Al)<;>intro _h)|refine Ab e ?_)<;>simp only[push_cast,rq]|intro _)
  all_goals (refine Ah ?_;simp[push_cast])
 cases I
 .simp only[bq,AbA,Ab9] at hS;subst hS;simp only[push_cast,rq];repeat' (first|(first|((first|apply Ai|apply Am|apply Al)<;>intro _h)|refine Ab e ?_|refine Ab p ?_)<;>simp only[push_cast,rq]|intro _)
  all_goals (refine Ah ?_;simp[push_cast])
 cases J
 .simp only[bq,AbA,Ab9] at hS;subst hS;simp only[push_cast,rq];repeat' (first|(first|((first|apply Ai|apply Am|apply Al)<;>intro _h)|refine Ab e ?_|refine Ab p ?_|refine Ab t ?_)<;>simp only[push_cast,rq]|intro _)
  all_goals (refine Ah ?_;simp[push_cast])
 simp only[bq,Ab9] at hS;simp only[push_cast,rq];repeat' (first|(first|((first|apply Ai|apply Am|apply Al)<;>intro _h)|refine Ab e ?_|refine Ab p ?_|refine Ab t ?_)<;>simp only[push_cast,rq]|intro _)
 clear e p t;refine Aj L.length (Inv:=λm st=>∃dn b n a,L=dn++b/\m=b.length/\DK l vs b a=S/\n0<n/\st=⟨[(2,.sl (vs.map Ch.enc)),(3,.ref (n0,3) 0),(8,.i .i64 a),(28,.sl (L.map B4.enc)),(29,.i .i64 L.length),(30,.i .i64 dn.length)],[((n0,4),.box (.agg [.sl (L.map B4.enc),.sl (VS.map J7)])),((n0,3),.box (.agg [.s l.tag,.s l.parent,.s l.dir,.sl (l.card.map A8.enc),.sl (l.ord.map A8.enc),r1,r2,r3,r4,r5,r6,r7,r8,r9,r10,r11]))],n⟩) ⟨_,Ag.refl,[],L,_,0,rfl,rfl,hS,by grind,rfl⟩ ?_;clear hS;rintro m _ ⟨dn,b,n,a,u,rfl,c,Z,rfl⟩;cases b with
 | nil=>
  have d:decide ((dn.length:Int)<(L.length:Int))=false:=by rw[u];simp
  simp only[DK] at c;subst c;simp only[push_cast,rq,d];intros;refine Ah ?_;simp[push_cast]
 | cons s b=>
  have d:decide ((dn.length:Int)<(L.length:Int))=true:=by rw[u];simp;omega
  have W:=A9 u;have g:=AvQ u;have ⟨hks,hns⟩:=B s (by rw[u];simp);have h:=Lx O vs s.name X (λv y=>(G v y).2);rw[DK] at c;unfold MH at c;have M:∀k j q:Nat,((n+1+k,j)=(n0,q))=False:=λk j q=>Ab8 λF=>by grind
  have N:∀k j q:Nat,((n0,q)=(n+1+k,j))=False:=λk j q=>Ab8 λF=>AiZ (M k j q) F.symm;cases y:Fo vs s.name with
  | none=>
   rw[y] at h c;unfold O2 gV dC at h;simp only[AyQ] at h;simp only at c;subst c;simp only[push_cast,rq,d,g];repeat' (first|(first|((first|apply Ai|apply Am|apply Al)<;>intro _h)|refine Ab h ?_)<;>simp only[push_cast,rq]|intro _)
   all_goals (refine Ah ?_;simp[push_cast])
  | some v=>
   have D:=G v (Gd y);have hp:=Je O v (by omega);have r:=w s v D.1 (by omega);rw[y] at h c;simp only at c;unfold O2 gV at h;simp only[AwY] at h;rw[Ch.enc_eq] at h hp r;unfold B4.enc at r;generalize FA v=H at *;generalize z:Vv l s v=Y at *;cases H with
   | false=>
    simp only[bq,AbA] at c;subst c;cases o:s.kind==9
    all_goals
     simp only[push_cast,rq,d,g];repeat' (first|(first|((first|apply Ai|apply Am|apply Al)<;>intro _h)|refine Ab h ?_|refine Ab hp ?_)<;>simp only[push_cast,rq,o]|intro _)
     all_goals (refine Ah ?_;simp[push_cast])
   | true=>
    cases o:s.kind==9
    all_goals
     rw[o] at c;simp only[bq,AbA,Ab9] at c;simp only[push_cast,rq,d,g];repeat' (first|(first|((first|apply Ai|apply Am|apply Al)<;>intro _h)|refine Ab h ?_|refine Ab hp ?_|refine Ab r ?_)<;>simp only[push_cast,rq,_h,o,Ae s (dn:=dn) (by omega)]|intro _)
     .have _g:=_h;simp only[_g,AbA] at c;subst c;refine Ah ?_;simp[push_cast]
     .have _g:=_h;simp only[_g,Ab7,Ab9,z] at c;exact⟨_,_,Ab4 _,(Ag.drop1 (by simp[lk]) (Ab6 _)).trans (Ag.drop1 (by simp[lk]) (Ab6 _)),dn++[s],b,_,_,by rw[u];simp,rfl,c,by omega,rfl⟩
def Tu:List Aa->Int->Int
 | [],n=>n
 | x::r,n=>Tu r (max n (x.length:Int))
def Dr(e:Bool):List Ch->Bool
 | []=>e
 | v::r=>!(decide (Tu v.list (v.text.length:Int)>200)||decide ((v.list.length:Int)>12)||decide ((v.name.length:Int)>60))&&Dr e r
theorem eD(vs:List Ch)(C:vs.length<=2^40)(A:∀v∈vs,v.list.length<=2^40):Ak π O 31 [.sl (vs.map Ch.enc)] [] (.b (Dr (decide ((vs.length:Int)<=30)) vs)) []:=by
 generalize x:decide ((vs.length:Int)<=30)=E;generalize hS:Dr E vs=S;refine Ac (vs:=[.b S]) Aq2 (by simp) (by simp) λn0 r=>?_;clear r;simp only[push_cast,rq];intros;refine Aj vs.length (Inv:=λm st=>∃dn c n,vs=dn++c/\m=c.length/\Dr E c=S/\st=⟨[(0,.sl (vs.map Ch.enc)),(3,.i .i64 dn.length)],[],n⟩) ⟨_,Ag.refl,[],vs,_,rfl,rfl,hS,rfl⟩ ?_;clear hS;rintro m _ ⟨dn,c,n,o,rfl,h,rfl⟩;cases c with
 | nil=>
  have f:decide ((dn.length:Int)<(vs.length:Int))=false:=by rw[o];simp
  rw[Dr] at h;simp only[push_cast,rq,f,x];intros;exact Af (by simp[get,h])
 | cons v c=>
  have f:decide ((dn.length:Int)<(vs.length:Int))=true:=by rw[o];simp;omega
  have y:=A9 o;have d:(vs.map Ch.enc)[dn.length]?=some (.agg [.s v.name,.i .i64 v.type,.s v.text,.i .i64 v.date,.sl (v.list.map V.s)]):=by rw[o,ArI,Au5 (by simp)];simp[Ch.enc_eq]
  have B:=A v (by rw[o];simp);rw[Dr] at h;simp only[push_cast,rq,f,d];intros;refine Aj v.list.length (Inv:=λm st=>∃j l n a,v.list=j++l/\m=l.length/\Tu v.list (v.text.length:Int)=Tu l a/\st=⟨[(0,.sl (vs.map Ch.enc)),(3,.i .i64 dn.length),(4,.i .i64 a),(5,.i .i64 j.length)],[],n⟩) ⟨_,Ag.refl,[],v.list,_,_,rfl,rfl,rfl,rfl⟩ ?_;rintro m _ ⟨j,l,D,a,e,rfl,p,rfl⟩;cases l with
  | nil=>
   have g:decide ((j.length:Int)<(v.list.length:Int))=false:=by rw[e];simp
   rw[Tu] at p;rw[p] at h;simp only[push_cast,rq,g,d];clear p e
   repeat' (first|(((first|apply Ai|apply Am|apply Al)<;>intro _h)<;>simp only[push_cast,rq,_h,d,Ae v (dn:=dn) (by omega)])|intro _)
   all_goals (first|(simp only[*,bq] at h;subst h;exact Af (by simp[get]))|skip)
   have t:decide ((v.list.length:Int)>12)=false:=by assumption
   have u:decide ((v.name.length:Int)>60)=false:=by assumption
   have w:decide (a>200)=false:=by assumption
   simp only[t,u,w,bq] at h;exact⟨_,_,Ab4 _,Ag.refl,dn++[v],c,_,by rw[o];simp,rfl,h,rfl⟩
  | cons k l=>
   have g:decide ((j.length:Int)<(v.list.length:Int))=true:=by rw[e];simp;omega
   have z:=A9 e;have q:(v.list.map V.s)[j.length]?=some (.s k):=by simp_all
   rw[Tu] at p;simp only[push_cast,rq,g,d,q,Ae k (dn:=j) (by omega)];intros;exact⟨_,_,Ab4 _,Ag.refl,j++[k],l,_,_,by rw[e];simp,rfl,p,rfl⟩
def Ju(s:Aa):Nat:=s.length+30
def Gu(l:List Aa):Nat:=BT Ju l
theorem H4 l (k:Gu l<=2^40):Ak π O 97 [.sl (l.map V.s)] [] (.i .i64 (Gu l)) []:=by
 have f:l.length<=Gu l:=Gk (λx=>by unfold Ju;omega) l;generalize hS:Gu l=S at *;refine Ac (vs:=[.i .i64 S]) Ars (by simp) (by simp) λn0 d=>?_;clear d;simp only[push_cast,rq];intros;refine Aj l.length (Inv:=λm st=>∃dn b n,∃a:Nat,l=dn++b/\m=b.length/\a+Gu b=S/\st=⟨[(0,.sl (l.map V.s)),(3,.i .i64 a),(4,.i .i64 dn.length)],[],n⟩) ⟨_,Ag.refl,[],l,_,0,rfl,rfl,by rw[hS];omega,rfl⟩ ?_;clear hS;rintro m _ ⟨dn,b,n,a,e,rfl,c,rfl⟩;cases b with
 | nil=>
  have:a=S:=by simpa[Gu,BT] using c
  subst this;simp only[push_cast,rq,e];intros
  all_goals (first|(refine Af ?_;simp[get]<;>(intros;omega);done)|(exact Gj;done)|skip)
 | cons p b=>
  have g:=A9 e;unfold Gu at c;rw[BT] at c;have hp:Ju p=p.length+30:=rfl;have h:IntKind.i64.wrap ((p.length:Int)+30)=((Ju p:Nat):Int):=by rw[wrap64 (by omega) (by omega),hp];omega
  have j:IntKind.i64.wrap ((a:Int)+((Ju p:Nat):Int))=((a+Ju p:Nat):Int):=by rw[wrap64 (by omega) (by omega)];omega
  simp only[push_cast,rq,e,Ae p (dn:=dn) (by omega),h,j];intros;exact⟨_,_,Ab4 _,Ag.refl,dn++[p],b,_,a+Ju p,by simp,rfl,by unfold Gu;omega,rfl⟩
def Ed.sz(x:Ed):Nat:=Gu [x.style,x.two,x.start,x.mid,x.fin]
def Fv.sz(x:Fv):Nat:=Gu [x.unit,x.cls,x.pat]
def E4.sz(x:E4):Nat:=Gu [x.skel,x.pat]
def Pa(L:Du):Nat:=(Gu [L.tag,L.parent,L.dir,L.dec,L.grp,L.minus,L.perc]+Gu L.months+Gu L.days+100*(L.card.length+L.ord.length))+BT Ed.sz L.lists+BT Fv.sz L.units+BT E4.sz L.dates
theorem Ae0(L:Du)(y:Pa L<=2^40):Ak π O 65 [.agg [.sl [L.enc],.nil,.nil]] [] (.i .i64 (Pa L)) []:=by
 have F:L.lists.length<=BT Ed.sz L.lists:=Gk (λx=>by unfold Ed.sz Gu;simp only[BT,Ju];omega) _;have G:L.units.length<=BT Fv.sz L.units:=Gk (λx=>by unfold Fv.sz Gu;simp only[BT,Ju];omega) _;have H:L.dates.length<=BT E4.sz L.dates:=Gk (λx=>by unfold E4.sz Gu;simp only[BT,Ju];omega) _;have D:=H4 O [L.tag,L.parent,L.dir,L.dec,L.grp,L.minus,L.perc] (by unfold Pa at y;omega);have E:=H4 O L.days (by unfold Pa at y;omega);have c3:=H4 O L.months (by unfold Pa at y;omega);simp only[Ao7,Ava] at D;generalize hS:Pa L=S;unfold Pa at hS y;generalize Gu [L.tag,L.parent,L.dir,L.dec,L.grp,L.minus,L.perc]=o at *;generalize Gu L.days=z at *;generalize Gu L.months=q at *;generalize W:o+q+z+100*(L.card.length+L.ord.length)=A at *;refine Ac (vs:=[.i .i64 S]) Ar3 (by simp) (by simp) λn0 B=>?_;clear B;simp only[push_cast,seval];intros;refine Aj 1 (Inv:=λm st=>∃n,∃a:Nat,(a=0/\m=1\/a=S/\m=0)/\st=⟨[(1,.ref (n0,1) 0),(3,.i .i64 a),(4,.i .i64 ((1-m:Nat):Int))],[((n0,1),.box (.agg [.sl [L.enc],.nil,.nil]))],n⟩) ⟨_,Ag.refl,_,0,.inl ⟨rfl,rfl⟩,rfl⟩ ?_;rintro m _ ⟨n,a,I,rfl⟩;rcases I with⟨rfl,rfl⟩|⟨rfl,rfl⟩
 .have J:IntKind.i64.wrap ((o:Int)+(q:Int))=(o:Int)+(q:Int):=by rw[wrap64 (by omega) (by omega)]
  have K:IntKind.i64.wrap ((o:Int)+(q:Int)+(z:Int))=(o:Int)+(q:Int)+(z:Int):=by rw[wrap64 (by omega) (by omega)]
  have M:IntKind.i64.wrap ((L.card.length:Int)+(L.ord.length:Int))=(L.card.length:Int)+(L.ord.length:Int):=by rw[wrap64 (by omega) (by omega)]
  have N:IntKind.i64.wrap (100*((L.card.length:Int)+(L.ord.length:Int)))=100*((L.card.length:Int)+(L.ord.length:Int)):=by rw[wrap64 (by omega) (by omega)]
  have T:IntKind.i64.wrap ((o:Int)+(q:Int)+(z:Int)+100*((L.card.length:Int)+(L.ord.length:Int)))=(A:Int):=by rw[wrap64 (by omega) (by omega)];omega
  have U:IntKind.i64.wrap (0+(A:Int))=(A:Int):=by grind
  simp only[push_cast,seval];intros;refine Ab (by exact D) ?_;simp only[push_cast,seval];refine Ab (by exact c3) ?_;simp only[push_cast,seval,J];refine Ab (by exact E) ?_;simp only[push_cast,seval,K,M,N,T,U];intros;rename_i k1 k2 k3 X;have ⟨x,hx⟩:∃x:Id,x=(n+1+k1,5):=⟨_,rfl⟩
  have C:x≠(n0,1):=by rw[hx];simp
  rw[<-hx];generalize v:((x,AP.box (.agg [.s L.tag,.s L.parent,.s L.dir,.sl (L.card.map A8.enc),.sl (L.ord.map A8.enc),.s L.dec,.s L.grp,.s L.minus,.s L.perc,.i .i64 L.prim,.i .i64 L.sec,.sl (L.lists.map Ed.enc),.sl (L.units.map Fv.enc),.sl (L.dates.map E4.enc),.sl (L.months.map V.s),.sl (L.days.map V.s)]))::_:Aq)=τ;have e:lk τ x=some (.box (.agg [.s L.tag,.s L.parent,.s L.dir,.sl (L.card.map A8.enc),.sl (L.ord.map A8.enc),.s L.dec,.s L.grp,.s L.minus,.s L.perc,.i .i64 L.prim,.i .i64 L.sec,.sl (L.lists.map Ed.enc),.sl (L.units.map Fv.enc),.sl (L.dates.map E4.enc),.sl (L.months.map V.s),.sl (L.days.map V.s)])):=by rw[<-v];simp[lk]
  have ⟨l,hA1⟩:∃l,l=A+BT Ed.sz L.lists:=⟨_,rfl⟩
  have ⟨r,hA2⟩:∃r,r=l+BT Fv.sz L.units:=⟨_,rfl⟩
  refine Aj L.lists.length (Inv:=λm st=>∃dn b g,∃a:Nat,L.lists=dn++b/\m=b.length/\a+BT Ed.sz b=A+BT Ed.sz L.lists/\st=⟨[(1,.ref (n0,1) 0),(3,.i .i64 a),(4,.i .i64 0),(5,.ref x 0),(6,.i .i64 dn.length)],τ,g⟩) ⟨_,Ag.refl,[],L.lists,_,A,rfl,rfl,rfl,rfl⟩ ?_;rintro m _ ⟨dn,b,g,a,d,rfl,h,rfl⟩;cases b with
  | cons p b=>
   have u:=A9 d;rw[BT] at h;have j:Ed.sz p<=2^40:=by omega
   have cs:Ak π O 97 [.sl [.s p.style,.s p.two,.s p.start,.s p.mid,.s p.fin]] [] (.i .i64 (Ed.sz p)) []:=H4 O [p.style,p.two,p.start,p.mid,p.fin] j;have w:IntKind.i64.wrap ((a:Int)+((Ed.sz p:Nat):Int))=(a:Int)+((Ed.sz p:Nat):Int):=by rw[wrap64 (by omega) (by omega)]
   have f:(L.lists.map Ed.enc)[dn.length]?=some (Ed.enc p):=by rw[d];simp
   have c:decide ((dn.length:Int)<(L.lists.length:Int))=true:=by rw[d];simp;omega
   have k:IntKind.i64.wrap ((dn.length:Int)+1)=((dn++[p]).length:Int):=Ae p (by omega);simp only[push_cast,seval,f,c,e];repeat' (first|(first|((first|apply Ai|apply Am|apply Al)<;>intro _h)|refine Ab cs ?_)<;>simp only[push_cast,seval,k,w]|intro _)
   exact⟨_,_,Ab4 _,Ag.refl,dn++[p],b,_,a+Ed.sz p,by rw[d];simp,rfl,by omega,rfl⟩
  | nil=>
   have t:a=l:=by rw[BT] at h;omega
   rw[t];have c:decide ((dn.length:Int)<(L.lists.length:Int))=false:=by rw[d];simp
   simp only[push_cast,seval,c,e];intros;clear h d c;refine Aj L.units.length (Inv:=λm st=>∃dn b g,∃a:Nat,L.units=dn++b/\m=b.length/\a+BT Fv.sz b=l+BT Fv.sz L.units/\st=⟨[(1,.ref (n0,1) 0),(3,.i .i64 a),(4,.i .i64 0),(5,.ref x 0),(7,.i .i64 dn.length)],τ,g⟩) ⟨_,Ag.refl,[],L.units,_,l,rfl,rfl,rfl,rfl⟩ ?_;rintro m _ ⟨dn,b,g,a,d,rfl,h,rfl⟩;cases b with
   | cons p b=>
    have u:=A9 d;rw[BT] at h;have j:Fv.sz p<=2^40:=by omega
    have cs:Ak π O 97 [.sl [.s p.unit,.s p.cls,.s p.pat]] [] (.i .i64 (Fv.sz p)) []:=H4 O [p.unit,p.cls,p.pat] j;have w:IntKind.i64.wrap ((a:Int)+((Fv.sz p:Nat):Int))=(a:Int)+((Fv.sz p:Nat):Int):=by rw[wrap64 (by omega) (by omega)]
    have f:(L.units.map Fv.enc)[dn.length]?=some (Fv.enc p):=by rw[d];simp
    have c:decide ((dn.length:Int)<(L.units.length:Int))=true:=by rw[d];simp;omega
    have k:IntKind.i64.wrap ((dn.length:Int)+1)=((dn++[p]).length:Int):=Ae p (by omega);simp only[push_cast,seval,f,c,e];repeat' (first|(first|((first|apply Ai|apply Am|apply Al)<;>intro _h)|refine Ab cs ?_)<;>simp only[push_cast,seval,k,w]|intro _)
    exact⟨_,_,Ab4 _,Ag.refl,dn++[p],b,_,a+Fv.sz p,by rw[d];simp,rfl,by omega,rfl⟩
   | nil=>
    have t:a=r:=by rw[BT] at h;omega
    rw[t];have c:decide ((dn.length:Int)<(L.units.length:Int))=false:=by rw[d];simp
    simp only[push_cast,seval,c,e];intros;clear h d c;refine Aj L.dates.length (Inv:=λm st=>∃dn b g,∃a:Nat,L.dates=dn++b/\m=b.length/\a+BT E4.sz b=r+BT E4.sz L.dates/\st=⟨[(1,.ref (n0,1) 0),(3,.i .i64 a),(4,.i .i64 0),(5,.ref x 0),(8,.i .i64 dn.length)],τ,g⟩) ⟨_,Ag.refl,[],L.dates,_,r,rfl,rfl,rfl,rfl⟩ ?_;rintro m _ ⟨dn,b,g,a,d,rfl,h,rfl⟩;cases b with
    | cons p b=>
     have u:=A9 d;rw[BT] at h;have j:E4.sz p<=2^40:=by omega
     have cs:Ak π O 97 [.sl [.s p.skel,.s p.pat]] [] (.i .i64 (E4.sz p)) []:=H4 O [p.skel,p.pat] j;have w:IntKind.i64.wrap ((a:Int)+((E4.sz p:Nat):Int))=(a:Int)+((E4.sz p:Nat):Int):=by rw[wrap64 (by omega) (by omega)]
     have f:(L.dates.map E4.enc)[dn.length]?=some (E4.enc p):=by rw[d];simp
     have c:decide ((dn.length:Int)<(L.dates.length:Int))=true:=by rw[d];simp;omega
     have k:IntKind.i64.wrap ((dn.length:Int)+1)=((dn++[p]).length:Int):=Ae p (by omega);simp only[push_cast,seval,f,c,e];repeat' (first|(first|((first|apply Ai|apply Am|apply Al)<;>intro _h)|refine Ab cs ?_)<;>simp only[push_cast,seval,k,w]|intro _)
     exact⟨_,_,Ab4 _,Ag.refl,dn++[p],b,_,a+E4.sz p,by rw[d];simp,rfl,by omega,rfl⟩
    | nil=>
     have t:a=S:=by rw[BT] at h;omega
     rw[t];have c:decide ((dn.length:Int)<(L.dates.length:Int))=false:=by rw[d];simp
     simp only[push_cast,seval,c,e];intros;clear h d c;exact⟨_,_,by omega,(by rw[<-v];exact Ag.drop1 (by simp[lk,Ao0 C]) (Ab6 _)),_,S,.inr ⟨rfl,rfl⟩,rfl⟩
 .skip;simp only[push_cast,seval];intros;refine Aj 0 (Inv:=λm st=>∃g,st=⟨[(1,.ref (n0,1) 0),(3,.i .i64 a),(9,.i .i64 0)],[((n0,1),.box (.agg [.sl [L.enc],.nil,.nil]))],g⟩) ⟨_,Ag.refl,_,rfl⟩ ?_;rintro m _ ⟨g,rfl⟩;simp only[push_cast,seval];intros;refine Aj 0 (Inv:=λm st=>∃g,st=⟨[(1,.ref (n0,1) 0),(3,.i .i64 a),(10,.i .i64 0)],[((n0,1),.box (.agg [.sl [L.enc],.nil,.nil]))],g⟩) ⟨_,Ag.refl,_,rfl⟩ ?_;rintro m _ ⟨g,rfl⟩;simp only[push_cast,seval];intros;exact Af (by simp[get])
def QR(L:Du):Bool:=!(decide ((L.card.length:Int)>12)||decide ((L.ord.length:Int)>12)||decide ((L.lists.length:Int)>12)||decide ((L.units.length:Int)>110)||decide ((L.dates.length:Int)>40)||decide ((L.months.length:Int)>20)||decide ((L.days.length:Int)>20))
def J8(L:Du):Bool:=QR L&&((L.card++L.ord).all (λr=>Ic r.cond)&&decide ((Pa L:Int)<=40000))
theorem Ac6(L:Du)(hb:Pa L<=2^40)(hw:Ax L.card+Ax L.ord<=2^24):Ak π O 29 [.agg [.sl [L.enc],.nil,.nil]] [] (.b (J8 L)) []:=by
 have Z:=Ae0 O L hb;have g1:=G7 L.card;have g2:=G7 L.ord;generalize hS:J8 L=S;unfold J8 at hS;refine Ac (vs:=[.b S]) Ar8 (by simp) (by simp) λn0 Y=>?_;clear Y;simp only[push_cast,seval];intros;refine Aj 1 (Inv:=λm st=>∃n,(m=1/\(QR L&&((L.card++L.ord).all (λr=>Ic r.cond)&&decide ((Pa L:Int)<=40000)))=S\/m=0/\decide ((Pa L:Int)<=40000)=S)/\st=⟨[(1,.ref (n0,1) 0),(3,.i .i64 ((1-m:Nat):Int))],[((n0,1),.box (.agg [.sl [L.enc],.nil,.nil]))],n⟩) ⟨_,Ag.refl,_,.inl ⟨rfl,hS⟩,rfl⟩ ?_;clear hS;rintro m _ ⟨n,⟨rfl,c⟩|⟨rfl,c⟩,rfl⟩
 .generalize H:QR L=F at c;unfold QR at H;simp only[push_cast,seval]
  repeat' (first|(((first|apply Ai|apply Am|apply Al)<;>intro _h)<;>simp only[push_cast,seval,_h,Afb])|intro _)
  all_goals (first|(simp only[*,bq] at H;subst H;simp only[bq] at c;subst c;exact Af (by simp[get]))|skip)
  have D:F=true:=by grind
  rw[D,AxA] at c;rename_i k1 k2 _ _ _ _ _ _ k3 k4;clear H D;have ⟨x,hx⟩:∃x:Id,x=(n+1+k1,4):=⟨_,rfl⟩
  have ad:x≠(n0,1):=by rw[hx];simp
  have ab:x.1<n+1+k1+1+k2+1+k3+1+k4:=by rw[hx];simp only;omega
  rw[<-hx];generalize n+1+k1+1+k2+1+k3+1+k4=n1 at ab⊢;have g:lk [((n0,1),AP.box (.agg [.sl [L.enc],.nil,.nil]))] x=none:=by simp[lk,Ao0 ad]
  rw[L.enc_eq] at g;generalize f:((x,AP.box (.agg [.s L.tag,.s L.parent,.s L.dir,.sl (L.card.map A8.enc),.sl (L.ord.map A8.enc),.s L.dec,.s L.grp,.s L.minus,.s L.perc,.i .i64 L.prim,.i .i64 L.sec,.sl (L.lists.map Ed.enc),.sl (L.units.map Fv.enc),.sl (L.dates.map E4.enc),.sl (L.months.map V.s),.sl (L.days.map V.s)]))::_:Aq)=τ;have v:lk τ x=some (.box (.agg [.s L.tag,.s L.parent,.s L.dir,.sl (L.card.map A8.enc),.sl (L.ord.map A8.enc),.s L.dec,.s L.grp,.s L.minus,.s L.perc,.i .i64 L.prim,.i .i64 L.sec,.sl (L.lists.map Ed.enc),.sl (L.units.map Fv.enc),.sl (L.dates.map E4.enc),.sl (L.months.map V.s),.sl (L.days.map V.s)])):=by rw[<-f];simp[lk]
  have e:IntKind.i64.wrap ((L.card.length:Int)+(L.ord.length:Int))=((L.card++L.ord).length:Int):=by rw[wrap64 (by omega) (by omega)];simp
  have w:∀{env:BB} {n:Nat},Ag O 105 ⟨env,τ,n⟩ ⟨env,[((n0,1),AP.box (.agg [.sl [L.enc],.nil,.nil]))],n⟩:=by intro env n;rw[<-f];exact Ag.drop1 g (Ab6 _)
  have t:∀id:Id,id≠x->id≠(n0,1)->del τ id=τ:=by intro id J K;rw[<-f];simp[del,Ao0 J,Ao0 K]
  have u:∀id:Id,id≠x->id≠(n0,1)->lk τ id=none:=by intro id J K;rw[<-f];simp[lk,Ao0 J,Ao0 K]
  clear f g;have ⟨C,hC⟩:∃C,C=L.card++L.ord:=⟨_,rfl⟩
  rw[<-hC] at e c;have ah:C.length<=2^26:=by grind
  have M:∀r∈C,E0 r.cond<=2^24:=by
   intro r hr;rw[hC] at hr;rcases AfJ.1 hr with h|h
   .have:=GO h;unfold A8.wt at this;omega
   .have:=GO h;unfold A8.wt at this;omega
  refine Aj C.length (Inv:=λm st=>∃dn a q,C=dn++a/\m=a.length/\(a.all (λr=>Ic r.cond)&&decide ((Pa L:Int)<=40000))=S/\n1<=q/\st=⟨[(1,.ref (n0,1) 0),(3,.i .i64 0),(4,.ref x 0),(5,.i .i64 dn.length)],τ,q⟩) ⟨_,Ag.refl,[],C,_,rfl,rfl,c,Ab6 _,rfl⟩ ?_;clear c;rintro m _ ⟨dn,a,q,B,rfl,c,hn,rfl⟩;cases a with
  | nil=>
   have A:decide ((dn.length:Int)<(C.length:Int))=false:=by rw[B];simp
   rw[List.all_nil,AxA] at c;simp only[push_cast,seval,A,v,e];intros;exact⟨_,_,by omega,w,_,.inr ⟨rfl,c⟩,rfl⟩
  | cons p a=>
   have aj:=A9 B;have A:decide ((dn.length:Int)<(C.length:Int))=true:=by rw[B];simp;omega
   have aa:IntKind.i64.wrap ((dn.length:Int)+1)=((dn++[p]).length:Int):=Ae p (by omega);have hf:=Akc O p.cond (M p (by rw[B];simp));have G:(L.card.map A8.enc++L.ord.map A8.enc)[dn.length]?=some p.enc:=by rw[<-A0D,<-hC,B];simp
   have d:∀k j,((q+1+k,j)=x)=False:=λk j=>Ab8 λo=>by grind
   have ac:∀k j,(x=(q+1+k,j))=False:=λk j=>Ab8 λo=>AiZ (d k j) o.symm;rw[A1D] at c;have U:∀l:List A8,(∀y∈l.map A8.enc,(cells y).length=2)=True:=λl=>Arp λy hy=>by obtain⟨r,_,rfl⟩:=Aov.1 hy;rfl
   have W:∀k,del τ (q+1+k,70)=τ:=λk=>t _ (λo=>AiZ (d k 70) o) (by simp);have X:∀k,del τ (q+1+k,73)=τ:=λk=>t _ (λo=>AiZ (d k 73) o) (by simp);have N:(L.card.length<=AJ)=True:=Arp (by unfold AJ;omega);have T:(L.card.length+L.ord.length<=AJ)=True:=Arp (by unfold AJ;omega);have E:(dn.length<(L.card.map A8.enc++L.ord.map A8.enc).length)=True:=Arp (by grind);simp only[push_cast,seval,A,v,e,G,E,d,ac,U,W,X,N,T];repeat' (first|(first|((first|apply Ai|apply Am|apply Al)<;>intro _h)|refine Ab hf ?_)<;>simp only[push_cast,seval,aa]|intro _)
   .have z:Ic p.cond=false:=by simpa using _h
    rw[z,AyN,AyN] at c;subst c;exact Af (by simp[get])
   .have z:Ic p.cond=true:=by simpa using _h
    rw[z,AxA] at c;have e6:∀k,lk τ (q+1+k,6)=none:=λk=>u _ (λo=>AiZ (d k 6) o) (by simp);have I:∀k,lk τ (q+1+k,76)=none:=λk=>u _ (λo=>AiZ (d k 76) o) (by simp);exact⟨_,_,Ab4 _,(Ag.drop1 (by simp[lk,e6]) (Ab6 _)).trans (Ag.drop1 (I _) (Ab6 _)),dn++[p],a,_,by rw[B];simp,rfl,c,by omega,rfl⟩
 .skip;simp only[push_cast,seval];repeat' (first|(first|((first|apply Ai|apply Am|apply Al)<;>intro _h)|refine Ab Z ?_)<;>simp only[push_cast,seval]|intro _)
  exact Af (by simp[get,c])
theorem AdW(L:Du)(ps:List Ad)(vs:List Ch)(h:Pa L<=2^40)(i:Ax L.card+Ax L.ord<=2^24)(j:A7 ps<=2^24)(k:vs.length<=2^40)(l:∀v∈vs,v.list.length<=2^40) :
  Ak π O 13 [L.enc,.sl (ps.map Ad.enc),.sl (vs.map Ch.enc)] [] (.b (J8 L&&KA ps&&Dr (decide ((vs.length:Int)<=30)) vs)) []:=by
 have f:=Ac6 O L h i;have g:=Apt O ps j;have c3:=eD O vs k l;rw[Du.enc_eq] at f;generalize J8 L=c at *;generalize KA ps=d at *;generalize Dr (decide ((vs.length:Int)<=30)) vs=e at *;refine Ac (vs:=[.b (c&&d&&e)]) AqT (by simp) (by simp) λn0 a=>?_;clear a;simp only[push_cast,seval];cases c<;>cases d<;>cases e
 all_goals (repeat' (first|(first|refine Ab (by exact f) ?_|refine Ab (by exact g) ?_|refine Ab (by exact c3) ?_)|intro _)<;>(try simp only[push_cast,seval]))
 all_goals exact Af (by simp[get])
def Qi(L:Du)(ps:List Ad)(vs:List Ch)(a:Bool):V:=.agg [.s L.tag,.s L.parent,.s L.dir,.sl (L.card.map A8.enc),.sl (L.ord.map A8.enc),.s L.dec,.s L.grp,.s L.minus,.s L.perc,.i .i64 L.prim,.i .i64 L.sec,.sl (L.lists.map Ed.enc),.sl (L.units.map Fv.enc),.sl (L.dates.map E4.enc),.sl (L.months.map V.s),.sl (L.days.map V.s),.sl (ps.map Ad.enc),.sl (vs.map Ch.enc),.b a]
theorem II L ps vs a:Qi L ps vs a=.agg [.s L.tag,.s L.parent,.s L.dir,.sl (L.card.map A8.enc),.sl (L.ord.map A8.enc),.s L.dec,.s L.grp,.s L.minus,.s L.perc,.i .i64 L.prim,.i .i64 L.sec,.sl (L.lists.map Ed.enc),.sl (L.units.map Fv.enc),.sl (L.dates.map E4.enc),.sl (L.months.map V.s),.sl (L.days.map V.s),.sl (ps.map Ad.enc),.sl (vs.map Ch.enc),.b a]:=rfl
theorem dY L ps vs c (e:Pa L<=2^40)(f:Ax L.card+Ax L.ord<=2^24)(g:A7 ps<=2^24)(h:vs.length<=2^40)(i:∀v∈vs,v.list.length<=2^40) :
  Ak π O 5 [Qi L ps vs c] [] (.b (J8 L&&KA ps&&Dr (decide ((vs.length:Int)<=30)) vs)) []:=by
 have d:=AdW O L ps vs e f g h i;rw[Du.enc_eq] at d;generalize(J8 L&&KA ps&&Dr (decide ((vs.length:Int)<=30)) vs)=S at *;rw[II];refine Ac (vs:=[.b S]) Axo (by simp) (by simp) λn0 a=>?_;clear a;simp only[push_cast,seval];repeat' (first|(first|(apply AL<;>intro _h)|refine Ab d ?_)<;>simp only[push_cast]|intro _)
 exact Kn
end Go.Ir
namespace Go.Proofs
open Go.Shelf
def Tryz.laysM171_ren:Go.Shelf.Ren:=⟨fun|171=>213|243=>253|246=>274|283=>287|284=>288|285=>289|286=>290|129=>144|317=>294|318=>295|319=>296|320=>297|337=>300|338=>301|n=>n,fun|3=>3|9=>9|2=>2|4=>4|171=>352|0=>0|53=>246|37=>132|5=>5|173=>354|212=>362|51=>244|20=>20|213=>363|46=>205|232=>368|233=>369|n=>n,fun|17=>5|18=>6|19=>7|n=>n⟩
theorem Tryz.laysM171:Go.Proofs.LaysM.n171 Tryz.prog Tryz.laysM171_ren:={
 mixed:=by kernel_rfl
 f129:=Tryz.func144.trans (congrArg some (by kernel_rfl))
 f171:=Tryz.func213.trans (congrArg some (by kernel_rfl))
 f243:=Tryz.func253.trans (congrArg some (by kernel_rfl))
 f246:=Tryz.func274.trans (congrArg some (by kernel_rfl))
 f283:=Tryz.func287.trans (congrArg some (by kernel_rfl))
 f284:=Tryz.func288.trans (congrArg some (by kernel_rfl))
 f285:=Tryz.func289.trans (congrArg some (by kernel_rfl))
 f286:=Tryz.func290.trans (congrArg some (by kernel_rfl))
 f317:=Tryz.func294.trans (congrArg some (by kernel_rfl))
 f318:=Tryz.func295.trans (congrArg some (by kernel_rfl))
 f319:=Tryz.func296.trans (congrArg some (by kernel_rfl))
 f320:=Tryz.func297.trans (congrArg some (by kernel_rfl))
 f337:=Tryz.func300.trans (congrArg some (by kernel_rfl))
 f338:=Tryz.func301.trans (congrArg some (by kernel_rfl))
 t0:=Tryz.underlying0
 a0:=Tryz.isAgg0
 z0:=Tryz.sizeOf0
 v0:=Tryz.zeroValue0
 t2:=Tryz.underlying2
 a2:=Tryz.isAgg2
 z2:=Tryz.sizeOf2
 v2:=Tryz.zeroValue2
 t3:=Tryz.underlying3
 a3:=Tryz.isAgg3
 z3:=Tryz.sizeOf3
 v3:=Tryz.zeroValue3
 t4:=Tryz.underlying4
 a4:=Tryz.isAgg4
 z4:=Tryz.sizeOf4
 v4:=Tryz.zeroValue4
 t5:=Tryz.underlying5
 a5:=Tryz.isAgg5
 z5:=Tryz.sizeOf5
 v5:=Tryz.zeroValue5
 t9:=Tryz.underlying9
 a9:=Tryz.isAgg9
 z9:=Tryz.sizeOf9
 v9:=Tryz.zeroValue9
 t20:=Tryz.underlying20
 a20:=Tryz.isAgg20
 z20:=Tryz.sizeOf20
 v20:=Tryz.zeroValue20
 t37:=Tryz.underlying132
 a37:=Tryz.isAgg132
 z37:=Tryz.sizeOf132
 v37:=Tryz.zeroValue132
 t46:=Tryz.underlying205
 a46:=Tryz.isAgg205
 z46:=Tryz.sizeOf205
 v46:=Tryz.zeroValue205
 t51:=Tryz.underlying244
 a51:=Tryz.isAgg244
 z51:=Tryz.sizeOf244
 v51:=Tryz.zeroValue244
 t53:=Tryz.underlying246
 a53:=Tryz.isAgg246
 z53:=Tryz.sizeOf246
 v53:=Tryz.zeroValue246
 t171:=Tryz.underlying352
 a171:=Tryz.isAgg352
 z171:=Tryz.sizeOf352
 v171:=Tryz.zeroValue352
 t173:=Tryz.underlying354
 a173:=Tryz.isAgg354
 z173:=Tryz.sizeOf354
 v173:=Tryz.zeroValue354
 t212:=Tryz.underlying362
 a212:=Tryz.isAgg362
 z212:=Tryz.sizeOf362
 v212:=Tryz.zeroValue362
 t213:=Tryz.underlying363
 a213:=Tryz.isAgg363
 z213:=Tryz.sizeOf363
 t232:=Tryz.underlying368
 a232:=Tryz.isAgg368
 z232:=Tryz.sizeOf368
 v232:=Tryz.zeroValue368
 t233:=Tryz.underlying369
 a233:=Tryz.isAgg369
 z233:=Tryz.sizeOf369
 v233:=Tryz.zeroValue369
 g17:=by kernel_rfl
 g18:=by kernel_rfl
 g19:=by kernel_rfl
 i0:=by kernel_rfl
 i2:=by kernel_rfl
 i3:=by kernel_rfl
 i4:=by kernel_rfl
 i5:=by kernel_rfl
 i9:=by kernel_rfl
 i20:=by kernel_rfl
 i37:=by kernel_rfl
 i46:=by kernel_rfl
 i51:=by kernel_rfl
 i53:=by kernel_rfl
 i171:=by kernel_rfl
 i173:=by kernel_rfl
 i212:=by kernel_rfl
 i232:=by kernel_rfl
 i233:=by kernel_rfl
 m17:=by kernel_rfl
 m18:=by kernel_rfl
 m19:=by kernel_rfl }
end Go.Proofs
namespace Go.Ir
open Go.Proofs Go.RowKit
variable(O:World)
def Cu(O:World):Prop := Lib.TabIs Tryz.prog O "internal/strconv.uint64pow10" .u64 Lib.pow10Tab
theorem gX{P O w a k zs}(d:Below O.heap.size O w)(h:Lib.TabIs P O a k zs):Lib.TabIs P w a k zs:=by
 unfold Lib.TabIs World.var? at *;cases b:P.globalNamed a with
 | none=>rw[b] at h;cases h
 | some g=>
  rw[b] at h;simp only[A1c] at h⊢;cases c:O.heap[g]? with
  | none=>rw[c] at h;cases h
  | some o=>rw[d.block g (AuO.1 c).1];exact h
theorem GC(f:Cu O)(i:Nat)(p:i<2^62):Ak π O 213 [.i .i64 i] [] (.s (Lib.decDigits i)) []/\(Lib.decDigits i).length<=20:=by
 have c:(Lib.decDigits i).length<=20:=by rw[Lib.decDigits_length];exact Lib.nDigits_le20 _ (by omega)
 refine⟨Ba (by kernel_rfl) λw a g ⟨μ,H,d⟩=>?_,c⟩;have b:=d.len;obtain⟨x,rfl⟩:∃x,a=[x]:=by
  match a,b with
  | [x],_=>exact⟨x,rfl⟩
 have o:=d.at_ 0 _ _ rfl rfl;cases o;refine(Any.strconv_Itoa Tryz.laysM171 i (by omega) (by omega) w (gX g f)).mono λe w' ⟨h,k,q,m⟩=>?_;subst m;refine⟨_,h,λ_ _=>?_,?_⟩
 .rw[Lib.itoa_nonneg];exact .s _ (by unfold AG;omega)
 .refine⟨rfl,rfl,rfl,by simp ,λj l=>?_⟩;simp only[Sort.grow];rw[A1C (by simpa using l)];rfl
theorem eX laid (hl:(laid.all fun x => x.2.handleName?.isNone)=true){a b r}(he:laid=a :: b :: ("internal/strconv.uint64pow10", Lib.tabData .u64 Lib.pow10Tab) :: r)
  {g t e n}(hg:(π).globalNamed "internal/strconv.uint64pow10" = some g)(hty:((π).globals[g]?).map (·.type)=some t)(ht:(π).underlying t=some (.array n e))(hu:(π).underlying e=some (.int .u64))(hce:(π).cellsOf e=1)(hct:(π).cellsOf t=n)
  {W}(h:laidMetH π laid W):Cu W:=by
 rw[MakeChecks.laidMetH_plain _ _ _ hl] at h
 subst he
 have tl:∀{x:String×DataW Unit} {r:List (String×DataW Unit)},laidMet π (x::r) W->laidMet π r W:=by
  rintro⟨n,d⟩ r ⟨ps,hv,hnd,hrows⟩
  obtain⟨g,t,cs,fuel,p,q,_,_,_,_,hq,rfl⟩:=hv
  exact⟨q,hq,List.Nodup.sublist (A1l _ _) hnd,fun b off hm=>hrows b off (Axf _ hm)⟩
 exact Lib.tabIs_of_head hg hty ht hu hce hct (tl (tl h))
end Go.Ir

namespace Go.Ir
open Go.Proofs
variable(O:World)
def Dw(ps:List Ad):Bool:=Be ps 1 false false&&decide (((DL ps []).length:Int)<=20)&&decide (((F3 ps).length:Int)<=4000)
end Go.Ir
namespace Go.Proofs
open Go.Shelf
def Tryz.lays137_ren:Go.Shelf.Ren:=⟨fun|137=>216|217=>220|266=>255|n=>n,fun|9=>9|5=>5|3=>3|n=>n,fun|n=>n⟩
theorem Tryz.lays137:Go.Proofs.Lays.n137 Tryz.prog Tryz.lays137_ren:=by constructor;all_goals intros;kernel_rfl
def Tryz.lays156_ren:Go.Shelf.Ren:=⟨fun|156=>239|165=>235|166=>152|169=>60|240=>167|241=>265|276=>215|277=>283|n=>n,fun|31=>28|9=>9|3=>3|4=>4|0=>0|20=>20|72=>134|76=>253|70=>131|37=>132|75=>220|127=>176|164=>298|5=>5|80=>138|n=>n,fun|n=>n⟩
theorem Tryz.lays156:Go.Proofs.Lays.n156 Tryz.prog Tryz.lays156_ren:=by constructor;all_goals intros;kernel_rfl
end Go.Proofs
namespace Go.Ir
open Go.Proofs Go.RowKit
variable(O:World)
theorem S3{P:Program}{O:World}{f:FuncId}{args:List V}{v:V}(d:callable P f=true)
  (h:∀w a μ H,Below O.heap.size O w->VRels μ H args a->(∀b x,H b=some x->w.cell? b=some x)->Calls P f a.toArray w λe w'=>∃val,e=.returned val/\(∀μ H,Ap μ H v val)/\Below w.heap.size w w'):Ak P O f args [] v [] where
 callable:=d
 dom id h:=h
 run n w μ H a hp hv:=by refine(h w a μ H hp.base hv hp.pins).mono λe w' ⟨val,g,i,c⟩=>?_;have ⟨h1,h2⟩:=hp.below c;exact⟨val,μ,H,n,g,i μ H,h1,Ab6 _,h2,λ_ _ h=>h⟩
theorem HC(b:List Aa):AQ (b.map V.s)=b.map V.s:=by
 induction b with
 | nil=>rfl
 | cons a r c=>simp only[AQ,Ao7,A1h] at *;rw[c];rfl
theorem Uw(s:Aa) c:Ak π O 216 [.s s,.i .u8 c] [] (.i .i64 (Lib.indexByte s c.toNat.toUInt8)) []:=by refine Ba (by kernel_rfl) λw a j ⟨μ,H,d⟩=>?_;obtain⟨x,y,rfl,g,h⟩:=d.two;obtain⟨rfl,k⟩:=Bx g;cases h;refine(Any.strings_IndexByte Tryz.lays137 ⟨s.toArray⟩ c w).mono λe w' ⟨b,f⟩=>?_;subst f;exact⟨_,b,λ_ _=>.i _ _,AyF _ _⟩
theorem Kl:Go.Proofs.Builder.Extra π Tryz.lays156_ren where
 sizeBuilder:=by kernel_rfl
 liesBuilder:=by kernel_rfl
 t5:=Tryz.underlying5
 a5:=Tryz.isAgg5
 z5:=Tryz.sizeOf5
 v5:=Tryz.zeroValue5
 infoByte:=by kernel_rfl
 cellsByte:=by kernel_rfl
 sizeByte:=by kernel_rfl
 neB5:=by decide
theorem s7(r:List Aa)(sep:Aa)(N:(Lib.join r sep).length<=1073741824):Ak Tryz.prog O 239 [.sl (r.map V.s),.s sep] [] (.s (Lib.join r sep)) []:=by
 refine S3 (by kernel_rfl) λw S μ H Z X E=>?_;obtain⟨x,y,rfl,G,Y⟩:=X.two;obtain⟨rfl,hl⟩:=Bx Y;obtain⟨A,a,rfl,u,g,U⟩:=G.sl_inv;have q:∀(μ:Id->Option Value) (H:Addr->Option Value),Ap μ H (.s (Lib.join r sep)) (.string ⟨(Lib.join r sep).toArray⟩):=λ_ _=>.s _ (by unfold AG;omega);rcases U with T|⟨I,sz,vs,rfl,W,i,hp⟩
 .have J:r=[]:=by simpa using T
  subst J;refine(Any.strings_Join_none Tryz.lays156 Kl A a ⟨sep.toArray⟩ w).mono λe w' ⟨z,F⟩=>?_;subst F;exact⟨_,z,q,AyF _ _⟩
 .rw[HC] at i;cases r with
  | nil=>refine(Any.strings_Join_none Tryz.lays156 Kl _ a ⟨sep.toArray⟩ w).mono λe w' ⟨z,F⟩=>?_;subst F;exact⟨_,z,q,AyF _ _⟩
  | cons d m=>
   have f:∀(j:Nat) (l:Aa),(d::m)[j]?=some l->w.cell? (I.add j)=some (.string ⟨l.toArray⟩):=by intro j l N;have ⟨v,h1,h2⟩:=i.toVRels.get (k:=j) (c:=.s l) (by rw[ArI,N];rfl);rw[(Bx h2).1] at h1;exact E _ _ (hp j _ h1)
   have p:=f 0 d rfl;have t:I.spot=none:=by
    simp only[Addr.add,AbA] at p;unfold World.cell? at p;split at p
    .split at p
     .cases p
     .rename_i h;simpa using h
    .cases p
   have ⟨bk,o,sp⟩:=I;simp only at t;subst t;have K:bk<w.heap.size:=A1P w _ p;have C:(d::m).length<=a:=by simpa using u
   have D:((d::m).map λl=>(⟨l.toArray⟩:ByteArray)).map (λb=>b.data.toList)=d::m:=by rw[A2i];exact(A0v (λ_ _=>rfl)).trans (List.map_id _)
   have M:Lib.join (((d::m).map λl=>(⟨l.toArray⟩:ByteArray)).map λb=>b.data.toList) sep=Lib.join (d::m) sep:=by rw[D]
   have key:=Any.strings_Join Tryz.lays156 Kl bk o a ((d::m).map λl=>(⟨l.toArray⟩:ByteArray)) ⟨sep.toArray⟩ w (λj x G=>?_) K
    (by unfold AJ at g;simp only[Afb] at g⊢;omega) (by simpa using C) (by show(Lib.join (((d::m).map λl=>(⟨l.toArray⟩:ByteArray)).map λb=>b.data.toList) sep).length<=_;rw[M];omega)
   .rw[show(⟨sep.toArray⟩:ByteArray).data.toList=sep from rfl,M] at key;simp only[Afb] at key⊢;exact key.mono λe w' ⟨z,F⟩=>⟨_,z,q,F⟩
   .rw[ArI] at G;obtain⟨l,L,rfl⟩:=Afo.1 G;have:=f j l L;by_cases B:j=0
    .subst B;exact this
    .simpa[Addr.add,B] using this
def Kw:List V->Option V
 | [.s s,.s p]=>some (.tup [.s (Lib.trimPrefix s p),.b (Lib.hasPrefix s p)])
 | _=>none
def Sd:List V->Option V
 | [.s s,.s [c]]=>some (.i .i64 (Lib.indexByte s c))
 | _=>none
def JR:List V->Option V
 | [.s s,.i .u8 c]=>some (.i .i64 (Lib.indexByte s c.toNat.toUInt8))
 | _=>none
def QV(l:Aa):Bool:=Nat.blt l.length 100&&l.all λb=>Nat.blt b.toNat 128
def o9:List V->Option V
 | [.s s,.s cs]=>bif QV cs then some (.s (Lib.trimS s cs)) else none
 | _=>none
theorem gA{l}(h:QV l=true):l.length<4294967281/\∀b∈l,b.toNat<128:=by unfold QV at h;simp only[AaS,A2t,Ao8] at h;exact⟨by omega,h.2⟩
theorem U6:Bo π O (onC 84 Kw):=Rp λargs v h=>by
 unfold Kw at h;split at h
 .cases h;exact⟨Eb O _ _,rfl⟩
 .cases h
theorem uB:Bo π O (onC 183 Sd):=Rp λargs v h=>by
 unfold Sd at h;split at h
 .cases h;exact⟨NE O _ _,rfl⟩
 .cases h
theorem Tm:Bo π O (onC 216 JR):=Rp λargs v h=>by
 unfold JR at h;split at h
 .cases h;exact⟨Uw O _ _,rfl⟩
 .cases h
theorem AnS:Bo π O (onC 147 o9):=Rp λargs v h=>by
 unfold o9 at h;split at h
 .rename_i s cs;cases a:QV cs with
  | true=>rw[a] at h;cases h;have ⟨h1,h2⟩:=gA a;exact⟨VA O _ _ h1 h2,rfl⟩
  | false=>rw[a] at h;cases h
 .cases h
end Go.Ir
namespace Go.Proofs
open Go.Shelf
def Tryz.lays138_ren:Go.Shelf.Ren:=⟨fun|138=>241|195=>266|218=>267|143=>243|219=>183|217=>220|225=>221|224=>222|267=>223|266=>255|314=>256|n=>n,fun|9=>9|3=>3|4=>4|5=>5|0=>0|46=>205|146=>325|51=>244|n=>n,fun|1=>0|n=>n⟩
theorem Tryz.lays138:Go.Proofs.Lays.n138 Tryz.prog Tryz.lays138_ren:=by constructor;all_goals intros;kernel_rfl
def Tryz.lays145_ren:Go.Shelf.Ren:=⟨fun|145=>107|220=>146|219=>183|217=>220|225=>221|224=>222|267=>223|266=>255|314=>256|n=>n,fun|9=>9|4=>4|59=>208|3=>3|5=>5|46=>205|146=>325|51=>244|n=>n,fun|1=>0|n=>n⟩
theorem Tryz.lays145:Go.Proofs.Lays.n145 Tryz.prog Tryz.lays145_ren:=by constructor;all_goals intros;kernel_rfl
def Tryz.lays154_ren:Go.Shelf.Ren:=⟨fun|154=>205|138=>241|165=>235|143=>243|166=>152|197=>225|169=>60|195=>266|218=>267|240=>167|241=>265|219=>183|260=>257|276=>215|277=>283|217=>220|225=>221|224=>222|267=>223|266=>255|314=>256|n=>n,fun|9=>9|3=>3|4=>4|72=>134|0=>0|76=>253|105=>304|21=>21|5=>5|70=>131|20=>20|37=>132|75=>220|127=>176|164=>298|46=>205|119=>340|139=>343|138=>342|146=>325|51=>244|80=>138|n=>n,fun|1=>0|3=>1|4=>2|n=>n⟩
theorem Tryz.lays154:Go.Proofs.Lays.n154 Tryz.prog Tryz.lays154_ren:=by constructor;all_goals intros;kernel_rfl
def Tryz.lays161_ren:Go.Shelf.Ren:=⟨fun|161=>237|231=>184|227=>186|233=>187|235=>189|228=>224|197=>225|151=>226|260=>257|152=>258|137=>216|119=>276|224=>222|225=>221|217=>220|266=>255|n=>n,fun|9=>9|4=>4|3=>3|5=>5|117=>275|116=>274|0=>0|124=>278|105=>304|21=>21|119=>340|46=>205|139=>343|138=>342|n=>n,fun|3=>1|4=>2|n=>n⟩
theorem Tryz.lays161:Go.Proofs.Lays.n161 Tryz.prog Tryz.lays161_ren:=by constructor;all_goals intros;kernel_rfl
def Tryz.laysT17_ren:Go.Shelf.Ren:=⟨fun|17=>238|n=>n,fun|24=>28|9=>9|3=>3|4=>4|0=>0|n=>n,fun|n=>n⟩
theorem Tryz.laysT17:Go.Proofs.Lays2.n17 Tryz.prog Tryz.laysT17_ren:=by constructor;all_goals intros;kernel_rfl
def Tryz.keysA_ren:Go.Shelf.Ren:=⟨fun|7=>35|10=>72|n=>n,fun|23=>58|26=>9|3=>3|28=>104|0=>0|27=>103|33=>114|4=>4|n=>n,fun|n=>n⟩
theorem Tryz.keysA:Go.Proofs.SlLaysZ.n7 Tryz.prog Tryz.keysA_ren:={
 mixed:=by kernel_rfl
 f7:=⟨Tryz.f35.name,by decide,Tryz.func35.trans (congrArg some (by kernel_rfl))⟩
 f10:=⟨Tryz.f72.name,by decide,Tryz.func72.trans (congrArg some (by kernel_rfl))⟩
 t0:=Tryz.underlying0
 a0:=Tryz.isAgg0
 z0:=Tryz.sizeOf0
 v0:=Tryz.zeroValue0
 t4:=Tryz.underlying4
 a4:=Tryz.isAgg4
 z4:=Tryz.sizeOf4
 v4:=Tryz.zeroValue4
 t23:=Tryz.underlying58
 a23:=Tryz.isAgg58
 z23:=Tryz.sizeOf58
 v23:=Tryz.zeroValue58
 t26:=Tryz.underlying9
 a26:=Tryz.isAgg9
 z26:=Tryz.sizeOf9
 v26:=Tryz.zeroValue9
 t27:=Tryz.underlying103
 a27:=Tryz.isAgg103
 z27:=Tryz.sizeOf103
 v27:=Tryz.zeroValue103
 t28:=Tryz.underlying104
 a28:=Tryz.isAgg104
 z28:=Tryz.sizeOf104
 v28:=Tryz.zeroValue104
 t33:=Tryz.underlying114
 a33:=Tryz.isAgg114
 z33:=Tryz.sizeOf114
 v33:=Tryz.zeroValue114 }
def Tryz.sortedA_ren:Go.Shelf.Ren:=⟨fun|6=>34|8=>70|9=>71|11=>98|13=>100|12=>99|23=>143|24=>144|14=>134|15=>135|16=>136|17=>137|18=>138|19=>139|20=>140|21=>141|22=>142|25=>176|26=>177|27=>178|28=>179|29=>180|30=>181|31=>219|n=>n,fun|26=>9|28=>104|24=>28|0=>0|3=>3|37=>205|48=>244|50=>246|4=>4|40=>238|39=>237|45=>97|5=>5|9=>9|51=>264|55=>268|57=>301|58=>302|33=>114|n=>n,fun|n=>n⟩
theorem Tryz.sortedA:Go.Proofs.SlLaysZ.n6 Tryz.prog Tryz.sortedA_ren:={
 mixed:=by kernel_rfl
 f6:=⟨Tryz.f34.name,by decide,Tryz.func34.trans (congrArg some (by kernel_rfl))⟩
 f8:=⟨Tryz.f70.name,by decide,Tryz.func70.trans (congrArg some (by kernel_rfl))⟩
 f11:=⟨Tryz.f98.name,by decide,Tryz.func98.trans (congrArg some (by kernel_rfl))⟩
 t0:=Tryz.underlying0
 a0:=Tryz.isAgg0
 z0:=Tryz.sizeOf0
 v0:=Tryz.zeroValue0
 t24:=Tryz.underlying28
 a24:=Tryz.isAgg28
 z24:=Tryz.sizeOf28
 v24:=Tryz.zeroValue28
 t26:=Tryz.underlying9
 a26:=Tryz.isAgg9
 z26:=Tryz.sizeOf9
 v26:=Tryz.zeroValue9
 t28:=Tryz.underlying104
 a28:=Tryz.isAgg104
 z28:=Tryz.sizeOf104
 v28:=Tryz.zeroValue104
 i26:=by kernel_rfl }
def Tryz.sortA_ren:Go.Shelf.Ren:=⟨fun|6=>71|8=>100|9=>99|19=>143|20=>144|21=>134|22=>135|23=>136|24=>137|25=>138|26=>139|27=>140|28=>141|29=>142|36=>176|31=>177|32=>178|37=>179|38=>180|39=>181|41=>219|n=>n,fun|27=>28|29=>9|3=>3|32=>205|26=>28|0=>0|44=>244|46=>246|4=>4|36=>238|35=>237|41=>97|5=>5|9=>9|53=>264|57=>268|63=>301|64=>302|n=>n,fun|n=>n⟩
theorem Tryz.sortA:Go.Proofs.SlLaysM.n6 Tryz.prog Tryz.sortA_ren:={
 mixed:=by kernel_rfl
 f6:=⟨Tryz.f71.name,by decide,Tryz.func71.trans (congrArg some (by kernel_rfl))⟩
 f8:=Tryz.func100.trans (congrArg some (by kernel_rfl))
 f9:=⟨Tryz.f99.name,by decide,Tryz.func99.trans (congrArg some (by kernel_rfl))⟩
 f19:=Tryz.func143.trans (congrArg some (by kernel_rfl))
 f20:=Tryz.func144.trans (congrArg some (by kernel_rfl))
 f21:=⟨Tryz.f134.name,by decide,Tryz.func134.trans (congrArg some (by kernel_rfl))⟩
 f22:=⟨Tryz.f135.name,by decide,Tryz.func135.trans (congrArg some (by kernel_rfl))⟩
 f23:=⟨Tryz.f136.name,by decide,Tryz.func136.trans (congrArg some (by kernel_rfl))⟩
 f24:=⟨Tryz.f137.name,by decide,Tryz.func137.trans (congrArg some (by kernel_rfl))⟩
 f25:=⟨Tryz.f138.name,by decide,Tryz.func138.trans (congrArg some (by kernel_rfl))⟩
 f26:=⟨Tryz.f139.name,by decide,Tryz.func139.trans (congrArg some (by kernel_rfl))⟩
 f27:=⟨Tryz.f140.name,by decide,Tryz.func140.trans (congrArg some (by kernel_rfl))⟩
 f28:=⟨Tryz.f141.name,by decide,Tryz.func141.trans (congrArg some (by kernel_rfl))⟩
 f29:=⟨Tryz.f142.name,by decide,Tryz.func142.trans (congrArg some (by kernel_rfl))⟩
 f31:=Tryz.func177.trans (congrArg some (by kernel_rfl))
 f32:=Tryz.func178.trans (congrArg some (by kernel_rfl))
 f36:=⟨Tryz.f176.name,by decide,Tryz.func176.trans (congrArg some (by kernel_rfl))⟩
 f37:=⟨Tryz.f179.name,by decide,Tryz.func179.trans (congrArg some (by kernel_rfl))⟩
 f38:=⟨Tryz.f180.name,by decide,Tryz.func180.trans (congrArg some (by kernel_rfl))⟩
 f39:=⟨Tryz.f181.name,by decide,Tryz.func181.trans (congrArg some (by kernel_rfl))⟩
 f41:=⟨Tryz.f219.name,by decide,Tryz.func219.trans (congrArg some (by kernel_rfl))⟩
 t0:=Tryz.underlying0
 a0:=Tryz.isAgg0
 z0:=Tryz.sizeOf0
 v0:=Tryz.zeroValue0
 t3:=Tryz.underlying3
 a3:=Tryz.isAgg3
 z3:=Tryz.sizeOf3
 v3:=Tryz.zeroValue3
 t4:=Tryz.underlying4
 a4:=Tryz.isAgg4
 z4:=Tryz.sizeOf4
 v4:=Tryz.zeroValue4
 t5:=Tryz.underlying5
 a5:=Tryz.isAgg5
 z5:=Tryz.sizeOf5
 v5:=Tryz.zeroValue5
 t9:=Tryz.underlying9
 a9:=Tryz.isAgg9
 z9:=Tryz.sizeOf9
 v9:=Tryz.zeroValue9
 t26:=Tryz.underlying28
 a26:=Tryz.isAgg28
 z26:=Tryz.sizeOf28
 v26:=Tryz.zeroValue28
 t27:=Tryz.underlying28
 a27:=Tryz.isAgg28
 z27:=Tryz.sizeOf28
 v27:=Tryz.zeroValue28
 t29:=Tryz.underlying9
 a29:=Tryz.isAgg9
 z29:=Tryz.sizeOf9
 v29:=Tryz.zeroValue9
 t32:=Tryz.underlying205
 a32:=Tryz.isAgg205
 z32:=Tryz.sizeOf205
 v32:=Tryz.zeroValue205
 t35:=Tryz.underlying237
 a35:=Tryz.isAgg237
 z35:=Tryz.sizeOf237
 v35:=Tryz.zeroValue237
 t36:=Tryz.underlying238
 a36:=Tryz.isAgg238
 z36:=Tryz.sizeOf238
 v36:=Tryz.zeroValue238
 t41:=Tryz.underlying97
 a41:=Tryz.isAgg97
 z41:=Tryz.sizeOf97
 v41:=Tryz.zeroValue97
 t44:=Tryz.underlying244
 a44:=Tryz.isAgg244
 z44:=Tryz.sizeOf244
 v44:=Tryz.zeroValue244
 t46:=Tryz.underlying246
 a46:=Tryz.isAgg246
 z46:=Tryz.sizeOf246
 v46:=Tryz.zeroValue246
 t53:=Tryz.underlying264
 a53:=Tryz.isAgg264
 z53:=Tryz.sizeOf264
 v53:=Tryz.zeroValue264
 t57:=Tryz.underlying268
 a57:=Tryz.isAgg268
 z57:=Tryz.sizeOf268
 v57:=Tryz.zeroValue268
 t63:=Tryz.underlying301
 a63:=Tryz.isAgg301
 z63:=Tryz.sizeOf301
 v63:=Tryz.zeroValue301
 t64:=Tryz.underlying302
 a64:=Tryz.isAgg302
 z64:=Tryz.sizeOf302
 v64:=Tryz.zeroValue302 }
def Tryz.lays105_ren:Go.Shelf.Ren:=⟨fun|105=>197|212=>234|99=>74|165=>235|166=>152|170=>153|169=>60|263=>263|264=>264|206=>102|240=>167|241=>265|276=>215|277=>283|n=>n,fun|9=>9|3=>3|4=>4|20=>20|0=>0|46=>205|109=>310|5=>5|72=>134|76=>253|51=>244|146=>325|53=>246|148=>331|70=>131|37=>132|75=>220|127=>176|164=>298|80=>138|n=>n,fun|n=>n⟩
theorem Tryz.lays105:Go.Proofs.Lays.n105 Tryz.prog Tryz.lays105_ren:=by constructor;all_goals intros;kernel_rfl
end Go.Proofs
section
namespace Go.Ir
open Go.Proofs Go.RowKit
variable(O:World)
def BS(O:World):Prop:=∃m,O.cell? ⟨Tryz.lays138_ren.g 1,0,none⟩=some (.int .i64 m)
theorem FF{O w}(h:BS O)(b:Below O.heap.size O w):∃m,w.cell? ⟨Tryz.lays138_ren.g 1,0,none⟩=some (.int .i64 m):=by
 have ⟨m,hm⟩:=h;refine⟨m,?_⟩;rw[<-hm];unfold World.cell? at hm⊢;cases a:O.heap[Tryz.lays138_ren.g 1]? with
 | none=>grind
 | some o=>simp only[b.block _ (AuO.1 a).1,a]
theorem Ae3(s sep:Aa):(Lib.cut s sep).1.length<=s.length/\(Lib.cut s sep).2.1.length<=s.length:=by unfold Lib.cut;grind
theorem zW:Go.Proofs.Builder.Extra π Tryz.lays154_ren where
 sizeBuilder:=by kernel_rfl
 liesBuilder:=by kernel_rfl
 t5:=Tryz.underlying5
 a5:=Tryz.isAgg5
 z5:=Tryz.sizeOf5
 v5:=Tryz.zeroValue5
 infoByte:=by kernel_rfl
 cellsByte:=by kernel_rfl
 sizeByte:=by kernel_rfl
 neB5:=by decide
theorem iP:Go.Proofs.Builder.Extra π Tryz.lays105_ren where
 sizeBuilder:=by kernel_rfl
 liesBuilder:=by kernel_rfl
 t5:=Tryz.underlying5
 a5:=Tryz.isAgg5
 z5:=Tryz.sizeOf5
 v5:=Tryz.zeroValue5
 infoByte:=by kernel_rfl
 cellsByte:=by kernel_rfl
 sizeByte:=by kernel_rfl
 neB5:=by decide
theorem Q1(s:Aa) k (o:s.length*k<=2^30)(l:k<=2^30)(c:(Lib.repeatL s k).length<=AG):Ak π O 197 [.s s,.i .i64 (k:Int)] [] (.s (Lib.repeatL s k)) []:=by refine Ba (by kernel_rfl) λw a j ⟨μ,H,d⟩=>?_;obtain⟨x,y,rfl,g,h⟩:=d.two;obtain⟨rfl,m⟩:=Bx g;cases h;refine(Any.strings_Repeat Tryz.lays105 iP ⟨s.toArray⟩ k w (by omega) (by simp[ByteArray.size];omega)).mono λe w' ⟨b,f⟩=>?_;exact⟨_,b,λ_ _=>.s _ c,f⟩
variable(hM:BS O)
include hM
theorem AeR(s sub:Aa)(o:s.length<=2^31)(b:1<=sub.length):Ak π O 241 [.s s,.s sub] [] (.i .i64 (Lib.count s sub)) []:=by refine Ba (by kernel_rfl) λw a c ⟨μ,H,g⟩=>?_;obtain⟨x,y,rfl,j,k⟩:=g.two;obtain⟨rfl,l⟩:=Bx j;obtain⟨rfl,f⟩:=Bx k;have ⟨m,hm⟩:=FF hM c;refine(Any.strings_Count_any Tryz.lays138 ⟨s.toArray⟩ ⟨sub.toArray⟩ m w (by simp[ByteArray.size];omega) hm (by simpa[ByteArray.size] using b)).mono λe w' ⟨d,h⟩=>?_;subst h;exact⟨_,d,λ_ _=>.i _ _,AyF _ _⟩
theorem VI(s sep:Aa)(q:s.length<=2^31):Ak π O 107 [.s s,.s sep] [] (.tup [.s (Lib.cut s sep).1,.s (Lib.cut s sep).2.1,.b (Lib.cut s sep).2.2]) []:=by
 refine Ba (by kernel_rfl) λw g h ⟨μ,H,a⟩=>?_;obtain⟨x,y,rfl,o,p⟩:=a.two;obtain⟨rfl,f⟩:=Bx o;obtain⟨rfl,j⟩:=Bx p;have ⟨m,hm⟩:=FF hM h;refine(Any.strings_Cut Tryz.lays145 ⟨s.toArray⟩ ⟨sep.toArray⟩ m w (by simp[ByteArray.size];omega) hm).mono λe w' ⟨i,n,l⟩=>?_;subst l;have ⟨c1,c2⟩:=Ae3 s sep;refine⟨_,i,λμ H=>Ap.tup [.s (Lib.cut s sep).1,.s (Lib.cut s sep).2.1,.b (Lib.cut s sep).2.2] [.string ⟨(Lib.cut s sep).1.toArray⟩,.string ⟨(Lib.cut s sep).2.1.toArray⟩,.bool (Lib.cut s sep).2.2] rfl λk c v d a=>?_,Below.drewN_ (AyF _ _) n⟩
 match k with
 | 0=>simp at d a;subst d a;exact .s _ (AoW c1 f)
 | 1=>simp at d a;subst d a;exact .s _ (AoW c2 f)
 | 2=>simp at d a;subst d a;exact .b _
 | k+3=>simp at d
theorem Oq(s a new:Aa) n (B:s.length<=2^31)(j:1<=a.length)(A:s.length*new.length<=2^41)(q:(Lib.replace s a new n).length<=AG):Ak π O 205 [.s s,.s a,.s new,.i .i64 n] [] (.s (Lib.replace s a new n)) []:=by
 refine Ba (by kernel_rfl) λw c k ⟨μ,H,g⟩=>?_;have f:=g.len;obtain⟨x,y,z,u,rfl⟩:∃x y z u,c=[x,y,z,u]:=by
  match c,f with
  | [x,y,z,u],_=>exact⟨x,y,z,u,rfl⟩
 obtain⟨rfl,v⟩:=Bx (g.at_ 0 _ _ rfl rfl);obtain⟨rfl,o⟩:=Bx (g.at_ 1 _ _ rfl rfl);obtain⟨rfl,p⟩:=Bx (g.at_ 2 _ _ rfl rfl);have r:=g.at_ 3 _ _ rfl rfl;cases r;have ⟨m,hm⟩:=FF hM k;have b:=Lib.countB_le ⟨a.toArray⟩ (by simpa[ByteArray.size] using j) s.length ⟨s.toArray⟩ (by simp[ByteArray.size]);have d:(⟨s.toArray⟩:ByteArray).size=s.length:=by simp[ByteArray.size]
 have h:(⟨new.toArray⟩:ByteArray).size=new.length:=by simp[ByteArray.size]
 refine(Any.strings_Replace Tryz.lays154 zW ⟨s.toArray⟩ ⟨a.toArray⟩ ⟨new.toArray⟩ n m w (by rw[d];omega) hm (by simpa[ByteArray.size] using j) ?_).mono λe w' ⟨l,t⟩=>?_
 .rw[d,h];rw[d] at b;have:Lib.countB ⟨s.toArray⟩ ⟨a.toArray⟩*new.length<=s.length*new.length:=A0M _ b;omega
 .exact⟨_,l,λ_ _=>.s _ q,t⟩
omit hM
theorem Gq(s cs:Aa):(Lib.trimLeftS s cs).length<=s.length:=(A1e _).length_le
theorem QS(s cs:Aa)(a:cs.length<4294967281)(d:∀b∈cs,b.toNat<128):Ak π O 237 [.s s,.s cs] [] (.s (Lib.trimLeftS s cs)) []:=by refine Ba (by kernel_rfl) λw c o ⟨μ,H,i⟩=>?_;obtain⟨x,y,rfl,l,m⟩:=i.two;obtain⟨rfl,h⟩:=Bx l;obtain⟨rfl,_⟩:=Bx m;refine(Any.strings_TrimLeft_laid Tryz.lays161 (by kernel_rfl) ⟨s.toArray⟩ ⟨cs.toArray⟩ w (by simpa[ByteArray.size] using a) (λj b g=>d b (Ao6 g))).mono λe w' ⟨f,k⟩=>?_;exact⟨_,f,λ_ _=>.s _ (AoW (Gq s cs) h),k⟩
theorem Ts{μ H}{b:List Aa}{a}(h:AY μ H (AQ (b.map V.s)) a):a=b.map encStr:=by
 rw[HC] at h;apply Az7;intro k;rw[ArI];cases d:b[k]? with
 | none=>
  have:a.length=b.length:=by have:=h.len;simpa using this.symm
  grind
 | some l=>have ⟨v,h1,h2⟩:=h.toVRels.get (k:=k) (c:=.s l) (by grind);rw[h1,(Bx h2).1];rfl
theorem Ox{μ H}{b:List Aa}(f:∀l∈b,l.length<=AG):AY μ H (AQ (b.map V.s)) (b.map encStr):=by
 rw[HC];refine⟨⟨by simp,λk c v d a=>?_⟩,λv a=>?_⟩
 .rw[ArI] at d a;obtain⟨x,e,rfl⟩:=Afo.1 d;rw[e] at a;cases a;exact .s _ (f x (Ao6 e))
 .obtain⟨x,_,rfl⟩:=Aov.1 a;rfl
theorem Mh{w g a e}{b:List Aa}(d:w.heap[g]?=some (.cells a e (0,0)))(i:a.toList.take b.length=b.map encStr):Sort.Holds encStr w g 0 b.toArray:=by
 intro j h;have c:j<b.length:=by simpa using h
 have f:a[j]?=some (encStr b[j]):=by
  have:(a.toList.take b.length)[j]?=some (encStr b[j]):=by rw[i];simp 
  grind
 refine⟨?_,?_⟩
 .simp[World.cell?,d,f,c]
 .simp[World.frozen?,d]
theorem La{P O f e}{m a:List Aa} id (T:callable P f=true)(Y:m≠[])(b:a.length=m.length)(z:∀l∈a,l∈m)
  (h:∀(w) Cl cap,Sort.Holds encStr w Cl 0 m.toArray->Cl<w.heap.size->Calls P f #[.slice (some ⟨Cl,0,none⟩) m.length cap] w λe w'=>e=.returned (.tuple #[])/\∃n B,w'=Sort.grow (Sort.putRow encStr (Sort.ahead w n) Cl 0 a.toArray) B) :
  Ak P O f [.arr id] [(id,.arr e 1 (m.map V.s))] (.tup []) [(id,.arr e 1 (a.map V.s))] where
 callable:=T
 dom:=λi U=>by simp only[lk] at U⊢;grind
 run:=by
  intro n w μ H o hp M;obtain⟨x,rfl⟩:∃x,o=[x]:=by
   match o,M.len with
   | [x],_=>exact⟨x,rfl⟩
  have A:=(M.at_ 0 _ _ rfl rfl).arr_inv.1;have y:lk [(id,AP.arr e 1 (m.map V.s))] id=some (.arr e 1 (m.map V.s)):=by simp[lk]
  obtain⟨v,vs,K,h2,C,N,h5,D⟩:=hp.ents _ _ y;rw[A] at K;cases K;have J:=Ts D;subst J;obtain⟨W,C⟩:=C;rcases C with⟨_,h0⟩|⟨g,cap,cur,rfl,hB,hg,hncap,hcap,hcur,htake⟩
  .grind
  simp only[Afb,Nat.mul_one] at htake W hcur hncap⊢;have r:g<w.heap.size:=(AuO.1 hg).1;have I:∀l∈m,l.length<=AG:=by intro l G;obtain⟨k,L⟩:=AxL.1 G;rw[HC] at D;obtain⟨v,_,S⟩:=D.toVRels.get (k:=k) (c:=.s l) (by grind);exact(Bx S).2
  refine(h w g cap (Mh hg htake) r).mono ?_;rintro en w' ⟨rfl,k,B,rfl⟩;have t:∀j,j<w.heap.size->(Sort.grow (Sort.putRow encStr (Sort.ahead w k) g 0 a.toArray) B).heap[j]?=if j=g then some (.cells (Sort.putCells encStr 0 a.toArray cur) e (0,0)) else w.heap[j]?:=by
   intro j u;simp only[Sort.grow,Sort.putRow,Sort.mapBlock,Sort.ahead];rw[A1C (by simpa using u),Array.getElem?_modify];by_cases F:g=j
   .subst F;simp[hg,Sort.onCells]
   grind
  have p:By (λq=>Cl (μ id)=some q) w (Sort.grow (Sort.putRow encStr (Sort.ahead w k) g 0 a.toArray) B):=by refine⟨rfl,rfl,rfl,by grind,λj u X=>?_⟩;rw[t j u,AfL];rintro rfl;exact X (by rw[A];rfl)
  have d:=hp.set_ (e:=.arr e 1 (a.map V.s)) y p ⟨_,a.map encStr,A,rfl,⟨by simp,.inr ⟨g,cap,Sort.putCells encStr 0 a.toArray cur,by simp[b],hB,by rw[t g r,Amm rfl],by simp[b];exact hncap,hcap,by simp[Sort.putCells,hcur],?_⟩⟩,by simpa[b] using N,λx A=>by grind,Ox λl G=>I l (z l G)⟩
  .have Z:upd [(id,AP.arr e 1 (m.map V.s))] id (.arr e 1 (a.map V.s))=[(id,.arr e 1 (a.map V.s))]:=by simp[upd]
   rw[Z] at d;exact⟨_,μ,H,n,rfl,.tup [] [] rfl (λk c v L=>by simp at L),d.1,Ab6 _,d.2,λ_ _ h=>h⟩
  .apply Az7;intro j;simp only[Afb,Nat.mul_one,A0w,ArI];split
   .rename_i u;have E:j<cur.size:=by omega
    simp[Sort.putCells,E,u]
   grind
theorem bJ(a:List Aa) id (c:a≠[])(d:a.length<=2^40):Ak π O 238 [.arr id] [(id,.arr 9 1 (a.map V.s))] (.tup []) [(id,.arr 9 1 (a.reverse.map V.s))]:=by refine La id (by kernel_rfl) c (by simp) (λl d=>by simpa using d) λw Cl b f g=>?_;refine(Any.slices_Reverse_string Tryz.laysT17 Cl 0 b a w f (by omega)).mono ?_;rintro e w' ⟨rfl,n,rfl⟩;exact⟨rfl,n,#[],by simp⟩
end Go.Ir
end
section
set_option maxRecDepth 100000
namespace Go.Ir
open Go.Proofs Go.RowKit
theorem fC{W:World}(h:W.ShapedOpen Tryz.prog):BS W:=by
 have ⟨cs,hh,hs,hr⟩:=h.1 (Tryz.lays138_ren.g 1) #[.int .i64 0] 3 (Awz (by kernel_rfl)) (by kernel_rfl);have ⟨ts,hts,_,hall⟩:=hr (by kernel_rfl);have b:Tryz.prog.cellTypes Tryz.prog.depth 3=some [3]:=by kernel_rfl
 rw[b] at hts;cases hts;have d:0<cs.size:=by rw[hs];decide
 have ⟨u,hu',hok⟩:=hall 0 cs[0] (by simp );have:u=3:=by simpa using hu'.symm
 subst this;have a:W.cell? ⟨Tryz.lays138_ren.g 1,0,none⟩=some cs[0]:=by simp[World.cell?,hh]
 unfold BS;rw[a];unfold Cell.ok at hok;rw[Tryz.underlying3] at hok;cases c:cs[0]<;>rw[c] at hok<;>first|(simp at hok;done)|skip
 grind
end Go.Ir
end
namespace Go.Proofs
open Go.Shelf
def Tryz.lays194_ren:Go.Shelf.Ren:=⟨fun|194=>286|n=>n,fun|31=>28|9=>9|3=>3|4=>4|0=>0|n=>n,fun|n=>n⟩
theorem Tryz.lays194:Go.Proofs.Lays.n194 Tryz.prog Tryz.lays194_ren:=by constructor;all_goals intros;kernel_rfl
def Tryz.laysT16_ren:Go.Shelf.Ren:=⟨fun|16=>51|n=>n,fun|24=>28|9=>9|4=>4|n=>n,fun|n=>n⟩
theorem Tryz.laysT16:Go.Proofs.Lays2.n16 Tryz.prog Tryz.laysT16_ren:=by constructor;all_goals intros;kernel_rfl
end Go.Proofs
namespace Go.Ir
open Go.Proofs Go.RowKit
variable(O:World)
theorem Aci(a:List Aa) id (c:a≠[])(d:a.length<=2^40):Ak π O 71 [.arr id] [(id,.arr 9 1 (a.map V.s))] (.tup []) [(id,.arr 9 1 ((a.mergeSort λx y=>decide (x<=y)).map V.s))]:=by refine La id (by kernel_rfl) c (A16 ..) (λl d=>by simpa using d) λw Cl b e f=>?_;exact AnyM.slices_Sort_string Tryz.sortA Cl 0 b a w e f (by omega)
theorem lU{O:World}{n:Nat}{μ:Id->Option Value}{H:Addr->Option Value}{w:World}{id:Id}{e:TypeId}{d:List Aa}(hp:Hp O [(id,.arr e 1 (d.map V.s))] n μ H w)(j:d≠[]){x:Value}(m:μ id=some x) :
  ∃g a b,x=.slice (some ⟨g,0,none⟩) d.length a/\O.heap.size<=g/\w.heap[g]?=some (.cells b e (0,0))/\d.length<=a/\a<=maxLen/\b.size=a/\b.toList.take d.length=d.map encStr/\d.length<=AJ/\∀l∈d,l.length<=AG:=by
 have f:lk [(id,AP.arr e 1 (d.map V.s))] id=some (.arr e 1 (d.map V.s)):=by simp[lk]
 have ⟨v,vs,h1,h2,h3,h4,h5,h6⟩:=hp.ents _ _ f;rw[m] at h1;cases h1;have h:=Ts h6;subst h;have ⟨hl,h3⟩:=h3;rcases h3 with⟨_,h0⟩|⟨g,a,b,rfl,hB,hg,hncap,hcap,hcur,htake⟩
 .grind
 simp only[Afb,Nat.mul_one] at htake hl hcur hncap h4⊢;refine⟨g,a,b,rfl,hB,hg,hncap,hcap,hcur,htake,h4,λl i=>?_⟩;have ⟨k,hk⟩:=AxL.1 i;rw[HC] at h6;have ⟨v,_,h8⟩:=h6.toVRels.get (k:=k) (c:=.s l) (by grind);exact(Bx h8).2
theorem Abw{O σ n μ H w}(hp:Hp O σ n μ H w){id}(h:μ id=none):lk σ id=none:=by
 cases a:lk σ id with
 | none=>rfl
 | some e=>exact absurd (hp.ents _ _ a).named (by grind)
theorem AaQ(b:List Aa) id (B:b≠[])(S:b.length<=2^30):Kk π O 51 [.arr id] [(id,.arr 9 1 (b.map V.s))] (.arr 9 1 (b.map V.s)) [(id,.arr 9 1 (b.map V.s))] where
 callable:=by kernel_rfl
 dom:=λ_ h=>h
 run:=by
  intro n w μ H o hp G;obtain⟨x,rfl⟩:∃x,o=[x]:=by
   match o,G.len with
   | [x],_=>exact⟨x,rfl⟩
  have L:=(G.at_ 0 _ _ rfl rfl).arr_inv.1;obtain⟨g,p,r,rfl,hB,F,A,D,E,q,_,C⟩:=lU hp B L;have key:=Any.slices_Clone_string Tryz.laysT16 g 0 b.length p (b.map λl=>(⟨l.toArray⟩:ByteArray)) w (by simp) (by omega) (λj J=>by
   have z:j<b.length:=by simpa using J
   have:=(Mh F q j (by simpa using z)).1;grind
)
  refine key.mono ?_;rintro e w' ⟨v,rfl,d,_,f⟩;have t:List.map Value.string ((b.map λl=>(⟨l.toArray⟩:ByteArray)).take b.length)=b.map encStr:=by rw[A11 (by simp),A2i];simp_all
  rw[t] at d;have a:μ (n,0)=none:=hp.bd _ (Ab6 _);have c:=d.2;have m:v.oneCell'=true:=by rcases c with⟨rfl,_⟩|⟨g,p,r,rfl,_⟩<;>rfl
  have i:=(hp.more (Avb n)).new_ (n':=n+1) (R:=λ_=>False) (w':=w') ⟨f.os,f.tape,f.output,f.size,λk K _=>f.block k K⟩ (λ_ h=>h.elim) (σ1:=[(id,.arr 9 1 (b.map V.s))]) (λid e h=>⟨h,λ_ _ h=>h⟩) (id:=(n,0)) (e:=.arr 9 1 (b.map V.s)) (val:=v) a (Ab4 _) (Ab6 _) (λN f=>by
    right;rcases c with⟨rfl,_⟩|⟨g,p,r,rfl,F,_⟩
    .simp[Cl] at f
    .simp[Cl] at f;omega)
   ⟨v,b.map encStr,Au _ _ _,m,by rw[Afb];exact ownsRow_base_a d hp.base.size,by grind,by intro y M;obtain⟨x,_,rfl⟩:=Aov.1 M;rfl,Ox C⟩
  refine⟨v,_,H,n+1,(n,0),rfl,Au _ _ _,m,a,Abw hp a,i.1,Avb _,i.2,λid u I=>?_⟩;rw[Ce _ _ (by rintro rfl;simp at u)];exact I
theorem MD{a}{l:Aa}(h:l∈Lib.compact a):l∈a:=by unfold Lib.compact Lib.compactUpTo at h;grind
theorem M6(a:List Aa):(Lib.compact a).length<=a.length:=by unfold Lib.compact Lib.compactUpTo;grind
theorem Nu(a:List Aa) id (G:a≠[])(hl:a.length<=2^30):FK π O 286 [.arr id] [(id,.arr 9 1 (a.map V.s))] (λn n' v σ'=>∃b,n<=b.1/\b.1<n'/\v=.arr b/\σ'=[(b,.arr 9 1 ((Lib.compact a).map V.s))]) where
 callable:=by kernel_rfl
 run:=by
  intro n w μ H d hp N;obtain⟨x,rfl⟩:∃x,d=[x]:=by
   match d,N.len with
   | [x],_=>exact⟨x,rfl⟩
  have J:=(N.at_ 0 _ _ rfl rfl).arr_inv.1;obtain⟨g,f,i,rfl,hB,A,o,t,u,r,_,I⟩:=lU hp G J;have W:=M6 a;have X:g<w.heap.size:=(AuO.1 A).1;refine(Any.slices_Compact_string Tryz.lays194 g 0 f a w (Mh A r) (by omega) o).mono ?_;rintro en w' ⟨rfl,q,rfl⟩;generalize K:Lib.compact a++List.replicate (a.length-(Lib.compact a).length) []=T;have U:T.length=a.length:=by rw[<-K];simp;omega
  have z:∀j,(Sort.putRow encStr (Sort.ahead w q) g 0 T.toArray).heap[j]?=if j=g then some (.cells (Sort.putCells encStr 0 T.toArray i) 9 (0,0)) else w.heap[j]?:=by
   intro j;simp only[Sort.putRow,Sort.mapBlock,Sort.ahead];rw[Array.getElem?_modify];by_cases m:g=j
   .subst m;simp[A,Sort.onCells]
   .rw[AfL m,AfL (Ao0 m)]
  have p:μ (n,0)=none:=hp.bd _ (Ab6 _);have F:lk [(id,AP.arr 9 1 (a.map V.s))] id=some (.arr 9 1 (a.map V.s)):=by simp[lk]
  have c:=(hp.more (Avb n)).new_ (n':=n+1) (σ1:=[]) (w':=Sort.putRow encStr (Sort.ahead w q) g 0 T.toArray) (R:=λk=>Cl (μ id)=some k) ⟨rfl,rfl,rfl,by simp ,λk M Z=>by rw[z,AfL];rintro rfl;exact Z (by rw[J];rfl)⟩ (λk M=>⟨id,_,F,M⟩) (λab e' h=>by simp[lk] at h) p (id:=(n,0)) (e:=.arr 9 1 ((Lib.compact a).map V.s)) (val:=.slice (some ⟨g,0,none⟩) (Lib.compact a).length f) (Ab4 _) (Ab6 _) (λbk L=>by
    simp only[Cl,Ao3] at L;subst L;left;rw[J];rfl)
   ⟨_,(Lib.compact a).map encStr,Au _ _ _,rfl,⟨by simp,.inr ⟨g,f,Sort.putCells encStr 0 T.toArray i,by simp,hB,by rw[z,Amm rfl],by simp;omega,t,by simp[Sort.putCells,u],by
    apply Az7;intro j;simp only[Afb,Nat.mul_one,A0w,ArI];split
    .rename_i C;have E:j<i.size:=by omega
     have D:j<T.length:=by omega
     have:T[j]=(Lib.compact a)[j]:=by simp only[<-K];rw[List.getElem_append_left C]
     simp[Sort.putCells,E,D,this,C]
    .rename_i C;rw[A15 (by omega)];rfl⟩⟩,by simp;unfold AJ;omega,by intro y hy;obtain⟨x,_,rfl⟩:=Aov.1 hy;rfl,Ox λl Y=>I l (MD Y)⟩
  refine⟨_,_,H,n+1,_,_,rfl,⟨(n,0),Ab6 _,Ab4 _,rfl,rfl⟩,.arr _ _ (Au _ _ _) rfl,c.1,Avb _,c.2,λid B S=>?_⟩;rw[Ce _ _ (by rintro rfl;simp at B)];exact S
end Go.Ir

namespace Go.Ir
open Go.Proofs
variable{P:Program}{O:World}{nt n:Nat}{Q:Exit→St→Prop}{env:BB}{σ:Aq}
def pW:IC:=sQ (oS [m1 5 1] [2,5] (.block 0 (oS [bZ 7 .eql 5 7,m1 6 7] [2,5,6] (cD 6 (oR [fA 8 2 3,l1 9 8,m1 4 9] [4]) (oS [bZ 11 .eql 5 8,m1 10 11] [2,10] (cD 10 (oR [fA 12 2 4,l1 13 12,m1 4 13] [4]) .skip)))))) (oR [mC 4 .nil] [4])
def Aag:IC:=oS [bX 2 0,mC 4 .nil] [1,2] pW
def AoF:List R:=[.t 4]
def AxM:=An pW.eq_1<|AR Aag.eq_1
theorem AmT:Ao π 158 14 Aag AoF=true:=by kernel_rfl
def tX:IC:=sQ (oS [m1 5 0,bZ 6 .eql 5 9] [3,6] (cD 6 (oR [lA 7 3 5,q1 8 22 7,m1 9 8,Fa 10 9 3 1,E3 11 9 10,Gi 12 9 .eql 11 1,pA 13 9 12,m1 4 13] [4]) .skip)) (oR [lA 14 3 5,q1 15 22 14,m1 16 15,Fa 17 16 3 1,E3 18 16 17,Gi 19 16 .eql 18 2,pA 20 16 19,m1 4 20] [4])
def AaK:IC:=oS [bX 3 1,mC 4 (.b false)] [0,3] tX
def AoB:List R:=[.t 4]
def Ayv:=An tX.eq_1<|AR AaK.eq_1
theorem AkA:Ao π 159 21 AaK AoB=true:=by kernel_rfl
def Z2:IC:=oR [fA 23 5 2,l1 24 23,o1 25 (.bin .add (.c (.s [61])) (.t 24)),m1 26 7,o1 27 (.msl false 9 1 [.t 25,.t 26,.c (.s [111,116,104,101,114])]),m1 6 27] [6]
def tR:IC:=sQ (.ops [lA 15 3 16,m1 16 1,q2 17 158 15 16,fA 18 5 2,l1 19 18,q2 20 56 17 19,m1 14 20,xT 21 14 0,xT 22 14 1,m1 7 21,m1 8 22] [5,7] [[0,2],[1,2],[3,4],[2,5],[4,5],[5,6],[6,7],[6,8],[7,9],[8,10]]) Z2
def yF:IC:=sQ (oS [m1 9 1,bZ 10 .eql 9 9] [1,3,5,10] (cD 10 (oR [fA 11 5 2,l1 12 11,o1 13 (.msl false 9 1 [.t 12,.c (.s [111,116,104,101,114])]),m1 6 13] [6]) .skip)) tR
def mS:IC:=oS [bX 3 0,bX 5 2,mC 6 .nil] [1,3,5] yF
def ArA:List R:=[.t 6]
def Ayy:=An Z2.eq_1<|An tR.eq_1<|An yF.eq_1<|AR mS.eq_1
theorem Anf:Ao π 202 28 mS ArA=true:=by kernel_rfl
def Zg:IC:=oS [m1 21 2,m1 22 10,q2 23 58 21 22,m1 11 23] [2,11,15,16,17] (oS [m1 24 11,bZ 25 .geq 24 0] [2,11,15,16,17,25] (cD 25 (oR [m1 26 11,m1 8 26] [8]) .skip))
def nP:IC:=oS [bT 18 .lss 17 16] [2,15,16,17,18] (sQ (cD 18 .skip (.exit 0)) (sQ (.block 1 (oS [iA 19 15 17 9 1,l1 20 19,m1 10 20] [2,10,15,16,17] Zg)) (oP [bZ 27 .add 17 1,m1 17 27] [2,15,16,17])))
def jG:IC:=oS [bX 4 0,bX 7 3,mZ 8 0] [1,2,4,7] (sQ (oS [lA 12 4 16,m1 13 1,lA 14 7 5,q3 15 202 12 13 14,nL 16 15,mZ 17 0] [2,15,16,17] (.block 0 (.loop nP))) (oR [mZ 8 (-1)] [8]))
def ArY:List R:=[.t 8]
def AyW:=An Zg.eq_1<|An nP.eq_1<|AR jG.eq_1
theorem AmZ:Ao π 160 28 jG ArY=true:=by kernel_rfl
def Zy:IC:=oS [m1 34 9,nT 35 34,m1 33 35] [3,4,8,33] (cD 33 (oR [mZ 6 0,mZ 7 12] [6,7]) (oS [fA 37 4 0,l1 38 37,lA 39 8 5,q2 40 159 38 39,nT 41 40,m1 36 41] [3,4,8,36] (cD 36 (oR [mZ 6 0,mZ 7 11] [6,7]) .skip)))
def Zu:IC:=sQ (.block 2 (oS [iA 47 43 45 101 2,lA 48 47 2,o1 12 (.alloc (.agg [.s [],.nil])),sT 12 48 2] [3,4,8,10,12,43,44,45] (oP [m1 49 10,fA 50 12 0,l1 51 50,o1 52 (.msl false 9 1 [.t 51]),o1 53 (.app (.t 49) (.t 52) 9 1),m1 10 53] [3,4,8,10,43,44,45]))) (oP [bZ 54 .add 45 1,m1 45 54] [3,4,8,10,43,44,45])
def Yx:IC:=sQ (oS [fA 42 4 4,l1 43 42,nL 44 43,mZ 45 0] [3,4,8,10,43,44,45] (.block 1 (.loop (oS [bT 46 .lss 45 44] [3,4,8,10,43,44,45,46] (sQ (cD 46 .skip (.exit 1)) Zu))))) (sQ (.wk (oP [lA 55 3 16,fA 56 4 0,l1 57 56,m1 58 10,lA 59 8 5,o1 60 (.call 160 [.t 55,.t 57,.t 58,.t 59]),m1 13 60] [13])) (sQ (oS [m1 61 13,bZ 62 .lss 61 0] [13,62] (cD 62 (oR [mZ 6 0,mZ 7 13] [6,7]) .skip)) (oR [m1 63 13,m1 6 63,mZ 7 0] [6,7])))
def yC:IC:=sQ (.block 0 (oS [fA 22 4 0,l1 23 22,q1 24 42 23,nT 25 24,m1 21 25] [3,4,8,9,21] (cD 21 (oR [mZ 6 0,mZ 7 1] [6,7]) (oS [lA 27 3 16,fA 28 4 0,l1 29 28,q2 30 158 27 29,q1 31 18 30,nT 32 31,m1 26 32] [3,4,8,9,26] (cD 26 (oR [mZ 6 0,mZ 7 18] [6,7]) Zy))))) (oS [mC 10 .nil] [3,4,8,10] Yx)
def AaC:IC:=oS [m1 15 2,fA 16 4 2,l1 17 16,q2 18 21 15 17,m1 14 18,xT 19 14 0,xT 20 14 1,o1 8 (.alloc (.agg [.s [],.i .i64 0,.s [],.i .i64 0,.nil])),sT 8 19 5,m1 9 20] [3,4,8,9] yC
def rM:IC:=oS [bX 3 0,bX 4 1,mZ 6 0,mZ 7 0] [2,3,4] AaC
def Aqn:List R:=[.t 6,.t 7]
def AyO:=An Zy.eq_1<|An Zu.eq_1<|An Yx.eq_1<|An yC.eq_1<|An AaC.eq_1<|AR rM.eq_1
theorem pV:Ao π 118 64 rM Aqn=true:=by kernel_rfl
def YX:IC:=oS [m1 45 7,m1 46 8,m1 47 6,o1 48 (.slS (.t 46) (some (.t 47)) none),o1 49 (.msl false 9 1 [.t 48]),o1 50 (.app (.t 45) (.t 49) 9 1),m1 7 50] [2,5,6,7,8] (oP [m1 51 8,m1 52 6,o1 53 (.slS (.t 51) none (some (.t 52))),m1 8 53] [2,5,7,8])
def Rd:IC:=sQ (oS [m1 38 8,bC 39 .neq 38 (.s [])] [2,5,7,8,39] (cD 39 .skip (.exit 0))) (.block 1 (oS [m1 40 8,nS 41 40,m1 42 5,bT 43 .sub 41 42,o1 44 (.mx false (ci 0) [.t 43]),m1 6 44] [2,5,6,7,8] YX))
def ZB:IC:=sQ (oS [m1 35 1,m1 36 6,o1 37 (.slS (.t 35) none (some (.t 36))),m1 8 37] [2,5,7,8] (.block 0 (.loop Rd))) (oS [m1 54 7,o1 55 (.calls 238 [.t 54])] [2,7] (sQ (.wk (oP [m1 56 7,fA 57 2 1,l1 58 57,q2 59 239 56 58,m1 4 59] [4])) .ret))
def Zl:IC:=oS [m1 26 1,nS 27 26,fA 28 2 4,l1 29 28,bT 30 .sub 27 29,m1 6 30] [1,2,5,6] (oS [m1 31 1,m1 32 6,o1 33 (.slS (.t 31) (some (.t 32)) none),o1 34 (.msl true 9 1 [.t 33]),m1 7 34] [1,2,5,6,7] ZB)
def tA:IC:=oS [fA 20 2 5,l1 21 20,m1 5 21] [1,2,5] (sQ (oS [m1 22 5,bZ 23 .lss 22 1] [1,2,5,23] (cD 23 (oP [fA 24 2 4,l1 25 24,m1 5 25] [1,2,5]) .skip)) Zl)
def AaP:IC:=sQ (oS [fA 9 2 4,l1 10 9,bZ 11 .lss 10 1,m1 12 11,BU 13 12 1,gF 14 12 (.lenS (.t 13)),E5 15 12 2 4,Eh 16 12 15,gF 17 12 (.bin .leq (.t 14) (.t 16)),pO 18 12 17] [1,2,18] (cD 18 (oR [m1 19 1,m1 4 19] [4]) .skip)) tA
def l9:IC:=oS [bX 2 0,mC 4 (.s [])] [1,2] AaP
def Ase:List R:=[.t 4]
def AxQ:=An YX.eq_1<|An Rd.eq_1<|An ZB.eq_1<|An Zl.eq_1<|An tA.eq_1<|An AaP.eq_1<|AR l9.eq_1
theorem VL:Ao π 201 60 l9 Ase=true:=by kernel_rfl
def jQ:IC:=oS [lA 22 2 6,m1 23 7,q2 24 201 22 23,m1 10 24] [2,6,8,9,10] (sQ (oS [m1 25 9] [2,6,8,10,25] (cD 25 (oP [m1 26 10,fA 27 2 0,l1 28 27,m1 29 8,bT 30 .add 28 29,bT 31 .add 26 30,m1 10 31] [2,6,10]) .skip)) (sQ (oS [m1 32 6] [2,10,32] (cD 32 (oP [fA 33 2 2,l1 34 33,m1 35 10,bT 36 .add 34 35,m1 10 36] [10]) .skip)) (oR [m1 37 10,m1 4 37] [4])))
def Abc:IC:=oS [m1 12 1,o1 13 (.call 84 [.t 12,.c (.s [45])]),m1 11 13,xT 14 11 0,xT 15 11 1,m1 5 14,m1 6 15] [2,5,6] (oS [m1 17 5,o1 18 (.call 107 [.t 17,.c (.s [46])]),m1 16 18,xT 19 16 0,xT 20 16 1,xT 21 16 2,m1 7 19,m1 8 20,m1 9 21] [2,6,7,8,9] jQ)
def jM:IC:=oS [bX 2 0,mC 4 (.s [])] [1,2] Abc
def AoP:List R:=[.t 4]
def Ayk:=An jQ.eq_1<|An Abc.eq_1<|AR jM.eq_1
theorem AmN:Ao π 157 38 jM AoP=true:=by kernel_rfl
def oF:IC:=cD 13 (oR [mC 6 (.s []),mZ 7 1] [6,7]) (oS [fA 30 8 0,l1 31 30,bC 32 .eql 31 (.s []),m1 29 32] [1,2,8,29] (cD 29 (oR [mC 6 (.s []),mZ 7 18] [6,7]) .skip))
def XM:IC:=oS [m1 44 1,o1 45 (.call 156 [.t 44,ci 2]),m1 43 45,xT 46 43 0,xT 47 43 1,m1 1 46,m1 10 47] [1,8,10] (oP [fA 48 8 3,l1 49 48,m1 9 49] [1,8,9,10])
def X5:IC:=.block 1 (oS [bC 35 .eql 33 (.s [105,110,116,101,103,101,114]),m1 34 35] [1,8,9,10,33,34] (cD 34 (oP [m1 37 1,o1 38 (.call 155 [.t 37,ci 0]),m1 36 38,xT 39 36 0,xT 40 36 1,m1 1 39,m1 10 40] [1,8,9,10]) (oS [bC 42 .eql 33 (.s [112,101,114,99,101,110,116]),m1 41 42] [1,8,9,10,41] (cD 41 XM .skip))))
def YL:IC:=sQ (oS [m1 50 10,bZ 51 .neq 50 0] [1,8,9,10,51] (cD 51 (oR [m1 52 10,mC 6 (.s []),m1 7 52] [6,7]) .skip)) (oR [lA 53 8 6,m1 54 1,q2 55 157 53 54,m1 56 9,bT 57 .add 55 56,m1 6 57,mZ 7 0] [6,7])
def yI:IC:=sQ (.block 0 (oS [m1 14 1,q1 15 52 14,nT 16 15,m1 17 16,BU 18 17 2,gF 19 17 (.bin .neq (.t 18) (.c (.s []))),BU 20 17 19,BY 21 20 2,gT 22 20 (.bin .neq (.t 21) (.c (.s [105,110,116,101,103,101,114]))),gF 23 17 (.pick (.t 20) (.t 22) (.c (.b false))),BU 24 17 23,BY 25 24 2,gT 26 24 (.bin .neq (.t 25) (.c (.s [112,101,114,99,101,110,116]))),gF 27 17 (.pick (.t 24) (.t 26) (.c (.b false))),pO 28 17 27,m1 13 28] [1,2,8,13] oF)) (oS [mC 9 (.s [])] [1,2,8,9] (oS [mZ 10 0] [1,2,8,9,10] (sQ (oS [m1 33 2] [1,8,9,10,33] X5) YL)))
def mH:IC:=oS [bX 3 0,mC 6 (.s []),mZ 7 0] [1,2,3] (oS [fA 11 3 5,lA 12 11 6,o1 8 (.alloc (.agg [.s [],.s [],.s [],.s [],.i .i64 0,.i .i64 0])),sT 8 12 6] [1,2,8] yI)
def ArK:List R:=[.t 6,.t 7]
def AyS:=An oF.eq_1<|An XM.eq_1<|An X5.eq_1<|An YL.eq_1<|An yI.eq_1<|AR mH.eq_1
theorem AjE:Ao π 116 58 mH ArK=true:=by kernel_rfl
def Aaj:IC:=sQ (oS [fA 14 1 0,l1 15 14,m1 16 15,gT 17 16 (.load (.t 1) 3 true),gT 18 16 (.call 109 [.t 17]),gT 19 16 (.not (.t 18)),pA 20 16 19] [3,20] (cD 20 (oP [m1 21 3,o1 22 (.bin .add (.c (.s [45])) (.t 21)),m1 3 22] [3]) .skip)) (oR [m1 23 3,m1 2 23] [2])
def yS:IC:=sQ (oS [fA 6 1 2,l1 7 6,bC 8 .neq 7 (.s [])] [1,3,8] (cD 8 (oP [m1 9 3,fA 10 1 2,l1 11 10,o1 12 (.bin .add (.c (.s [46])) (.t 11)),bT 13 .add 9 12,m1 3 13] [1,3]) .skip)) Aaj
def p7:IC:=oS [bX 1 0,mC 2 (.s [])] [1] (oS [fA 4 1 1,l1 5 4,m1 3 5] [1,3] yS)
def ApE:List R:=[.t 2]
def AxR:=An Aaj.eq_1<|An yS.eq_1<|AR p7.eq_1
theorem Aka:Ao π 236 24 p7 ApE=true:=by kernel_rfl
def qL:IC:=sQ (oS [fA 4 1 1,l1 5 4,nS 6 5,bZ 7 .gtr 6 15,m1 8 7,E5 9 8 1 2,Eh 10 8 9,gF 11 8 (.lenS (.t 10)),Fg 12 8 .gtr 11 6,pO 13 8 12] [1,13] (cD 13 (oR [mC 2 (.s []),mZ 3 2] [2,3]) .skip)) (oR [lA 14 1 3,q1 15 236 14,m1 2 15,mZ 3 0] [2,3])
def uC:IC:=oS [bX 1 0,mC 2 (.s []),mZ 3 0] [1] qL
def AsC:List R:=[.t 2,.t 3]
def Azn:=An qL.eq_1<|AR uC.eq_1
theorem An6:Ao π 198 16 uC AsC=true:=by kernel_rfl
def Aav:IC:=sQ (oS [m1 4 0,o1 5 (.call 237 [.t 4,.c (.s [48])]),m1 3 5] [3] (oS [m1 6 3,bC 7 .neq 6 (.s [])] [3,7] (cD 7 (oR [m1 8 3,m1 2 8] [2]) .skip))) (oR [mC 2 (.s [48])] [2])
def mY:IC:=oS [mC 2 (.s [])] [0] Aav
def AtO:List R:=[.t 2]
def Azj:=An Aav.eq_1<|AR mY.eq_1
theorem Amv:Ao π 200 9 mY AtO=true:=by kernel_rfl
def YS:IC:=oS [m1 19 1,bZ 20 .lss 19 0,m1 21 20,BU 22 21 1,Fg 23 21 .gtr 22 6,pO 24 21 23,m1 18 24] [1,6,18] (cD 18 (oR [mC 4 (.s []),mZ 5 2] [4,5]) .skip)
def Z6:IC:=sQ (.ops [fA 30 6 2,l1 31 30,m1 32 1,fA 33 6 2,l1 34 33,nS 35 34,bT 36 .sub 32 35,o1 37 (.call 197 [.c (.s [48]),.t 36]),bT 38 .add 31 37,fA 39 6 2,sT 39 38 1] [6] [[0,1],[3,4],[4,5],[2,6],[5,6],[6,7],[1,8],[7,8],[1,10],[4,10],[8,10],[9,10]]) (oR [lA 40 6 3,q1 41 198 40,xT 42 41 0,xT 43 41 1,m1 4 42,m1 5 43] [4,5])
def Xu:IC:=sQ (.ops [m1 59 8,m1 60 8,nS 61 60,m1 62 1,bT 63 .sub 61 62,o1 64 (.slS (.t 59) none (some (.t 63))),m1 65 8,m1 66 8,nS 67 66,m1 68 1,bT 69 .sub 67 68,o1 70 (.slS (.t 65) (some (.t 69)) none),fA 71 6 1,sT 71 64 1,fA 72 6 2,sT 72 70 1] [6] [[1,2],[2,4],[3,4],[0,5],[4,5],[7,8],[8,10],[9,10],[6,11],[10,11],[5,13],[12,13],[11,15],[13,15],[14,15]]) (oR [lA 73 6 3,q1 74 198 73,xT 75 74 0,xT 76 74 1,m1 4 75,m1 5 76] [4,5])
def aC:IC:=sQ (.ops [fA 44 6 1,l1 45 44,fA 46 6 2,l1 47 46,m1 48 1,o1 49 (.slS (.t 47) none (some (.t 48))),bT 50 .add 45 49,fA 51 6 2,l1 52 51,m1 53 1,o1 54 (.idx (.t 52) (.t 53)),bC 55 .geq 54 (.i .u8 53),m1 8 50,m1 9 55] [1,6,8,9] [[0,1],[2,3],[3,5],[4,5],[1,6],[5,6],[7,8],[8,10],[9,10],[10,11],[6,12],[11,13]]) (sQ (oS [m1 56 9] [1,6,8,56] (cD 56 (oP [m1 57 8,q1 58 199 57,m1 8 58] [1,6,8]) .skip)) Xu)
def yQ:IC:=sQ (.block 0 (oS [m1 16 7,nT 17 16,m1 15 17] [1,6,15] (cD 15 (oR [mC 4 (.s []),mZ 5 1] [4,5]) YS))) (sQ (oS [m1 25 1,fA 26 6 2,l1 27 26,nS 28 27,bT 29 .geq 25 28] [1,6,29] (cD 29 Z6 .skip)) aC)
def Aa1:IC:=oS [mC 4 (.s []),mZ 5 0] [0,1] (oS [m1 11 0,q1 12 86 11,m1 10 12,xT 13 10 0,xT 14 10 1,o1 6 (.alloc (.agg [.b false,.s [],.s []])),sT 6 13 3,m1 7 14] [1,6,7] yQ)
def AqM:List R:=[.t 4,.t 5]
def AyE:=An YS.eq_1<|An Z6.eq_1<|An Xu.eq_1<|An aC.eq_1<|An yQ.eq_1<|AR Aa1.eq_1
theorem Wy:Ao π 155 77 Aa1 AqM=true:=by kernel_rfl
def aF:IC:=.ops [fA 27 6 1,l1 28 27,m1 29 8,m1 30 1,o1 31 (.slS (.t 29) none (some (.t 30))),bT 32 .add 28 31,q1 33 200 32,fA 34 6 2,l1 35 34,m1 36 1,fA 37 6 2,l1 38 37,nS 39 38,o1 40 (.mx true (.t 36) [.t 39]),o1 41 (.slS (.t 35) (some (.t 40)) none),fA 42 6 1,sT 42 33 1,fA 43 6 2,sT 43 41 1] [6] [[0,1],[2,4],[3,4],[1,5],[4,5],[5,6],[7,8],[10,11],[11,12],[9,13],[12,13],[8,14],[13,14],[1,16],[6,16],[8,16],[11,16],[15,16],[1,18],[8,18],[11,18],[14,18],[16,18],[17,18]]
def ZS:IC:=sQ (.ops [fA 22 6 2,l1 23 22,m1 24 1,o1 25 (.call 197 [.c (.s [48]),.t 24]),bT 26 .add 23 25,m1 8 26] [1,6,8] [[0,1],[2,3],[1,4],[3,4],[4,5]]) aF
def Zd:IC:=.ops [m1 50 9,m1 51 9,nS 52 51,m1 53 1,bT 54 .add 52 53,o1 55 (.slS (.t 50) none (some (.t 54))),q1 56 200 55,m1 57 9,m1 58 9,nS 59 58,m1 60 1,bT 61 .add 59 60,o1 62 (.slS (.t 57) (some (.t 61)) none),fA 63 6 2,l1 64 63,bT 65 .add 62 64,fA 66 6 1,sT 66 56 1,fA 67 6 2,sT 67 65 1] [6] [[1,2],[2,4],[3,4],[0,5],[4,5],[5,6],[8,9],[9,11],[10,11],[7,12],[11,12],[13,14],[12,15],[14,15],[6,17],[14,17],[16,17],[14,19],[15,19],[17,19],[18,19]]
def Z7:IC:=sQ (.ops [m1 44 1,o1 45 (.neg (.t 44)),o1 46 (.call 197 [.c (.s [48]),.t 45]),fA 47 6 1,l1 48 47,bT 49 .add 46 48,m1 9 49] [1,6,9] [[0,1],[1,2],[3,4],[2,5],[4,5],[5,6]]) Zd
def aL:IC:=oS [m1 17 1,o1 18 (.mx true (.t 17) [ci 40]),o1 19 (.mx false (.t 18) [ci (-40)]),m1 1 19] [1,6] (sQ (oS [m1 20 1,bZ 21 .geq 20 0] [1,6,21] (cD 21 ZS Z7)) (oR [lA 68 6 3,q1 69 198 68,xT 70 69 0,xT 71 69 1,m1 4 70,m1 5 71] [4,5]))
def Aaw:IC:=oS [m1 11 0,q1 12 86 11,m1 10 12,xT 13 10 0,xT 14 10 1,o1 6 (.alloc (.agg [.b false,.s [],.s []])),sT 6 13 3,m1 7 14] [1,6,7] (sQ (oS [m1 15 7,nT 16 15] [1,6,16] (cD 16 (oR [mC 4 (.s []),mZ 5 1] [4,5]) .skip)) aL)
def AaT:IC:=oS [mC 4 (.s []),mZ 5 0] [0,1] Aaw
def AoI:List R:=[.t 4,.t 5]
def Azc:=An aF.eq_1<|An ZS.eq_1<|An Zd.eq_1<|An Z7.eq_1<|An aL.eq_1<|An Aaw.eq_1<|AR AaT.eq_1
theorem wY:Ao π 156 72 AaT AoI=true:=by kernel_rfl
attribute[push_cast]AoF AxM AoB Ayv ArA Ayy ArY AyW Aqn AyO Ase AxQ AoP Ayk ArK AyS ApE AxR AsC Azn AtO Azj AqM AyE AoI Azc
end Go.Ir

namespace Go.Ir
open Go.Proofs
variable(O:World)
theorem Aa7 c (w f:Aa):Ak π O 109 [.agg [.b c,.s w,.s f]] [] (.b (E9 w&&E9 f)) []:=by
 refine Ac (vs:=[.b (E9 w&&E9 f)]) uE (by simp) (by simp) λn0 a=>?_;clear a;simp only[push_cast,rq];repeat' (first|(first|(apply AL<;>intro _h)|refine Ab (Abh O _) ?_)<;>(simp only[push_cast,rq,_h];try (have _g:=_h;simp at _g))|intro _)
 all_goals (first|(refine Af ?_;simp[get]<;>(intros;omega);done)|(refine Ah ?_;simp[push_cast,get, *];done)|skip)
theorem Ae8 c (w f:Aa)(h:w.length<=2^30)(g:f.length<=2^30):Ak π O 236 [.agg [.b c,.s w,.s f]] [] (.s (Jk c w f)) []:=by
 have e:=Aa7 O c w f;generalize hS:Jk c w f=S;unfold Jk at hS;generalize(E9 w&&E9 f)=Z at *;refine Ac (vs:=[.s S]) Aka (by simp) (by simp) λn0 d=>?_;clear d;simp only[push_cast,rq];cases c<;>cases Z
 all_goals (cases a:(f==([]:Aa)))
 all_goals ((try simp only[a,bq,AbA,Ab9] at hS);subst hS)
 all_goals (try simp only[push_cast,rq])
 all_goals (repeat' (first|((first|refine Ab (by exact e) ?_|refine As (by simp only[Ajd,An9,AtX,AG]<;>omega) ?_);(try simp only[push_cast,rq,a]))|intro _))
 all_goals (first|(refine Af ?_;simp[get];done)|(exact Gj;done)|skip)
theorem Mb a (w f:Aa)(h:w.length<=2^30)(g:f.length<=2^30):Ak π O 198 [.agg [.b a,.s w,.s f]] [] (.tup [.s (GL a w f).1,.i .i64 (GL a w f).2]) []:=by
 have j:=Ae8 O a w f h g;generalize hS:GL a w f=S;unfold GL at hS;generalize Jk a w f=Z at *;refine Ac (vs:=[.s S.1,.i .i64 S.2]) An6 (by simp) (by simp) λn0 e=>?_;clear e;simp only[push_cast,rq]
 all_goals (cases d:(decide ((w.length:Int)>15))<;>cases c:(decide ((f.length:Int)>6)))
 all_goals ((try simp only[d,c,bq,AbA,Ab9] at hS);subst hS)
 all_goals (try simp only[push_cast,rq,c])
 all_goals (repeat' (first|((first|refine Ab (by exact j) ?_|refine As (by omega) ?_);(try simp only[push_cast,rq]))|intro _))
 all_goals (first|(refine Af ?_;simp[get];done)|(exact Gj;done)|skip)
theorem bP(w:Aa):Ak π O 200 [.s w] [] (.s (Fk w)) []:=by
 have c:=QS O w [48] (by decide) (by decide);generalize hS:Fk w=S;unfold Fk at hS;generalize Lib.trimLeftS w [48]=Z at *;refine Ac (vs:=[.s S]) Amv (by simp) (by simp) λn0 b=>?_;clear b;push_cast
 all_goals (cases a:(Z==([]:Aa)))
 all_goals ((try simp only[a,AbA,Ab9,reduceCtorEq] at hS);subst hS)
 all_goals (try push_cast[a])
 all_goals (repeat' (first|((first|refine Ab (by exact c) ?_|refine As (by omega) ?_);(try push_cast[a]))|intro _))
 all_goals (first|(refine Af ?_;simp[get];done)|(exact Gj;done)|skip)
theorem dA:Ak π O 197 [.s [48],.i .i64 0] [] (.s []) []:=Q1 O [48] 0 (by decide) (by decide) (by decide)
theorem gN:Ak π O 197 [.s [48],.i .i64 2] [] (.s [48,48]) []:=Q1 O [48] 2 (by decide) (by decide) (by decide)
theorem Lf{s}(h:E6 s=true):(Bb s).length<=15/\(BC s).length<=6:=⟨(HZ h).2.2.1,(HZ h).2.2.2⟩
theorem VG w:(Fk w).length<=w.length+1:=by unfold Fk;have:=Gq w [48];split<;>simp<;>omega
theorem Aet(s:Aa)(q:s.length<=2^30):Ak π O 156 [.s s,.i .i64 2] [] (.tup [.s (DW s).1,.i .i64 (DW s).2]) []:=by
 have a:=MQ O s (by omega);have m:=gN O;generalize hS:DW s=S;unfold DW at hS;unfold Mj at a;cases j:E6 s with
 | false=>
  rw[j] at a hS;refine Ac (vs:=[.s S.1,.i .i64 S.2]) wY (by simp) (by simp) λn0 b=>?_;clear b;simp only[push_cast,seval]
  all_goals ((try simp only[Ab9,reduceCtorEq] at hS);subst hS)
  all_goals (try simp only )
  all_goals (repeat' (first|((first|refine Ab (by exact a) ?_|refine As (by omega) ?_);(try simp only[push_cast,seval]))|intro _))
  all_goals (first|(refine Af ?_;simp[get];done)|(exact Gj;done)|skip)
 | true=>
  rw[j] at a hS;have ⟨p1,p2⟩:=Lf j;have h:((BC s++[48,48]).take 2).length=2:=by simp
  have k:=VG (Bb s++(BC s++[48,48]).take 2);rw[Ajd,h] at k;have o:=bP O (Bb s++(BC s++[48,48]).take 2);have hp:=Mb O (Lw s) (Fk (Bb s++(BC s++[48,48]).take 2)) ((BC s).drop (min 2 (BC s).length)) (by omega) (by simp;omega);generalize Lw s=p at *;generalize Bb s=W at *;generalize BC s=F at *;generalize Fk (W++(F++[48,48]).take 2)=TB at *;have c:max (min (2:Int) 40) (-40)=2:=rfl;have l:decide ((2:Int)>=0)=true:=rfl;have d:(2<=(F++[48,48]).length)=True:=Arp (by simp);have e:min (2:Int) (F.length:Int)=((min 2 F.length:Nat):Int):=by omega
  have f:((min 2 F.length:Nat)<=F.length)=True:=Arp (by omega);have g:(W.length+(List.take 2 (F++[48,48])).length<=AG)=True:=Arp (by unfold AG;omega);refine Ac (vs:=[.s S.1,.i .i64 S.2]) wY (by simp) (by simp) λn0 b=>?_;clear b;simp only[push_cast,seval]
  all_goals ((try simp only[AbA] at hS);subst hS)
  all_goals (try simp only )
  all_goals (repeat' (first|((first|refine Ab (by exact a) ?_|refine Ab (by exact m) ?_|refine Ab (by exact o) ?_|refine Ab (by exact hp) ?_|refine As (by simp only[AG]<;>omega) ?_);(try simp only[push_cast,seval,c,d,e,f,g,Ab6,AuB]))|intro _))
  all_goals (first|(refine Af ?_;simp[get];done)|(exact Gj;done)|skip)
theorem iU l:(MF l).length<=l.length+1:=by
 induction l with
 | nil=>simp[MF]
 | cons c l a=>rw[MF];grind
theorem Ac7 s:(J6 s).length<=s.length+1:=by have:=iU s.reverse;simpa[J6] using this
theorem AcS(s:Aa)(B:s.length<=2^30):Ak π O 155 [.s s,.i .i64 0] [] (.tup [.s (DY s).1,.i .i64 (DY s).2]) []:=by
 have a:=MQ O s (by omega);have l:=dA O;generalize hS:DY s=S;unfold DY at hS;unfold Mj at a;have v:decide ((0:Int)<0)=false:=rfl;have w:decide ((0:Int)>6)=false:=rfl;cases g:E6 s with
 | false=>
  rw[g] at a hS;refine Ac (vs:=[.s S.1,.i .i64 S.2]) Wy (by simp) (by simp) λn0 b=>?_;clear b;simp only[push_cast,seval]
  all_goals ((try simp only[Ab9,reduceCtorEq] at hS);subst hS)
  all_goals (try simp only )
  all_goals (repeat' (first|((first|refine Ab (by exact a) ?_|refine As (by omega) ?_);(try simp only[push_cast,seval]))|intro _))
  all_goals (first|(refine Af ?_;simp[get];done)|(exact Gj;done)|skip)
 | true=>
  rw[g] at a hS;have ⟨p1,p2⟩:=Lf g;have t:=Ac7 (Bb s);have f:=Aj0 O (Bb s) (by omega);have m:=Mb O (Lw s) (Bb s) [] (by omega) (by simp);have q1:=Mb O (Lw s) (J6 (Bb s)) [] (by omega) (by simp);generalize Lw s=u at *;generalize J6 (Bb s)=h at *;generalize Bb s=W at *;cases k:BC s with
  | nil=>
   rw[k] at a hS;have j:decide ((0:Int)>=(([]:List UInt8).length:Int))=true:=rfl;have x:([]:List UInt8)++[]=[]:=rfl;have e:(([]:List UInt8)==[])=true:=rfl;simp only[AbA,e] at hS;refine Ac (vs:=[.s S.1,.i .i64 S.2]) Wy (by simp) (by simp) λn0 b=>?_;clear b;simp only[push_cast,seval]
   all_goals ((try simp only  at hS);subst hS)
   all_goals (try simp only )
   all_goals (repeat' (first|((first|refine Ab (by exact a) ?_|refine Ab (by exact l) ?_|refine Ab (by exact m) ?_|refine As (by omega) ?_);(try simp only[push_cast,seval]))|intro _))
   all_goals (first|(refine Af ?_;simp[get];done)|(exact Gj;done)|skip)
  | cons c F=>
   rw[k] at a hS;have ⟨G,hG⟩:∃G,G=c::F:=⟨_,rfl⟩
   rw[<-hG] at a hS;have j:decide ((0:Int)>=(G.length:Int))=false:=by grind
   have e:(G==([]:List UInt8))=false:=by rw[hG];rfl
   have y:(0<=G.length)=True:=Arp (Avz _);have z:W++List.take 0 G=W:=by simp
   have o:G[0]?=some c:=by rw[hG];rfl
   have A:(W.length+(List.take 0 G).length<=AG)=True:=Arp (by simp;unfold AG;omega);have r:Af7 G=decide ((c.toNat:Int)>=53):=by rw[hG];rfl
   simp only[AbA,Ab9,Ab7,e,r] at hS;clear hG;have q:IntKind.i64.wrap ((W.length:Int)-0)=(W.length:Int):=by rw[wrap64 (by omega) (by omega)];omega
   have p:IntKind.i64.wrap ((h.length:Int)-0)=(h.length:Int):=by rw[wrap64 (by omega) (by omega)];omega
   refine Ac (vs:=[.s S.1,.i .i64 S.2]) Wy (by simp) (by simp) λn0 b=>?_;clear b;simp only[push_cast,seval]
   all_goals (cases d:(decide ((c.toNat:Int)>=53)))
   all_goals ((try simp only[d,AbA,Ab9,reduceCtorEq] at hS);subst hS)
   all_goals (try simp only )
   all_goals (repeat' (first|((first|refine Ab (by exact a) ?_|refine Ab (by exact l) ?_|refine Ab (by exact m) ?_|refine Ab (by exact q1) ?_|refine Ab (by exact f) ?_|refine As (by simp only[Ajd,An9,AtX,AG]<;>omega) ?_);(try simp only[push_cast,seval,d,j,o,q,p,Avz,Ab6,AuB,List.drop_length]))|intro _))
   all_goals (first|(refine Af ?_;simp[get];done)|(exact Gj;done)|skip)
theorem KU(sep:Aa) n m (f:sep.length<=m):∀(c:List Aa),(∀l∈c,l.length<=n)->(Lib.join c sep).length<=c.length*(n+m)
 | [],_=>by simp[Lib.join]
 | [a],h=>by have:=h a (by simp);simp[Lib.join];omega
 | a::b::r,h=>by
  have g:=h a (by simp);have i:=KU sep n m f (b::r) λl e=>h l (Ab5 _ e);have d:Lib.join (a::b::r) sep=a++sep++Lib.join (b::r) sep:=by simp[Lib.join]
  rw[d,Ajd,Ajd,An9,A2p];omega
theorem Mq a (h:1<=a):∀(n m) (r),r.length<=n->r.length<=m->BD a n r=BD a m r:=by
 intro n
 induction n with
 | zero=>
  intro m r b c;have:r=[]:=by simpa using b
  subst this;cases m<;>simp[BD]
 | succ n d=>
  intro m r b c;cases m with
  | zero=>grind
  | succ m=>rw[BD,BD];grind
theorem W4 u (f a E:Nat) sv (z:sv=(f:Int))(F:1<=f)(J:f<9223372036854775808) t e h (w:h.length<=64)(v:t.length+h.length<=100)(k:a<e.1)(l:e.1<E)(Q:Exit->St->Prop)
  (G:∀d n,a<d.1->d.1<n->Q (.exit 0) ⟨[(2,.ref (a,2) 0),(5,.i .i64 sv),(7,.arr d),(8,.s []),(39,.b false)],[(d,.arr 9 1 ((t++BD f h.length h).map V.s)),((a,2),.box u)],n⟩) :
  F8 π O 60 Rd Q ⟨[(2,.ref (a,2) 0),(5,.i .i64 sv),(7,.arr e),(8,.s h)],[(e,.arr 9 1 (t.map V.s)),((a,2),.box u)],E⟩:=by
 subst z;generalize hS:t++BD f h.length h=S at G;refine Aj h.length (Inv:=λm st=>∃r n d g,m=r.length/\g++BD f r.length r=S/\r.length<=64/\g.length+r.length<=100/\a<d.1/\d.1<n/\st=⟨[(2,.ref (a,2) 0),(5,.i .i64 f),(7,.arr d),(8,.s r)],[(d,.arr 9 1 (g.map V.s)),((a,2),.box u)],n⟩) ⟨_,Ag.refl,h,_,e,t,rfl,hS,w,v,k,l,rfl⟩ ?_;clear hS w v k l;rintro m _ ⟨r,n,d,g,rfl,o,I,H,k,l,rfl⟩;cases r with
 | nil=>simp only[BD,AtX,At9] at o;subst o;simp only[push_cast,rq];grind
 | cons c r=>
  have ⟨R,hR⟩:∃R,R=c::r:=⟨_,rfl⟩
  rw[<-hR] at o I H⊢;have K:1<=R.length:=by rw[hR];simp
  have y:(R==([]:Aa))=false:=by rw[hR];rfl
  clear hR;have ⟨q,hq⟩:∃q,R.length=q+1:=⟨R.length-1,by omega⟩
  rw[hq,BD,AfL (by rw[y];simp)] at o;rw[Mq f F q (R.take (R.length-f)).length (R.take (R.length-f)) (by simp;omega) (by simp)] at o;have A:max (0:Int) (IntKind.i64.wrap ((R.length:Int)-(f:Int)))=((R.length-f:Nat):Int):=by rw[wrap64 (by omega) (by omega)];omega
  have B:(R.length-f<=R.length)=True:=Arp (by omega);have C:((g.length:Nat)+1<=AJ)=True:=Arp (by unfold AJ;omega);have x:∀j:Nat,((a,j)=d)=False:=λj=>Ab8 λD=>(by grind)
  have p:∀j:Nat,(d=(a,j))=False:=λj=>Ab8 λD=>AiZ (x j) D.symm;simp only[push_cast,rq,x,y,A,B,C,Avz,Ab6,AuB]
  repeat' (first|((apply AL<;>intro _h)<;>simp only[push_cast,rq,_h,x,p,y,A,B,C,Avz,Ab6,AuB,Afb])|(refine As (by omega) ?_;simp only[push_cast,rq,x,p,y,A,B,C,Avz,Ab6,AuB,Afb])|intro _)
  refine⟨_,_,?_,Ag.refl,R.take (R.length-f),_,_,g++[R.drop (R.length-f)],rfl,by rw[<-o];simp,by simp;omega,by simp;omega,?_,?_,by rw[A0D];rfl⟩
  .simp;omega
  .simp only;omega
  .simp only;omega
theorem Ad6(B c q w:Aa) a b (d:Aa)(X:d.length<=64)(T:c.length<=2^22)(hp:-9223372036854775808<=a)(Y:b<9223372036854775808) :
  Ak π O 201 [.agg [.s B,.s c,.s q,.s w,.i .i64 a,.i .i64 b],.s d] [] (.s (JO a b c d)) []:=by
 generalize hS:JO a b c d=S;unfold JO at hS;cases f:decide (a<1) with
 | true=>
  simp only[f,bq,AbA] at hS;subst hS;refine Ac (vs:=[.s d]) VL (by simp) (by simp) λn0 g=>?_;clear g;simp only[push_cast,rq,f]
  repeat' (first|((apply AL<;>intro _h)<;>simp only[push_cast,rq,_h,f])|(refine As (by omega) ?_;simp only[push_cast,rq,f])|intro _)
  all_goals exact Kn
 | false=>
 cases h:decide ((d.length:Int)<=a) with
 | true=>
  simp only[h,bq,AbA] at hS;subst hS;refine Ac (vs:=[.s d]) VL (by simp) (by simp) λn0 g=>?_;clear g;simp only[push_cast,rq,f,h]
  repeat' (first|((apply AL<;>intro _h)<;>simp only[push_cast,rq,_h,f,h])|(refine As (by omega) ?_;simp only[push_cast,rq,f,h])|intro _)
  all_goals exact Kn
 | false=>
  simp only[f,h,bq,Ab9] at hS;have k1:¬a<1:=AvV f;have k2:¬(d.length:Int)<=a:=AvV h;obtain⟨p,rfl⟩:∃p:Nat,a=p:=⟨a.toNat,by omega⟩
  have x:IntKind.i64.wrap ((d.length:Int)-(p:Int))=((d.length-p:Nat):Int):=by rw[wrap64 (by omega) (by omega)];omega
  have A:(d.length-p<=d.length)=True:=Arp (by omega);have ⟨e,hsc⟩:∃e:Nat,e=(if b<1 then(p:Int) else b).toNat:=⟨_,rfl⟩
  rw[<-hsc] at hS;have o:1<=e:=by rw[hsc];split<;>omega
  have u:e<9223372036854775808:=by rw[hsc];split<;>omega
  have V:(d.take (d.length-p)).length=d.length-p:=by simp
  have H:([d.drop (d.length-p)]++BD e (d.take (d.length-p)).length (d.take (d.length-p)))≠[]:=by simp
  have E:∀(n:Nat) (r:Aa),(BD e n r).length<=n/\∀l∈BD e n r,l.length<=r.length:=by
   intro n
   induction n with
   | zero=>intro r;simp[BD]
   | succ n ih=>intro r;rw[BD];grind
  have ⟨c1,c2⟩:=E (d.take (d.length-p)).length (d.take (d.length-p));have t:S=Lib.join ([d.drop (d.length-p)]++BD e (d.take (d.length-p)).length (d.take (d.length-p))).reverse c:=by rw[<-hS,Mq e o (d.take (d.length-p)).length d.length _ (by simp) (by simp)];rfl
  clear hS;have N:([d.drop (d.length-p)]++BD e (d.take (d.length-p)).length (d.take (d.length-p))).length<=65:=by grind
  have D:∀l∈[d.drop (d.length-p)]++BD e (d.take (d.length-p)).length (d.take (d.length-p)),l.length<=64:=by grind
  refine Ac (vs:=[.s S]) VL (by simp) (by simp) λn0 g=>?_;clear g;simp only[push_cast,rq,f,h];have v:(if decide (b<1) then(p:Int) else b)=(e:Int):=by grind
  cases C:decide (b<1)
  all_goals simp only[C,AbA,Ab9,Ab7] at v
  all_goals simp only[push_cast,rq,x,A,Avz,Ab6,AuB]
  all_goals repeat' (first|((apply AL<;>intro _h)<;>simp only[push_cast,rq,_h,f,h,x,A,Avz,Ab6,AuB,C])|(refine As (by omega) ?_;simp only[push_cast,rq,f,h,x,A,Avz,Ab6,AuB,C])|intro _)
  all_goals refine W4 O _ e _ _ _ v o u [d.drop (d.length-p)] _ _ (by simp;omega) (by simp;omega) (by simp only;omega) (by simp only;omega) _ (λm n Z i2=>?_)
  all_goals generalize[d.drop (d.length-p)]++BD e (d.take (d.length-p)).length (d.take (d.length-p))=G at *
  all_goals have F:=KU c 64 (2^22) T G.reverse (λl U=>D l (by simpa using U))
  all_goals rw[<-t] at F
  all_goals have L:=s7 O G.reverse c (by grind)
  all_goals rw[<-t] at L
  all_goals have I:=bJ O G m H (by omega)
  all_goals have J:∀j,((n0,j)=m)=False:=λj=>Ab8 λK=>by grind
  all_goals have M:∀j,(m=(n0,j))=False:=λj=>Ab8 λK=>AiZ (J j) K.symm
  all_goals simp only[push_cast,rq]
  all_goals refine NW I (by grind) ?_
  all_goals simp only[push_cast,rq]
  all_goals intro k
  all_goals refine H3 (Ag.frzAt (s:=7) (id:=m) rfl (by simp only[lk,J,Ab9]) (λy W=>by obtain⟨z,_,rfl⟩:=Aov.1 W;rfl) (Ab6 _)) ?_
  all_goals simp only[push_cast,rq]
  all_goals repeat' (first|((apply AL<;>intro _h)<;>simp only[push_cast,rq,_h,f,h,x,A,Avz,Ab6,AuB])|((first|refine Ab (by exact L) ?_|refine As (by omega) ?_);simp only[push_cast])|intro _)
  all_goals exact Kn
structure M1 (L:Du):Prop where
 dec:L.dec.length<=2^16
 grp:L.grp.length<=2^16
 minus:L.minus.length<=2^16
 perc:L.perc.length<=2^16
 prim:-9223372036854775808<=L.prim
 sec:L.sec<9223372036854775808
theorem PR L (c:M1 L) d (e:d.length<=64):(JO L.prim L.sec L.grp d).length<=2^23:=by
 unfold JO;split
 .omega
 .have a:∀(b n:Nat) (r:Aa),(BD b n r).length<=n/\∀l∈BD b n r,l.length<=r.length:=by
   intro b n
   induction n with
   | zero=>intro r;simp[BD]
   | succ n g=>intro r;rw[BD];grind
  have ⟨c1,c2⟩:=a (if L.sec<1 then L.prim else L.sec).toNat d.length (d.take (d.length-L.prim.toNat));refine AoW (KU L.grp 64 (2^16) c.grp _ λl f=>?_) ?_
  .grind
  grind
theorem EQ L (a:M1 L) n (g:n.length<=64):(FX L n).length<=2^23+2^18:=by have b:=Mi n;have c:=Uk n;have d:=PR L a (Bb n) (by omega);have e:=a.dec;have f:=a.minus;unfold FX;grind
theorem NK L (a:M1 L)(n:Aa)(o:n.length<=64):Ak π O 157 [.agg [.s L.dec,.s L.grp,.s L.minus,.s L.perc,.i .i64 L.prim,.i .i64 L.sec],.s n] [] (.s (FX L n)) []:=by
 have h:=Mi n;have j:=Uk n;have k:=PR L a (Bb n) (by omega);have l:=a.dec;have m:=a.minus;have b:=Eb O n [45];rw[EZ,FY] at b;have d:=W5 O n (by omega);have g:=Ad6 O L.dec L.grp L.minus L.perc L.prim L.sec (Bb n) (by omega) (by have:=a.grp;omega) a.prim a.sec;generalize hS:FX L n=S;unfold FX at hS;generalize JO L.prim L.sec L.grp (Bb n)=G at *;generalize Bb n=W at *;generalize BC n=F at *;generalize IM n=R at *;generalize L.dec=D at *;generalize L.minus=M at *;refine Ac (vs:=[.s S]) AmN (by simp) (by simp) λn0 c=>?_;clear c;simp only[push_cast,rq];cases e:Lw n<;>cases f:(Sq n).isEmpty
 all_goals simp only[e,f,AbA,Ab9,reduceCtorEq,Azx,AzQ] at hS b d
 all_goals subst hS
 all_goals repeat' (first|((apply AL<;>intro _h)<;>simp only[push_cast,rq,_h])|((first|refine Ab (by exact b) ?_|refine Ab (by exact d) ?_|refine Ab (by exact g) ?_|refine As (by simp only[Ajd,An9,AtX,AG]<;>omega) ?_);simp only[push_cast,rq])|intro _)
 all_goals exact Kn
theorem OL a w f:(GL a w f).1.length<=64:=by
 unfold GL;split
 .simp
 .rename_i h;simp only[AzS,Avv,not_or] at h;unfold Jk;split<;>split<;>simp only[An9,Ajd]<;>omega
theorem L9 s:(DY s).1.length<=64:=by
 unfold DY;split
 .exact OL _ _ _
 .simp
theorem LJ s:(DW s).1.length<=64:=by
 unfold DW;split
 .exact OL _ _ _
 .simp
theorem RU{n}(h:E6 n=true):n.length<=64:=by
 have ⟨_,_,h1,h2⟩:=HZ h;have a:n.length<=(IM n).length+1:=by unfold IM;grind
 rw[K4,Ajd] at a;have b:(Sq n).length<=(BC n).length+1:=by unfold BC;grind
 omega
theorem OR L (a:M1 L)(n st:Aa)(v:n.length<=2^30):Ak π O 116 [L.enc,.s n,.s st] [] (.tup [.s (Dc L n st).1,.i .i64 (Dc L n st).2]) []:=by
 have b:=I3 O n (by omega);have l:=AcS O n (by omega);have m:=Aet O n (by omega);have l1:=EQ L a (DY n).1 (L9 n);have x:=EQ L a (DW n).1 (LJ n);have q:=NK O L a (DY n).1 (L9 n);have t2:=NK O L a (DW n).1 (LJ n);have k:=a.perc;generalize hS:Dc L n st=S;unfold Dc N9 Ob at hS;rw[Du.enc_eq];generalize FX L (DY n).1=t at *;generalize FX L (DW n).1=u at *;generalize(DY n).1=y at *;generalize(DY n).2=o at *;generalize(DW n).1=z at *;generalize(DW n).2=p at *;refine Ac (vs:=[.s S.1,.i .i64 S.2]) AjE (by simp) (by simp) λn0 j=>?_;clear j;simp only[push_cast,seval];cases hB:E6 n with
 | false=>
  rw[hB] at b hS;simp only[bq,AbA] at hS;subst hS;repeat' (first|(first|(apply AL<;>intro _h)|refine Ab b ?_|refine As (by omega) ?_)<;>simp only[push_cast,seval]|intro _)
  refine Ah ?_;simp[push_cast]
 | true=>
  have t0:=NK O L a n (RU hB);have w:=EQ L a n (RU hB);generalize FX L n=r at *;rw[hB] at b hS;cases c:(st==([]:Aa))<;>cases d:(st==([105,110,116,101,103,101,114]:Aa))<;>cases e:(st==([112,101,114,99,101,110,116]:Aa))<;>cases f:(L.dec==([]:Aa))<;>cases g:(o==0)<;>cases h:(p==0)
  all_goals (try simp only[c,d,e,f,g,h,bq,AbA,Ab9,rn,reduceCtorEq,Azx,AzQ,A0e,A0j,A0T,A1r,bne] at hS;subst hS)
  all_goals repeat' (first|((apply AL<;>intro _h)<;>simp only[push_cast,seval,_h,c,d,e,f,g,h,bne])|((first|refine Ab (by exact b) ?_|refine Ab (by exact l) ?_|refine Ab (by exact m) ?_|refine Ab (by exact t0) ?_|refine Ab (by exact q) ?_|refine Ab (by exact t2) ?_|refine As (by simp only[Ajd,An9,AtX,AG]<;>omega) ?_);simp only[push_cast,seval,c,d,e,f,g,h,bne])|intro _)
  all_goals (exact Gj)
end Go.Ir

namespace Go.Ir
open Go.Proofs
variable{P:Program}{O:World}{nt n:Nat}{Q:Exit→St→Prop}{env:BB}{σ:Aq}
def Abj:IC:=oR [o1 3 (.msl false 9 1 [.c (.s [121]),.c (.s [77]),.c (.s [77,77]),.c (.s [77,77,77]),.c (.s [69]),.c (.s [100]),.c (.s [100,100])]),m1 4 0,q2 5 53 3 4,m1 2 5] [2]
def jF:IC:=oS [mC 2 (.b false)] [0] Abj
def AtC:List R:=[.t 2]
def Aya:=An Abj.eq_1<|AR jF.eq_1
theorem Amb:Ao π 285 6 jF AtC=true:=by kernel_rfl
def Z9:IC:=sQ (oS [m1 29 9,q1 30 285 29,nT 31 30] [4,8,9,11,12,13,31] (cD 31 (oR [mC 2 .nil,mZ 3 3] [2,3]) .skip)) (oP [m1 32 4,m1 33 9,o1 34 (.msl false 9 1 [.t 33]),o1 35 (.app (.t 32) (.t 34) 9 1),m1 36 8,m1 4 35,m1 5 36] [4,5,11,12,13])
def Y1:IC:=oS [m1 20 5,m1 21 5,nS 22 21,m1 23 8,nS 24 23,bT 25 .sub 22 24,o1 26 (.slS (.t 20) none (some (.t 25))),m1 9 26] [4,5,8,9,11,12,13] (sQ (oS [m1 27 9,bC 28 .eql 27 (.s [])] [4,5,8,9,11,12,13,28] (cD 28 (.exit 1) .skip)) Z9)
def XV:IC:=sQ (.block 1 (oS [iA 15 11 13 9 1,l1 16 15,m1 7 16] [4,5,7,11,12,13] (oS [m1 17 5,m1 18 7,q2 19 237 17 18,m1 8 19] [4,5,8,11,12,13] Y1))) (oP [bZ 37 .add 13 1,m1 13 37] [4,5,11,12,13])
def XJ:IC:=sQ (oS [m1 38 5,bC 39 .neq 38 (.s []),m1 40 39,BU 41 40 4,gF 42 40 (.lenL (.t 41)),Fg 43 40 .eql 42 0,pO 44 40 43] [4,44] (cD 44 (oR [mC 2 .nil,mZ 3 3] [2,3]) .skip)) (sQ (.wk (oP [m1 45 4,m1 2 45,mZ 3 0] [2,3])) .ret)
def zY:IC:=sQ (oS [o1 11 (.msl false 9 1 [.c (.s [121]),.c (.s [77]),.c (.s [69]),.c (.s [100])]),nL 12 11,mZ 13 0] [4,5,11,12,13] (.block 0 (.loop (oS [bT 14 .lss 13 12] [4,5,11,12,13,14] (sQ (cD 14 .skip (.exit 0)) XV))))) XJ
def xX:IC:=oS [mC 2 .nil,mZ 3 0] [0] (oS [mC 4 .nil] [0,4] (oS [m1 10 0,m1 5 10] [4,5] zY))
def AsQ:List R:=[.t 2,.t 3]
def AyJ:=An Z9.eq_1<|An Y1.eq_1<|An XV.eq_1<|An XJ.eq_1<|An zY.eq_1<|AR xX.eq_1
theorem Alc:Ao π 270 46 xX AsQ=true:=by kernel_rfl
def ZW:IC:=sQ (oS [m1 20 6,q1 21 285 20,nT 22 21] [4,5,6,22] (cD 22 (oR [mC 2 .nil,mC 3 (.b false)] [2,3]) .skip)) (oS [m1 23 4,m1 24 6,o1 25 (.msl false 9 1 [.t 24]),o1 26 (.app (.t 23) (.t 25) 9 1),m1 27 5,m1 4 26,m1 0 27] [0,4] (.exit 1))
def Zb:IC:=sQ (oS [m1 11 0,m1 12 0,nS 13 12,m1 14 5,nS 15 14,bT 16 .sub 13 15,o1 17 (.slS (.t 11) none (some (.t 16))),m1 6 17] [0,4,5,6] (oS [m1 18 6,bC 19 .neq 18 (.s [])] [0,4,5,6,19] (cD 19 ZW .skip))) (oP [m1 28 0,o1 29 (.slS (.t 28) (some (ci 1)) none),m1 0 29] [0,4])
def X6:IC:=.block 1 (oS [m1 9 0,o1 10 (.call 237 [.t 9,.c (.s [65,66,67,68,69,70,71,72,73,74,75,76,77,78,79,80,81,82,83,84,85,86,87,88,89,90,97,98,99,100,101,102,103,104,105,106,107,108,109,110,111,112,113,114,115,116,117,118,119,120,121,122])]),m1 5 10] [0,4,5] Zb)
def iW:IC:=oS [mC 4 .nil] [0,4] (sQ (.block 0 (.loop (sQ (oS [m1 7 0,bC 8 .neq 7 (.s [])] [0,4,8] (cD 8 .skip (.exit 0))) X6))) (sQ (.wk (oP [m1 30 4,m1 2 30,mC 3 (.b true)] [2,3])) .ret))
def AaJ:IC:=oS [mC 2 .nil,mC 3 (.b false)] [0] iW
def AsB:List R:=[.t 2,.t 3]
def Ayn:=An ZW.eq_1<|An Zb.eq_1<|An X6.eq_1<|An iW.eq_1<|AR AaJ.eq_1
theorem Amg:Ao π 271 31 AaJ AsB=true:=by kernel_rfl
def Zr:IC:=oP [m1 14 4,m1 15 6,o1 16 (.slS (.t 15) none (some (ci 1))),o1 17 (.msl false 9 1 [.t 16]),o1 18 (.app (.t 14) (.t 17) 9 1),m1 4 18] [4,8,9,10]
def Abk:IC:=oS [bT 11 .lss 10 9] [4,8,9,10,11] (sQ (cD 11 .skip (.exit 0)) (sQ (.block 1 (oS [iA 12 8 10 9 1,l1 13 12,m1 6 13] [4,6,8,9,10] Zr)) (oP [bZ 19 .add 10 1,m1 10 19] [4,8,9,10])))
def ZO:IC:=sQ (.opx [m1 22 4,o1 23 (.calln 51 [.t 22])] [4,23] 24 286 [.t 23] [m1 7 24] [4,7]) (sQ (.wk (oP [m1 25 7,o1 26 (.call 239 [.t 25,.c (.s [])]),m1 27 7,nL 28 27,m1 29 4,nL 30 29,bT 31 .eql 28 30,m1 2 26,m1 3 31] [2,3])) .ret)
def oM:IC:=oS [mC 2 (.s []),mC 3 (.b false)] [0] (oS [mC 4 .nil] [0,4] (sQ (oS [m1 8 0,nL 9 8,mZ 10 0] [4,8,9,10] (.block 0 (.loop Abk))) (oS [m1 20 4,o1 21 (.calls 71 [.t 20])] [4] ZO)))
def Apk:List R:=[.t 2,.t 3]
def Ayu:=An Zr.eq_1<|An Abk.eq_1<|An ZO.eq_1<|AR oM.eq_1
theorem Alr:Ao π 272 32 oM Apk=true:=by kernel_rfl
def aO:IC:=oS [m1 40 7,q1 41 272 40,m1 39 41,xT 42 39 0,xT 43 39 1,m1 11 42,m1 12 43] [9,11,12] (oR [m1 44 12,m1 45 44,BY 46 45 9,BY 47 45 11,gT 48 45 (.bin .eql (.t 46) (.t 47)),pA 49 45 48,m1 4 49] [4])
def oB:IC:=sQ (oS [m1 23 6,bZ 24 .neq 23 0,m1 25 24,BU 26 25 8,gF 27 25 (.not (.t 26)),pO 28 25 27,m1 29 28,BU 30 29 7,gF 31 29 (.lenL (.t 30)),Fg 32 29 .eql 31 0,pO 33 29 32] [5,7,33] (cD 33 (oR [mC 4 (.b false)] [4]) .skip)) (oS [m1 35 5,q1 36 272 35,m1 34 36,xT 37 34 0,xT 38 34 1,m1 9 37,m1 10 38] [7,9] aO)
def jA:IC:=oS [m1 14 0,q1 15 270 14,m1 13 15,xT 16 13 0,xT 17 13 1,m1 5 16,m1 6 17] [1,5,6] (oS [m1 19 1,q1 20 271 19,m1 18 20,xT 21 18 0,xT 22 18 1,m1 7 21,m1 8 22] [5,6,7,8] oB)
def uD:IC:=oS [mC 4 (.b false)] [0,1] jA
def Asm:List R:=[.t 4]
def AxT:=An aO.eq_1<|An oB.eq_1<|An jA.eq_1<|AR uD.eq_1
theorem RX:Ao π 248 50 uD Asm=true:=by kernel_rfl
def ZQ:IC:=sQ (oS [m1 21 0,m1 22 6,q2 23 241 21 22,bZ 24 .neq 23 1] [0,6,13,14,24] (cD 24 (oR [mC 4 (.b false)] [4]) .skip)) (oP [m1 25 0,m1 26 6,o1 27 (.call 205 [.t 25,.t 26,.c (.s [0]),ci 1]),m1 0 27] [0,13,14])
def Y0:IC:=sQ (.block 1 (oS [m1 16 14,m1 5 16] [0,5,13,14] (oS [m1 17 5,q1 18 213 17,o1 19 (.bin .add (.c (.s [123])) (.t 18)),bC 20 .add 19 (.s [125]),m1 6 20] [0,6,13,14] ZQ))) (oP [bZ 28 .add 14 1,m1 14 28] [0,13,14])
def lR:IC:=sQ (oS [m1 13 1,mZ 14 0] [0,13,14] (.block 0 (.loop (oS [bT 15 .lss 14 13] [0,13,14,15] (sQ (cD 15 .skip (.exit 0)) Y0))))) (oR [m1 29 0,o1 30 (.call 242 [.t 29,.c (.s [123,125])]),nT 31 30,m1 4 31] [4])
def yV:IC:=oS [mC 4 (.b false)] [0,1] (sQ (oS [m1 7 1,bZ 8 .lss 7 1,m1 9 8,BU 10 9 1,Fg 11 9 .gtr 10 9,pO 12 9 11] [0,1,12] (cD 12 (oR [mC 4 (.b false)] [4]) .skip)) lR)
def AqK:List R:=[.t 4]
def Azf:=An ZQ.eq_1<|An Y0.eq_1<|An lR.eq_1<|AR yV.eq_1
theorem Amd:Ao π 204 32 yV AqK=true:=by kernel_rfl
def t7:IC:=oR [m1 3 0,bZ 4 .rem 3 4,bZ 5 .eql 4 0,m1 6 5,BY 7 6 0,Gi 8 6 .rem 7 100,Gi 9 6 .neq 8 0,pA 10 6 9,m1 11 10,BU 12 11 0,Fg 13 11 .rem 12 400,Fg 14 11 .eql 13 0,pO 15 11 14,m1 2 15] [2]
def uL:IC:=oS [mC 2 (.b false)] [0] t7
def Aq3:List R:=[.t 2]
def Azo:=An t7.eq_1<|AR uL.eq_1
theorem Amr:Ao π 269 16 uL Aq3=true:=by kernel_rfl
def Aax:IC:=oR [o1 11 (.build [.i .i64 0,.i .i64 0,.i .i64 0,.i .i64 0,.i .i64 0,.i .i64 0,.i .i64 0,.i .i64 0,.i .i64 0,.i .i64 0,.i .i64 0,.i .i64 0] [(0,1,ci 31),(1,1,ci 28),(2,1,ci 31),(3,1,ci 30),(4,1,ci 31),(5,1,ci 30),(6,1,ci 31),(7,1,ci 31),(8,1,ci 30),(9,1,ci 31),(10,1,ci 30),(11,1,ci 31)]),m1 12 1,bZ 13 .sub 12 1,o1 14 (.pu (.aget 12 1 false) [.t 11,.t 13]),m1 4 14] [4]
def v8:IC:=oS [mZ 4 0] [0,1] (sQ (oS [m1 5 1,bZ 6 .eql 5 2,m1 7 6,BY 8 7 0,gT 9 7 (.call 269 [.t 8]),pA 10 7 9] [1,10] (cD 10 (oR [mZ 4 29] [4]) .skip)) Aax)
def Aqb:List R:=[.t 4]
def AyU:=An Aax.eq_1<|AR v8.eq_1
theorem AkI:Ao π 245 15 v8 Aqb=true:=by kernel_rfl
def wV:IC:=oS [mZ 2 0] [0] (sQ (oS [m1 3 0,q1 4 269 3] [4] (cD 4 (oR [mZ 2 366] [2]) .skip)) (oR [mZ 2 365] [2]))
def AtK:List R:=[.t 2]
def Ayt:=AR wV.eq_1
theorem Am8:Ao π 244 5 wV AtK=true:=by kernel_rfl
def Xt:IC:=sQ (oS [m1 14 4,m1 15 2,q1 16 244 15,bT 17 .geq 14 16] [2,3,4,17] (cD 17 .skip (.exit 0))) (.block 1 (oS [m1 18 4,m1 19 2,q1 20 244 19,bT 21 .sub 18 20,m1 4 21] [2,3,4] (oP [m1 22 2,bZ 23 .add 22 1,m1 2 23] [2,3,4])))
def ZI:IC:=sQ (oS [m1 24 4,m1 25 2,m1 26 3,q2 27 245 25 26,bT 28 .geq 24 27] [2,3,4,28] (cD 28 .skip (.exit 2))) (.block 3 (oS [m1 29 4,m1 30 2,m1 31 3,q2 32 245 30 31,bT 33 .sub 29 32,m1 4 33] [2,3,4] (oP [m1 34 3,bZ 35 .add 34 1,m1 3 35] [2,3,4])))
def xG:IC:=oS [m1 12 0,bZ 13 .sub 12 (-25567),mZ 2 1900,mZ 3 1,m1 4 13] [2,3,4] (sQ (.block 0 (.loop Xt)) (sQ (.block 2 (.loop ZI)) (oR [m1 36 2,m1 37 3,m1 38 4,bZ 39 .add 38 1,m1 2 36,m1 3 37,m1 4 39,mZ 5 0] [2,3,4,5])))
def tE:IC:=sQ (oS [m1 6 0,bZ 7 .lss 6 (-25567),m1 8 7,BU 9 8 0,Fg 10 8 .gtr 9 84005,pO 11 8 10] [0,11] (cD 11 (oR [mZ 2 0,mZ 3 0,mZ 4 0,mZ 5 2] [2,3,4,5]) .skip)) xG
def lG:IC:=oS [mZ 2 0,mZ 3 0,mZ 4 0,mZ 5 0] [0] tE
def Api:List R:=[.t 2,.t 3,.t 4,.t 5]
def AxO:=An Xt.eq_1<|An ZI.eq_1<|An xG.eq_1<|An tE.eq_1<|AR lG.eq_1
theorem zQ:Ao π 206 40 lG Api=true:=by kernel_rfl
def vP:IC:=sQ (oS [m1 4 0,bZ 5 .lss 4 (-25567),m1 6 5,BU 7 6 0,Fg 8 6 .gtr 7 84005,pO 9 6 8] [0,9] (cD 9 (oR [mZ 2 0,mZ 3 2] [2,3]) .skip)) (oR [m1 10 0,bZ 11 .sub 10 (-25567),bZ 12 .rem 11 7,m1 2 12,mZ 3 0] [2,3])
def wW:IC:=oS [mZ 2 0,mZ 3 0] [0] vP
def Aug:List R:=[.t 2,.t 3]
def Ayz:=An vP.eq_1<|AR wW.eq_1
theorem Aj2:Ao π 209 13 wW Aug=true:=by kernel_rfl
def qJ:IC:=sQ (oS [m1 3 0,bZ 4 .lss 3 10] [0,4] (cD 4 (oR [m1 5 0,q1 6 213 5,o1 7 (.bin .add (.c (.s [48])) (.t 6)),m1 2 7] [2]) .skip)) (oR [m1 8 0,q1 9 213 8,m1 2 9] [2])
def uM:IC:=oS [mC 2 (.s [])] [0] qJ
def Aqt:List R:=[.t 2]
def AyM:=An qJ.eq_1<|AR uM.eq_1
theorem An4:Ao π 214 10 uM Aqt=true:=by kernel_rfl
def Z0:IC:=oR [m1 16 3,q1 17 213 16,bC 18 .add 17 (.s [45]),m1 19 4,q1 20 214 19,bT 21 .add 18 20,bC 22 .add 21 (.s [45]),m1 23 5,q1 24 214 23,bT 25 .add 22 24,m1 2 25] [2]
def jB:IC:=oS [m1 8 0,q1 9 206 8,m1 7 9,xT 10 7 0,xT 11 7 1,xT 12 7 2,xT 13 7 3,m1 3 10,m1 4 11,m1 5 12,m1 6 13] [3,4,5,6] (sQ (oS [m1 14 6,bZ 15 .neq 14 0] [3,4,5,15] (cD 15 (oR [mC 2 (.s [])] [2]) .skip)) Z0)
def qO:IC:=oS [mC 2 (.s [])] [0] jB
def ArH:List R:=[.t 2]
def AyK:=An Z0.eq_1<|An jB.eq_1<|AR qO.eq_1
theorem iN:Ao π 165 26 qO ArH=true:=by kernel_rfl
def XR:IC:=sQ (.block 1 (oS [iA 21 17 19 9 1,l1 22 21,m1 8 22] [6,8,17,18,19] (oP [m1 23 6,m1 24 8,o1 25 (.slS (.t 24) none (some (ci 1))),m1 26 8,nS 27 26,o0 (.wrm (.mput .str) (.t 23) [.t 25,.t 27])] [6,17,18,19]))) (oP [bZ 28 .add 19 1,m1 19 28] [6,17,18,19])
def Zx:IC:=sQ (oS [m1 17 4,nL 18 17,mZ 19 0] [6,17,18,19] (.block 0 (.loop (oS [bT 20 .lss 19 18] [6,17,18,19,20] (sQ (cD 20 .skip (.exit 0)) XR))))) (oR [m1 29 6,m1 2 29,mC 3 (.b true)] [2,3])
def yN:IC:=sQ (oS [m1 14 5,bZ 15 .neq 14 0] [4,15] (cD 15 (oR [mC 2 .nm,mC 3 (.b false)] [2,3]) .skip)) (oS [o1 16 (.mkm .mkmap []),m1 6 16] [4,6] Zx)
def jW:IC:=oS [mC 2 .nm,mC 3 (.b false)] [0] (oS [m1 10 0,q1 11 270 10,m1 9 11,xT 12 9 0,xT 13 9 1,m1 4 12,m1 5 13] [4,5] yN)
def Asf:List R:=[.t 2,.t 3]
def Azd:=An XR.eq_1<|An Zx.eq_1<|An yN.eq_1<|AR jW.eq_1
theorem z7:Ao π 246 30 jW Asf=true:=by kernel_rfl
def Zs:IC:=oP [m1 26 6,m1 27 8,m1 28 9,bT 29 .sub 27 28,m1 30 9,m1 31 8,bT 32 .sub 30 31,o1 33 (.mx false (.t 29) [.t 32]),bT 34 .add 26 33,m1 6 34] [0,1,6,12]
def Y2:IC:=oS [m1 19 1,m1 20 7,o1 21 (.rdm (.mget .str (.i .i64 0) true) (.t 19) [.t 20]),m1 18 21,xT 22 18 0,xT 23 18 1,m1 9 22,m1 10 23] [0,1,6,8,9,10,12] (sQ (oS [m1 24 10,nT 25 24] [0,1,6,8,9,12,25] (cD 25 (oR [mZ 4 0,mC 5 (.b false)] [4,5]) .skip)) Zs)
def wJ:IC:=sQ (.mnext 13 14 (.t 12) [0,1,6,12,14]) (sQ (cD 14 .skip (.exit 0)) (.block 1 (oS [o1 15 (.mentry (.t 12)),xT 16 15 0,xT 17 15 1,m1 7 16,m1 8 17] [0,1,6,7,8,12] Y2)))
def lN:IC:=sQ (oS [m1 11 0,o1 12 (.mrange (.t 11))] [0,1,6,12] (.block 0 (.loop wJ))) (oR [m1 35 6,m1 36 0,o1 37 (.rdm .mlen (.t 36) []),m1 38 1,o1 39 (.rdm .mlen (.t 38) []),bT 40 .eql 37 39,m1 4 35,m1 5 40] [4,5])
def xW:IC:=oS [mZ 4 0,mC 5 (.b false)] [0,1] (oS [mZ 6 0] [0,1,6] lN)
def AoG:List R:=[.t 4,.t 5]
def AyG:=An Zs.eq_1<|An Y2.eq_1<|An wJ.eq_1<|An lN.eq_1<|AR xW.eq_1
theorem AmW:Ao π 247 41 xW AoG=true:=by kernel_rfl
def aN:IC:=oS [m1 44 15,m1 45 44,BY 46 45 8,Gi 47 45 .lss 46 0,BY 48 45 47,BU 49 48 14,BU 50 48 9,gF 51 48 (.bin .lss (.t 49) (.t 50)),gT 52 45 (.pick (.t 48) (.c (.b true)) (.t 51)),pA 53 45 52] [6,8,9,10,14,23,24,25,53] (cD 53 (oP [m1 54 10,m1 55 14,m1 8 54,m1 9 55] [6,8,9,23,24,25]) .skip)
def YP:IC:=sQ (oS [m1 36 13,nT 37 36] [6,8,9,10,12,23,24,25,37] (cD 37 (.exit 1) .skip)) (oS [m1 39 6,m1 40 12,o1 41 (.callr 247 [.t 39,.t 40]),m1 38 41,xT 42 38 0,xT 43 38 1,m1 14 42,m1 15 43] [6,8,9,10,14,15,23,24,25] aN)
def XZ:IC:=sQ (.opx [fA 31 11 0,l1 32 31] [6,8,9,10,23,24,25,32] 33 246 [.t 32] [m1 30 33,xT 34 30 0,xT 35 30 1,m1 12 34,m1 13 35] [6,8,9,10,12,13,23,24,25]) YP
def X7:IC:=sQ (.block 1 (oS [m1 27 25,iA 28 23 25 197 2,lA 29 28 2,o1 11 (.alloc (.agg [.s [],.s []])),m1 10 27,sT 11 29 2] [6,8,9,10,11,23,24,25] XZ)) (oP [bZ 56 .add 25 1,m1 25 56] [6,8,9,23,24,25])
def XY:IC:=sQ (oS [m1 23 0,nL 24 23,mZ 25 0] [6,8,9,23,24,25] (.block 0 (.loop (oS [bT 26 .lss 25 24] [6,8,9,23,24,25,26] (sQ (cD 26 .skip (.exit 0)) X7))))) (sQ (oS [m1 57 8,bZ 58 .lss 57 0] [8,58] (cD 58 (oR [mZ 4 0,mZ 5 8] [4,5]) .skip)) (oR [m1 59 8,m1 4 59,mZ 5 0] [4,5]))
def kH:IC:=sQ (.opx [m1 17 1] [0,17] 18 246 [.t 17] [m1 16 18,xT 19 16 0,xT 20 16 1,m1 6 19,m1 7 20] [0,6,7]) (sQ (oS [m1 21 7,nT 22 21] [0,6,22] (cD 22 (oR [mZ 4 0,mZ 5 3] [4,5]) .skip)) (oS [mZ 8 (-1),mZ 9 0] [0,6,8,9] XY))
def zA:IC:=oS [mZ 4 0,mZ 5 0] [0,1] kH
def Arz:List R:=[.t 4,.t 5]
def Ay3:=An aN.eq_1<|An YP.eq_1<|An XZ.eq_1<|An X7.eq_1<|An XY.eq_1<|An kH.eq_1<|AR zA.eq_1
theorem xQ:Ao π 207 60 zA Arz=true:=by kernel_rfl
def xH:IC:=oR [m1 3 0,bC 4 .geq 3 (.i .u8 65),m1 5 4,BY 6 5 0,gT 7 5 (.bin .leq (.t 6) (.c (.i .u8 90))),pA 8 5 7,m1 9 8,BU 10 9 0,gF 11 9 (.bin .geq (.t 10) (.c (.i .u8 97))),BU 12 9 11,BY 13 12 0,gT 14 12 (.bin .leq (.t 13) (.c (.i .u8 122))),gF 15 9 (.pick (.t 12) (.t 14) (.c (.b false))),pO 16 9 15,m1 2 16] [2]
def zF:IC:=oS [mC 2 (.b false)] [0] xH
def Aqa:List R:=[.t 2]
def Ayw:=An xH.eq_1<|AR zF.eq_1
theorem An2:Ao π 249 17 zF Aqa=true:=by kernel_rfl
def Xo:IC:=oS [m1 35 4,m1 36 6,bT 37 .add 35 36,m1 38 8,bT 39 .add 37 38,m1 40 10,bT 41 .add 39 40,m1 42 0,q2 43 248 41 42] [0,4,6,8,11,12,13,17,18,19,23,24,25,29,30,31,43] (cD 43 (oR [mC 2 (.b true)] [2]) .skip)
def XT:IC:=sQ (.block 7 (oS [iA 33 29 31 9 1,l1 34 33,m1 10 34] [0,4,6,8,10,11,12,13,17,18,19,23,24,25,29,30,31] Xo)) (oP [bZ 44 .add 31 1,m1 31 44] [0,4,6,8,11,12,13,17,18,19,23,24,25,29,30,31])
def XE:IC:=oS [o1 29 (.msl false 9 1 [.c (.s []),.c (.s [100])]),nL 30 29,mZ 31 0] [0,4,6,8,11,12,13,17,18,19,23,24,25,29,30,31] (.block 6 (.loop (oS [bT 32 .lss 31 30] [0,4,6,8,11,12,13,17,18,19,23,24,25,29,30,31,32] (sQ (cD 32 .skip (.exit 6)) XT))))
def ZJ:IC:=sQ (.block 5 (oS [iA 27 23 25 9 1,l1 28 27,m1 8 28] [0,4,6,8,11,12,13,17,18,19,23,24,25] XE)) (oP [bZ 45 .add 25 1,m1 25 45] [0,4,6,11,12,13,17,18,19,23,24,25])
def XU:IC:=oS [o1 23 (.msl false 9 1 [.c (.s []),.c (.s [69])]),nL 24 23,mZ 25 0] [0,4,6,11,12,13,17,18,19,23,24,25] (.block 4 (.loop (oS [bT 26 .lss 25 24] [0,4,6,11,12,13,17,18,19,23,24,25,26] (sQ (cD 26 .skip (.exit 4)) ZJ))))
def XF:IC:=sQ (.block 3 (oS [iA 21 17 19 9 1,l1 22 21,m1 6 22] [0,4,6,11,12,13,17,18,19] XU)) (oP [bZ 46 .add 19 1,m1 19 46] [0,4,11,12,13,17,18,19])
def Xm:IC:=oS [o1 17 (.msl false 9 1 [.c (.s []),.c (.s [77])]),nL 18 17,mZ 19 0] [0,4,11,12,13,17,18,19] (.block 2 (.loop (oS [bT 20 .lss 19 18] [0,4,11,12,13,17,18,19,20] (sQ (cD 20 .skip (.exit 2)) XF))))
def pK:IC:=oS [bT 14 .lss 13 12] [0,11,12,13,14] (sQ (cD 14 .skip (.exit 0)) (sQ (.block 1 (oS [iA 15 11 13 9 1,l1 16 15,m1 4 16] [0,4,11,12,13] Xm)) (oP [bZ 47 .add 13 1,m1 13 47] [0,11,12,13])))
def Aa8:IC:=sQ (oS [o1 11 (.msl false 9 1 [.c (.s []),.c (.s [121])]),nL 12 11,mZ 13 0] [0,11,12,13] (.block 0 (.loop pK))) (oR [mC 2 (.b false)] [2])
def mL:IC:=oS [mC 2 (.b false)] [0] Aa8
def Asu:List R:=[.t 2]
def Azk:=An Xo.eq_1<|An XT.eq_1<|An XE.eq_1<|An ZJ.eq_1<|An XU.eq_1<|An XF.eq_1<|An Xm.eq_1<|An pK.eq_1<|An Aa8.eq_1<|AR mL.eq_1
theorem AnB:Ao π 208 48 mL Asu=true:=by kernel_rfl
def aS:IC:=sQ (oS [fA 24 2 0,fA 25 24 14,l1 26 25,nL 27 26,bZ 28 .neq 27 12] [2,28] (cD 28 (oR [mC 4 (.s []),mZ 5 18] [4,5]) .skip)) (oR [fA 29 2 0,fA 30 29 14,l1 31 30,fA 32 2 17,l1 33 32,bZ 34 .sub 33 1,iA 35 31 34 9 1,l1 36 35,m1 4 36,mZ 5 0] [4,5])
def YA:IC:=sQ (oS [fA 39 2 0,fA 40 39 15,l1 41 40,nL 42 41,bZ 43 .neq 42 7] [2,43] (cD 43 (oR [mC 4 (.s []),mZ 5 18] [4,5]) .skip)) (oR [fA 44 2 0,fA 45 44 15,l1 46 45,fA 47 2 19,l1 48 47,iA 49 46 48 9 1,l1 50 49,m1 4 50,mZ 5 0] [4,5])
def Zj:IC:=oS [bC 38 .eql 6 (.s [69]),m1 37 38] [2,6,37] (cD 37 YA (oS [bC 52 .eql 6 (.s [100]),m1 51 52] [2,51] (cD 51 (oR [fA 53 2 18,l1 54 53,q1 55 213 54,m1 4 55,mZ 5 0] [4,5]) .skip)))
def aV:IC:=oS [bC 18 .eql 6 (.s [77,77]),m1 17 18] [2,6,17] (cD 17 (oR [fA 19 2 17,l1 20 19,q1 21 214 20,m1 4 21,mZ 5 0] [4,5]) (oS [bC 23 .eql 6 (.s [77,77,77]),m1 22 23] [2,6,22] (cD 22 aS Zj)))
def pC:IC:=.block 0 (oS [bC 8 .eql 6 (.s [121]),m1 7 8] [2,6,7] (cD 7 (oR [fA 9 2 16,l1 10 9,q1 11 213 10,m1 4 11,mZ 5 0] [4,5]) (oS [bC 13 .eql 6 (.s [77]),m1 12 13] [2,6,12] (cD 12 (oR [fA 14 2 17,l1 15 14,q1 16 213 15,m1 4 16,mZ 5 0] [4,5]) aV))))
def vH:IC:=oS [bX 2 0,mC 4 (.s []),mZ 5 0] [1,2] (sQ (oS [m1 6 1] [2,6] pC) (oR [fA 56 2 18,l1 57 56,q1 58 214 57,m1 4 58,mZ 5 0] [4,5]))
def AqA:List R:=[.t 4,.t 5]
def Ayg:=An aS.eq_1<|An YA.eq_1<|An Zj.eq_1<|An aV.eq_1<|An pC.eq_1<|AR vH.eq_1
theorem AmY:Ao π 250 59 vH AqA=true:=by kernel_rfl
def Rq:IC:=sQ (oS [m1 12 7,m1 13 1,nS 14 13,bT 15 .lss 12 14,m1 16 15,BY 17 16 1,BY 18 16 7,gT 19 16 (.idx (.t 17) (.t 18)),gT 20 16 (.call 249 [.t 19]),pA 21 16 20] [1,2,6,7,21] (cD 21 .skip (.exit 2))) (.block 3 (oP [m1 22 7,bZ 23 .add 22 1,m1 7 23] [1,2,6,7]))
def Yc:IC:=sQ (.opx [m1 26 1,o1 27 (.idx (.t 26) (ci 0))] [1,2,6,27] 28 123 [.t 6,.t 27] [] [1,2,6]) (oS [m1 29 1,o1 30 (.slS (.t 29) (some (ci 1)) none),m1 1 30] [1,2,6] (.exit 1))
def XQ:IC:=sQ (.opx [m1 42 8] [1,2,6,7,42] 43 152 [.t 6,.t 42] [] [1,2,6,7]) (oP [m1 44 1,m1 45 7,o1 46 (.slS (.t 44) (some (.t 45)) none),m1 1 46] [1,2,6])
def Y3:IC:=sQ (.ops [lA 32 2 20,m1 33 1,m1 34 7,o1 35 (.slS (.t 33) none (some (.t 34))),q2 36 250 32 35,m1 31 36,xT 37 31 0,xT 38 31 1,m1 8 37,m1 9 38] [1,2,6,7,8,9] [[1,3],[2,3],[0,4],[3,4],[4,5],[5,6],[5,7],[6,8],[7,9]]) (sQ (oS [m1 39 9,bZ 40 .neq 39 0] [1,2,6,7,8,9,40] (cD 40 (oR [m1 41 9,mC 4 (.s []),m1 5 41] [4,5]) .skip)) XQ)
def Yu:IC:=.block 1 (oS [mZ 7 0] [1,2,6,7] (sQ (.block 2 (.loop Rq)) (sQ (oS [m1 24 7,bZ 25 .eql 24 0] [1,2,6,7,25] (cD 25 Yc .skip)) Y3)))
def qU:IC:=sQ (.block 0 (.loop (sQ (oS [m1 10 1,bC 11 .neq 10 (.s [])] [1,2,6,11] (cD 11 .skip (.exit 0))) Yu))) (oR [o1 47 (.calls 60 [.t 6]),m1 4 47,mZ 5 0] [4,5])
def xN:IC:=oS [bX 2 0,mC 4 (.s []),mZ 5 0] [1,2] (oS [o1 6 (.mkm (.tnew 134 (.agg [.np,.nil])) [])] [1,2,6] qU)
def Aqi:List R:=[.t 4,.t 5]
def AxX:=An Rq.eq_1<|An Yc.eq_1<|An XQ.eq_1<|An Y3.eq_1<|An Yu.eq_1<|An qU.eq_1<|AR xN.eq_1
theorem Aof:Ao π 210 48 xN Aqi=true:=by kernel_rfl
def Xq:IC:=oS [fA 40 3 13,l1 41 40,m1 42 12,iA 43 41 42 197 2,fA 44 43 1,l1 45 44,q1 46 208 45,nT 47 46,m1 39 47] [2,3,8,9,10,12,39] (cD 39 (oR [mC 6 (.s []),mZ 7 4] [6,7]) .skip)
def XC:IC:=cD 32 (oR [mC 6 (.s []),mZ 7 18] [6,7]) (oS [m1 36 11,bZ 37 .neq 36 0,m1 35 37] [2,3,8,9,10,11,12,35] (cD 35 (oR [m1 38 11,mC 6 (.s []),m1 7 38] [6,7]) Xq))
def X1:IC:=sQ (.ops [lA 53 3 16,m1 54 8,m1 55 9,m1 56 10,m1 57 13,o1 58 (.build [.s [],.s [],.s [],.nil,.nil,.s [],.s [],.s [],.s [],.i .i64 0,.i .i64 0,.nil,.nil,.nil,.nil,.nil,.i .i64 0,.i .i64 0,.i .i64 0,.i .i64 0] [(0,16,.t 53),(16,1,.t 54),(17,1,.t 55),(18,1,.t 56),(19,1,.t 57)]),fA 59 3 13,l1 60 59,m1 61 12,iA 62 60 61 197 2,fA 63 62 1,l1 64 63,q2 65 210 58 64,xT 66 65 0,xT 67 65 1,m1 6 66,m1 7 67] [6,7] [[0,5],[1,5],[2,5],[3,5],[4,5],[6,7],[7,9],[8,9],[9,10],[10,11],[5,12],[11,12],[12,13],[12,14],[13,15],[14,16]]) .ret
def Yb:IC:=sQ (.block 0 (oS [m1 33 11,bZ 34 .eql 33 8,m1 32 34] [2,3,8,9,10,11,12,32] XC)) (oS [m1 49 2,q1 50 209 49,m1 48 50,xT 51 48 0,xT 52 48 1,m1 13 51,m1 14 52] [3,8,9,10,12,13] X1)
def tY:IC:=sQ (oS [m1 22 11,bZ 23 .neq 22 0] [1,2,3,8,9,10,11,23] (cD 23 (oR [m1 24 11,mC 6 (.s []),m1 7 24] [6,7]) .skip)) (oS [fA 26 3 13,l1 27 26,m1 28 1,q2 29 207 27 28,m1 25 29,xT 30 25 0,xT 31 25 1,m1 12 30,m1 11 31] [2,3,8,9,10,11,12] Yb)
def Aaz:IC:=oS [bX 3 0,mC 6 (.s []),mZ 7 0] [1,2,3] (oS [m1 16 2,q1 17 206 16,m1 15 17,xT 18 15 0,xT 19 15 1,xT 20 15 2,xT 21 15 3,m1 8 18,m1 9 19,m1 10 20,m1 11 21] [1,2,3,8,9,10,11] tY)
def Atl:List R:=[.t 6,.t 7]
def Azl:=An Xq.eq_1<|An XC.eq_1<|An X1.eq_1<|An Yb.eq_1<|An tY.eq_1<|AR Aaz.eq_1
theorem OW:Ao π 163 68 Aaz Atl=true:=by kernel_rfl
def ZT:IC:=sQ (.block 1 (oS [iA 13 9 11 193 5,lA 14 13 5,o1 7 (.alloc (.agg [.s [],.s [],.s [],.s [],.s []])),sT 7 14 5] [1,4,7,9,10,11] (oS [fA 15 7 0,l1 16 15,m1 17 1,bT 18 .eql 16 17] [1,4,7,9,10,11,18] (cD 18 (oR [lA 19 7 5,sT 4 19 5,mC 5 (.b true)] [4,5]) .skip)))) (oP [bZ 20 .add 11 1,m1 11 20] [1,4,9,10,11])
def o4:IC:=sQ (oS [fA 8 2 11,l1 9 8,nL 10 9,mZ 11 0] [1,4,9,10,11] (.block 0 (.loop (oS [bT 12 .lss 11 10] [1,4,9,10,11,12] (sQ (cD 12 .skip (.exit 0)) ZT))))) (oR [o1 21 (.build [.s [],.s [],.s [],.s [],.s []] []),sT 4 21 5,mC 5 (.b false)] [4,5])
def uZ:IC:=oS [bX 2 0,o1 4 (.alloc (.agg [.s [],.s [],.s [],.s [],.s []])),mC 5 (.b false)] [1,2,4] o4
def ApG:List R:=[.c 4 5 true,.t 5]
def AxW:=An ZT.eq_1<|An o4.eq_1<|AR uZ.eq_1
theorem AkQ:Ao π 211 22 uZ ApG=true:=by kernel_rfl
def Zp:IC:=oS [m1 39 8,o1 40 (.call 107 [.t 39,.c (.s [123,49,125])]),m1 38 40,xT 41 38 0,xT 42 38 1,xT 43 38 2,m1 13 41,m1 14 42,m1 15 43] [1,2,7,13,14] (oR [m1 44 7,m1 45 1,bT 46 .add 44 45,m1 47 13,bT 48 .add 46 47,m1 49 2,bT 50 .add 48 49,m1 51 14,bT 52 .add 50 51,m1 6 52] [6])
def qV:IC:=sQ (oS [m1 23 7,o1 24 (.call 107 [.t 23,.c (.s [123,49,125])]),m1 22 24,xT 25 22 0,xT 26 22 1,xT 27 22 2,m1 10 25,m1 11 26,m1 12 27] [1,2,7,8,10,11,12] (oS [m1 28 12] [1,2,7,8,10,11,28] (cD 28 (oR [m1 29 10,m1 30 2,bT 31 .add 29 30,m1 32 11,bT 33 .add 31 32,m1 34 1,bT 35 .add 33 34,m1 36 8,bT 37 .add 35 36,m1 6 37] [6]) .skip))) Zp
def zH:IC:=oS [m1 17 0,o1 18 (.call 107 [.t 17,.c (.s [123,48,125])]),m1 16 18,xT 19 16 0,xT 20 16 1,xT 21 16 2,m1 7 19,m1 8 20,m1 9 21] [1,2,7,8] qV
def vY:IC:=oS [mC 6 (.s [])] [0,1,2] zH
def AsU:List R:=[.t 6]
def Ayl:=An Zp.eq_1<|An qV.eq_1<|An zH.eq_1<|AR vY.eq_1
theorem jJ:Ao π 251 53 vY AsU=true:=by kernel_rfl
def Z8:IC:=sQ (.block 1 (oS [iA 33 29 31 9 1,l1 34 33,m1 11 34] [2,8,11,29,30,31] (oS [m1 35 11,o1 36 (.call 204 [.t 35,ci 2]),nT 37 36] [2,8,29,30,31,37] (cD 37 (oR [mC 6 (.s []),mZ 7 4] [6,7]) .skip)))) (oP [bZ 38 .add 31 1,m1 31 38] [2,8,29,30,31])
def Y6:IC:=oS [lA 42 8 5,m1 43 2,q2 44 212 42 43,m1 12 44] [12] (sQ (oS [m1 45 12,nS 46 45,bZ 47 .gtr 46 20000] [12,47] (cD 47 (oR [mC 6 (.s []),mZ 7 6] [6,7]) .skip)) (oR [m1 48 12,m1 6 48,mZ 7 0] [6,7]))
def YZ:IC:=sQ (oS [fA 21 8 1,l1 22 21,fA 23 8 2,l1 24 23,fA 25 8 3,l1 26 25,fA 27 8 4,l1 28 27,o1 29 (.msl false 9 1 [.t 22,.t 24,.t 26,.t 28]),nL 30 29,mZ 31 0] [2,8,29,30,31] (.block 0 (.loop (oS [bT 32 .lss 31 30] [2,8,29,30,31,32] (sQ (cD 32 .skip (.exit 0)) Z8))))) (sQ (oS [m1 39 2,nL 40 39,bZ 41 .gtr 40 1000] [2,8,41] (cD 41 (oR [mC 6 (.s []),mZ 7 6] [6,7]) .skip)) Y6)
def rU:IC:=oS [lA 14 3 16,m1 15 1,q2 16 211 14 15,m1 13 16,xT 17 13 0,xT 18 13 1,o1 8 (.alloc (.agg [.s [],.s [],.s [],.s [],.s []])),sT 8 17 5,m1 9 18] [2,8,9] (sQ (oS [m1 19 9,nT 20 19] [2,8,20] (cD 20 (oR [mC 6 (.s []),mZ 7 18] [6,7]) .skip)) YZ)
def Ab2:IC:=oS [bX 3 0,mC 6 (.s []),mZ 7 0] [1,2,3] rU
def Ap2:List R:=[.t 6,.t 7]
def AyB:=An Z8.eq_1<|An Y6.eq_1<|An YZ.eq_1<|An rU.eq_1<|AR Ab2.eq_1
theorem mG:Ao π 164 49 Ab2 Ap2=true:=by kernel_rfl
def Yf:IC:=oS [m1 28 8,nT 29 28] [3,5,6,11,12,13,29] (cD 29 (oP [m1 30 3,lA 31 6 2,fA 32 5 2,l1 33 32,o0 (.wrm (.mput (.st [(0,.str),(1,.str)])) (.t 30) [.t 31,.t 33])] [3,11,12,13]) .skip)
def Yv:IC:=oS [m1 23 3,lA 24 6 2,o1 25 (.rdm (.mget (.st [(0,.str),(1,.str)]) (.s []) true) (.t 23) [.t 24]),m1 22 25,xT 26 22 0,xT 27 22 1,m1 7 26,m1 8 27] [3,5,6,8,11,12,13] Yf
def Xz:IC:=oS [fA 17 5 0,l1 18 17,fA 19 5 1,l1 20 19,o1 21 (.build [.s [],.s []] [(0,1,.t 18),(1,1,.t 20)]),o1 6 (.alloc (.agg [.s [],.s []])),sT 6 21 2] [3,5,6,11,12,13] Yv
def ZG:IC:=sQ (.block 1 (oS [iA 15 11 13 195 3,lA 16 15 3,o1 5 (.alloc (.agg [.s [],.s [],.s []])),sT 5 16 3] [3,5,11,12,13] Xz)) (oP [bZ 34 .add 13 1,m1 13 34] [3,11,12,13])
def AaH:IC:=sQ (oS [fA 10 1 12,l1 11 10,nL 12 11,mZ 13 0] [3,11,12,13] (.block 0 (.loop (oS [bT 14 .lss 13 12] [3,11,12,13,14] (sQ (cD 14 .skip (.exit 0)) ZG))))) (oR [m1 35 3,m1 2 35] [2])
def kA:IC:=oS [bX 1 0,mC 2 .nm] [1] (oS [o1 9 (.mkm .mkmap []),m1 3 9] [1,3] AaH)
def Auk:List R:=[.t 2]
def AxP:=An Yf.eq_1<|An Yv.eq_1<|An Xz.eq_1<|An ZG.eq_1<|An AaH.eq_1<|AR kA.eq_1
theorem AnR:Ao π 240 36 kA Auk=true:=by kernel_rfl
def Y9:IC:=oS [m1 26 8,m1 27 1,o1 28 (.build [.s [],.s []] [(0,1,.t 27),(1,1,.c (.s [111,116,104,101,114]))]),o1 29 (.rdm (.mget (.st [(0,.str),(1,.str)]) (.s []) true) (.t 26) [.t 28]),m1 25 29,xT 30 25 0,xT 31 25 1,m1 11 30,m1 12 31] [11,12] (oR [m1 32 11,m1 33 12,m1 6 32,m1 7 33] [6,7])
def Ab0:IC:=sQ (oS [m1 16 8,m1 17 1,m1 18 2,o1 19 (.build [.s [],.s []] [(0,1,.t 17),(1,1,.t 18)]),o1 20 (.rdm (.mget (.st [(0,.str),(1,.str)]) (.s []) true) (.t 16) [.t 19]),m1 15 20,xT 21 15 0,xT 22 15 1,m1 9 21,m1 10 22] [1,8,9,10] (oS [m1 23 10] [1,8,9,23] (cD 23 (oR [m1 24 9,m1 6 24,mC 7 (.b true)] [6,7]) .skip))) Y9
def wB:IC:=oS [bX 3 0,mC 6 (.s []),mC 7 (.b false)] [1,2,3] (oS [lA 13 3 16,o1 14 (.calln 240 [.t 13]),m1 8 14] [1,2,8] Ab0)
def Auc:List R:=[.t 6,.t 7]
def AyZ:=An Y9.eq_1<|An Ab0.eq_1<|AR wB.eq_1
theorem Al6:Ao π 203 34 wB Auc=true:=by kernel_rfl
def Ys:IC:=cD 30 (oR [mC 6 (.s []),mZ 7 18] [6,7]) (oS [m1 34 10,o1 35 (.call 204 [.t 34,ci 1]),nT 36 35,m1 33 36] [2,3,10,33] (cD 33 (oR [mC 6 (.s []),mZ 7 4] [6,7]) .skip))
def X3:IC:=sQ (oS [m1 43 9,bZ 44 .neq 43 0] [9,10,12,44] (cD 44 (oR [m1 45 9,mC 6 (.s []),m1 7 45] [6,7]) .skip)) (oR [m1 46 10,m1 47 12,o1 48 (.call 205 [.t 46,.c (.s [123,48,125]),.t 47,ci 1]),m1 6 48,mZ 7 0] [6,7])
def Xk:IC:=sQ (.block 0 (oS [m1 31 11,nT 32 31,m1 30 32] [2,3,10,30] Ys)) (oS [lA 38 3 16,m1 39 2,o1 40 (.call 116 [.t 38,.t 39,.c (.s [])]),m1 37 40,xT 41 37 0,xT 42 37 1,m1 12 41,m1 9 42] [9,10,12] X3)
def jR:IC:=sQ (oS [m1 20 9,bZ 21 .neq 20 0] [1,2,3,8,9,21] (cD 21 (oR [m1 22 9,mC 6 (.s []),m1 7 22] [6,7]) .skip)) (oS [lA 24 3 16,m1 25 1,m1 26 8,q3 27 203 24 25 26,m1 23 27,xT 28 23 0,xT 29 23 1,m1 10 28,m1 11 29] [2,3,10,11] Xk)
def pT:IC:=oS [bX 3 0,mC 6 (.s []),mZ 7 0] [1,2,3] (oS [fA 14 3 3,l1 15 14,m1 16 2,q2 17 56 15 16,m1 13 17,xT 18 13 0,xT 19 13 1,m1 8 18,m1 9 19] [1,2,3,8,9] jR)
def Asz:List R:=[.t 6,.t 7]
def AyV:=An Ys.eq_1<|An X3.eq_1<|An Xk.eq_1<|An jR.eq_1<|AR pT.eq_1
theorem Nt:Ao π 162 49 pT Asz=true:=by kernel_rfl
def Aa0:IC:=oR [m1 3 0,bZ 4 .geq 3 0,m1 5 4,BY 6 5 0,Gi 7 5 .leq 6 1114111,pA 8 5 7,m1 9 8,BY 10 9 0,Gi 11 9 .lss 10 55296,BY 12 9 11,BU 13 12 0,Fg 14 12 .gtr 13 57343,gT 15 9 (.pick (.t 12) (.c (.b true)) (.t 14)),pA 16 9 15,m1 2 16] [2]
def zT:IC:=oS [mC 2 (.b false)] [0] Aa0
def At1:List R:=[.t 2]
def AyD:=An Aa0.eq_1<|AR zT.eq_1
theorem AjJ:Ao π 230 17 zT At1=true:=by kernel_rfl
def Yg:IC:=sQ (cD 9 .skip (.exit 0)) (.block 1 (oS [xT 10 8 2,m1 5 10] [3,5,7] (oP [m1 11 3,m1 12 5,o1 13 (.cvi .i64 (.t 12)),o1 14 (.msl false 3 1 [.t 13]),o1 15 (.app (.t 11) (.t 14) 3 1),m1 3 15] [3,7])))
def mT:IC:=sQ (oS [m1 6 0,o1 7 (.mkm .strit [.t 6])] [3,7] (.block 0 (.loop (oS [o1 8 (.wrm .next (.t 7) []),xT 9 8 0] [3,7,8,9] Yg)))) (sQ (.wk (oP [m1 16 3,m1 2 16] [2])) .ret)
def kP:IC:=oS [mC 2 .nil] [0] (oS [mC 3 .nil] [0,3] mT)
def Atp:List R:=[.t 2]
def AyP:=An Yg.eq_1<|An mT.eq_1<|AR kP.eq_1
theorem AnD:Ao π 232 17 kP Atp=true:=by kernel_rfl
def XD:IC:=sQ (oS [m1 12 5,q1 13 230 12,nT 14 13] [3,5,6,7,8,14] (cD 14 (oP [mZ 5 65533] [3,5,6,7,8]) .skip)) (.opx [m1 15 5,o1 16 (.cvi .i32 (.t 15))] [3,6,7,8,16] 17 231 [.t 3,.t 16] [] [3,6,7,8])
def i7:IC:=oS [bT 9 .lss 8 7] [3,6,7,8,9] (sQ (cD 9 .skip (.exit 0)) (sQ (.block 1 (oS [iA 10 6 8 3 1,l1 11 10,m1 5 11] [3,5,6,7,8] XD)) (oP [bZ 18 .add 8 1,m1 8 18] [3,6,7,8])))
def kE:IC:=oS [mC 2 (.s [])] [0] (oS [o1 3 (.mkm (.tnew 134 (.agg [.np,.nil])) [])] [0,3] (sQ (oS [m1 6 0,nL 7 6,mZ 8 0] [3,6,7,8] (.block 0 (.loop i7))) (oR [o1 19 (.calls 60 [.t 3]),m1 2 19] [2])))
def Aqy:List R:=[.t 2]
def Ayf:=An XD.eq_1<|An i7.eq_1<|AR kE.eq_1
theorem Alo:Ao π 195 20 kE Aqy=true:=by kernel_rfl
def vJ:IC:=oS [mC 2 (.b false)] [0] (oR [m1 3 0,bZ 4 .geq 3 8294,m1 5 4,BY 6 5 0,Gi 7 5 .leq 6 8296,pA 8 5 7,m1 2 8] [2])
def Auq:List R:=[.t 2]
def AyC:=AR vJ.eq_1
theorem Akf:Ao π 233 9 vJ Auq=true:=by kernel_rfl
def YK:IC:=oS [m1 22 4,m1 23 8,o1 24 (.msl false 4 1 [.t 23]),o1 25 (.app (.t 22) (.t 24) 4 1),m1 4 25] [3,4,5,7,8,11,12,13] (sQ (oS [m1 26 8,nT 27 26] [3,4,5,7,11,12,13,27] (cD 27 (.exit 1) .skip)) (oP [m1 28 5,bZ 29 .add 28 1,m1 5 29] [3,4,5,7,11,12,13]))
def Yq:IC:=oS [m1 42 4,m1 43 4,nL 44 43,bZ 45 .sub 44 1,o1 46 (.slT (.t 42) (.t 45) 1),m1 4 46] [3,4,5,7,9,11,12,13] (sQ (oS [m1 47 9,nT 48 47] [3,4,5,7,11,12,13,48] (cD 48 (.exit 1) .skip)) (oP [m1 49 5,bZ 50 .sub 49 1,m1 5 50] [3,4,5,7,11,12,13]))
def aJ:IC:=sQ (oS [m1 33 4,nL 34 33,bZ 35 .eql 34 0] [3,4,5,7,11,12,13,35] (cD 35 (.exit 1) .skip)) (oS [m1 36 4,m1 37 4,nL 38 37,bZ 39 .sub 38 1,iA 40 36 39 4 1,l1 41 40,m1 9 41] [3,4,5,7,9,11,12,13] Yq)
def YT:IC:=sQ (.block 2 (oS [m1 18 7,q1 19 233 18,m1 17 19] [3,4,5,7,11,12,13,17] (cD 17 (oS [m1 20 5,bZ 21 .lss 20 8,m1 8 21] [3,4,5,7,8,11,12,13] YK) (oS [m1 31 7,bZ 32 .eql 31 8297,m1 30 32] [3,4,5,7,11,12,13,30] (cD 30 aJ .skip))))) (.opx [m1 51 7,o1 52 (.msl false 3 1 [.t 51]),q1 53 195 52] [3,4,5,11,12,13,53] 54 152 [.t 3,.t 53] [] [3,4,5,11,12,13])
def Xr:IC:=oS [bT 14 .lss 13 12] [3,4,5,11,12,13,14] (sQ (cD 14 .skip (.exit 0)) (sQ (.block 1 (oS [iA 15 11 13 3 1,l1 16 15,m1 7 16] [3,4,5,7,11,12,13] YT)) (oP [bZ 55 .add 13 1,m1 13 55] [3,4,5,11,12,13])))
def Yo:IC:=sQ (.block 4 (.opx [o1 59 (.msl false 3 1 [ci 8297]),q1 60 195 59] [3,56,57,60] 61 152 [.t 3,.t 60] [] [3,56,57])) (oP [bZ 62 .add 57 1,m1 57 62] [3,56,57])
def Y5:IC:=sQ (oS [m1 56 5,mZ 57 0] [3,56,57] (.block 3 (.loop (oS [bT 58 .lss 57 56] [3,56,57,58] (sQ (cD 58 .skip (.exit 3)) Yo))))) (oR [o1 63 (.calls 60 [.t 3]),m1 2 63] [2])
def kU:IC:=oS [mC 4 .nil] [0,3,4] (oS [mZ 5 0] [0,3,4,5] (sQ (oS [m1 10 0,q1 11 232 10,nL 12 11,mZ 13 0] [3,4,5,11,12,13] (.block 0 (.loop Xr))) Y5))
def sI:IC:=oS [mC 2 (.s [])] [0] (oS [o1 3 (.mkm (.tnew 134 (.agg [.np,.nil])) [])] [0,3] kU)
def Ar1:List R:=[.t 2]
def Ay7:=An YK.eq_1<|An Yq.eq_1<|An aJ.eq_1<|An YT.eq_1<|An Xr.eq_1<|An Yo.eq_1<|An Y5.eq_1<|An kU.eq_1<|AR sI.eq_1
theorem Amt:Ao π 196 64 sI Ar1=true:=by kernel_rfl
def sW:IC:=oR [o1 3 (.msl false 3 1 [ci 8296]),q1 4 195 3,m1 5 0,q1 6 196 5,bT 7 .add 4 6,o1 8 (.msl false 3 1 [ci 8297]),q1 9 195 8,bT 10 .add 7 9,m1 2 10] [2]
def Aa5:IC:=oS [mC 2 (.s [])] [0] sW
def Arq:List R:=[.t 2]
def Azm:=An sW.eq_1<|AR Aa5.eq_1
theorem Am1:Ao π 154 11 Aa5 Arq=true:=by kernel_rfl
def X8:IC:=oS [bZ 12 .eql 5 5,m1 11 12] [3,5,11] (cD 11 (oR [fA 13 3 1,l1 14 13,bZ 15 .eql 14 3,m1 4 15] [4]) (oS [bZ 17 .eql 5 6,m1 16 17] [3,16] (cD 16 (oR [fA 18 3 1,l1 19 18,bZ 20 .eql 19 4,m1 4 20] [4]) .skip)))
def t6:IC:=oS [bX 3 1,mC 4 (.b false)] [0,3] (sQ (oS [m1 5 0] [3,5] (.block 0 (oS [bZ 7 .eql 5 2,m1 6 7] [3,5,6] (cD 6 (oR [fA 8 3 1,l1 9 8,bZ 10 .neq 9 4,m1 4 10] [4]) X8)))) (oR [fA 21 3 1,l1 22 21,bZ 23 .eql 22 2,m1 4 23] [4]))
def Arx:List R:=[.t 4]
def AyY:=An X8.eq_1<|AR t6.eq_1
theorem Al0:Ao π 161 24 t6 Arx=true:=by kernel_rfl
def YI:IC:=oS [bZ 60 .eql 28 6,m1 59 60] [3,4,5,59] (cD 59 (oR [lA 61 3 16,fA 62 4 3,l1 63 62,fA 64 5 4,l1 65 64,q3 66 164 61 63 65,xT 67 66 0,xT 68 66 1,m1 6 67,m1 7 68] [6,7]) .skip)
def Z3:IC:=oS [bZ 50 .eql 28 5,m1 49 50] [3,4,5,28,49] (cD 49 (oR [lA 51 3 16,fA 52 4 3,l1 53 52,fA 54 5 3,l1 55 54,q3 56 163 51 53 55,xT 57 56 0,xT 58 56 1,m1 6 57,m1 7 58] [6,7]) YI)
def aT:IC:=oS [bZ 40 .eql 28 4,m1 39 40] [3,4,5,28,39] (cD 39 (oR [lA 41 3 16,fA 42 4 3,l1 43 42,fA 44 5 2,l1 45 44,q3 46 162 41 43 45,xT 47 46 0,xT 48 46 1,m1 6 47,m1 7 48] [6,7]) Z3)
def Xx:IC:=.block 0 (oS [bZ 30 .eql 28 3,m1 29 30] [3,4,5,28,29] (cD 29 (oR [lA 31 3 16,fA 32 5 2,l1 33 32,fA 34 4 3,l1 35 34,q3 36 116 31 33 35,xT 37 36 0,xT 38 36 1,m1 6 37,m1 7 38] [6,7]) aT))
def YF:IC:=oS [fA 74 5 3,l1 75 74,q1 76 165 75,m1 8 76] [8] (sQ (oS [m1 77 8,bC 78 .eql 77 (.s [])] [8,78] (cD 78 (oR [mC 6 (.s []),mZ 7 2] [6,7]) .skip)) (oR [m1 79 8,m1 6 79,mZ 7 0] [6,7]))
def X2:IC:=sQ (oS [fA 27 4 0,l1 28 27] [3,4,5,28] Xx) (sQ (oS [fA 69 5 1,l1 70 69,bZ 71 .neq 70 3] [5,71] (cD 71 (oR [fA 72 5 2,l1 73 72,m1 6 73,mZ 7 0] [6,7]) .skip)) YF)
def Aae:IC:=sQ (oS [lA 17 5 5,q1 18 22 17,nT 19 18,m1 20 19,E5 21 20 4 0,Eh 22 20 21,gF 23 20 (.load (.t 5) 5 true),gF 24 20 (.call 161 [.t 22,.t 23]),gF 25 20 (.not (.t 24)),pO 26 20 25] [3,4,5,26] (cD 26 (oR [mC 6 (.s []),mZ 7 11] [6,7]) .skip)) X2
def qP:IC:=sQ (oS [fA 9 4 0,l1 10 9,bZ 11 .lss 10 2,m1 12 11,E5 13 12 4 0,Eh 14 12 13,Fg 15 12 .gtr 14 6,pO 16 12 15] [3,4,5,16] (cD 16 (oR [mC 6 (.s []),mZ 7 1] [6,7]) .skip)) Aae
def tG:IC:=oS [bX 3 0,bX 4 1,bX 5 2,mC 6 (.s []),mZ 7 0] [3,4,5] qP
def AtB:List R:=[.t 6,.t 7]
def Ayh:=An YI.eq_1<|An Z3.eq_1<|An aT.eq_1<|An Xx.eq_1<|An YF.eq_1<|An X2.eq_1<|An Aae.eq_1<|An qP.eq_1<|AR tG.eq_1
theorem NT:Ao π 119 80 tG AtB=true:=by kernel_rfl
def Abo:IC:=oS [m1 7 0,m1 8 0,nC 9 8,fA 10 9 1,l1 11 10,m1 12 1,o1 13 (.msl false 5 1 [.t 12]),o1 14 (.app (.t 11) (.t 13) 5 1),nC 15 7,fA 16 15 1,sT 16 14 1] [] (oR [mC 4 .ni] [4])
def kM:IC:=oS [mC 4 .ni] [0,1] (oS [m1 5 0,o1 6 (.calls 167 [.t 5])] [0,1] Abo)
def As5:List R:=[.t 4]
def AxJ:=An Abo.eq_1<|AR kM.eq_1
theorem AlJ:Ao π 123 17 kM As5=true:=by kernel_rfl
def Abm:IC:=sQ (.opx [m1 14 0,m1 15 0,nC 16 15,fA 17 16 1,l1 18 17,m1 19 1] [0,6,14,18,19] 20 262 [.t 18,.t 19] [nC 21 14,fA 22 21 1,sT 22 20 1] [0,6]) (oR [m1 23 0,nC 24 23,fA 25 24 1,l1 26 25,nL 27 26,m1 28 6,bT 29 .sub 27 28,m1 4 29,mC 5 .ni] [4,5])
def rD:IC:=oS [mZ 4 0,mC 5 .ni] [0,1] (oS [m1 7 0,o1 8 (.calls 167 [.t 7])] [0,1] (oS [m1 9 0,nC 10 9,fA 11 10 1,l1 12 11,nL 13 12,m1 6 13] [0,1,6] Abm))
def Ari:List R:=[.t 4,.t 5]
def Ayx:=An Abm.eq_1<|AR rD.eq_1
theorem An3:Ao π 231 30 rD Ari=true:=by kernel_rfl
def kF:IC:=sQ (oS [m1 5 1,o1 6 (.cvi .u32 (.t 5)),bC 7 .leq 6 (.i .u32 127)] [0,1,7] (cD 7 (oR [m1 8 0,m1 9 1,o1 10 (.cvi .u8 (.t 9)),o1 11 (.msl false 5 1 [.t 10]),o1 12 (.app (.t 8) (.t 11) 5 1),m1 4 12] [4]) .skip)) (sQ (.opx [m1 13 0,m1 14 1] [13,14] 15 282 [.t 13,.t 14] [m1 4 15] [4]) .ret)
def rW:IC:=oS [mC 4 .nil] [0,1] kF
def Apw:List R:=[.t 4]
def Ayi:=An kF.eq_1<|AR rW.eq_1
theorem jL:Ao π 262 16 rW Apw=true:=by kernel_rfl
def wO:IC:=oR [m1 14 0,m1 15 1,o1 16 (.pu (.shf .shr) [.t 15,.c (.i .u64 6)]),o1 17 (.cvi .u8 (.t 16)),o1 18 (.pu (.bit .or) [.c (.i .u8 192),.t 17]),m1 19 1,o1 20 (.cvi .u8 (.t 19)),o1 21 (.pu (.bit .and) [.t 20,.c (.i .u8 63)]),o1 22 (.pu (.bit .or) [.c (.i .u8 128),.t 21]),o1 23 (.msl false 5 1 [.t 18,.t 22]),o1 24 (.app (.t 14) (.t 23) 5 1),m1 4 24] [4]
def YY:IC:=oP [m1 28 5,o1 29 (.bin .lss (.c (.i .u32 57343)) (.t 28)),m1 30 29,BY 31 30 5,gT 32 30 (.bin .leq (.t 31) (.c (.i .u32 65535))),pA 33 30 32,m1 25 33] [0,1,5,25]
def Zf:IC:=oR [m1 34 0,m1 35 1,o1 36 (.pu (.shf .shr) [.t 35,.c (.i .u64 12)]),o1 37 (.cvi .u8 (.t 36)),o1 38 (.pu (.bit .or) [.c (.i .u8 224),.t 37]),m1 39 1,o1 40 (.pu (.shf .shr) [.t 39,.c (.i .u64 6)]),o1 41 (.cvi .u8 (.t 40)),o1 42 (.pu (.bit .and) [.t 41,.c (.i .u8 63)]),o1 43 (.pu (.bit .or) [.c (.i .u8 128),.t 42]),m1 44 1,o1 45 (.cvi .u8 (.t 44)),o1 46 (.pu (.bit .and) [.t 45,.c (.i .u8 63)]),o1 47 (.pu (.bit .or) [.c (.i .u8 128),.t 46]),o1 48 (.msl false 5 1 [.t 38,.t 43,.t 47]),o1 49 (.app (.t 34) (.t 48) 5 1),m1 4 49] [4]
def ZH:IC:=oR [m1 57 0,m1 58 1,o1 59 (.pu (.shf .shr) [.t 58,.c (.i .u64 18)]),o1 60 (.cvi .u8 (.t 59)),o1 61 (.pu (.bit .or) [.c (.i .u8 240),.t 60]),m1 62 1,o1 63 (.pu (.shf .shr) [.t 62,.c (.i .u64 12)]),o1 64 (.cvi .u8 (.t 63)),o1 65 (.pu (.bit .and) [.t 64,.c (.i .u8 63)]),o1 66 (.pu (.bit .or) [.c (.i .u8 128),.t 65]),m1 67 1,o1 68 (.pu (.shf .shr) [.t 67,.c (.i .u64 6)]),o1 69 (.cvi .u8 (.t 68)),o1 70 (.pu (.bit .and) [.t 69,.c (.i .u8 63)]),o1 71 (.pu (.bit .or) [.c (.i .u8 128),.t 70]),m1 72 1,o1 73 (.cvi .u8 (.t 72)),o1 74 (.pu (.bit .and) [.t 73,.c (.i .u8 63)]),o1 75 (.pu (.bit .or) [.c (.i .u8 128),.t 74]),o1 76 (.msl false 5 1 [.t 61,.t 66,.t 71,.t 75]),o1 77 (.app (.t 57) (.t 76) 5 1),m1 4 77] [4]
def YD:IC:=oS [m1 51 5,bC 52 .gtr 51 (.i .u32 65535),m1 53 52,BY 54 53 5,gT 55 53 (.bin .leq (.t 54) (.c (.i .u32 1114111))),pA 56 53 55,m1 50 56] [0,1,50] (cD 50 ZH (oR [m1 8 0,o1 9 (.msl false 5 1 [.c (.i .u8 239),.c (.i .u8 191),.c (.i .u8 189)]),o1 10 (.app (.t 8) (.t 9) 5 1),m1 4 10] [4]))
def iM:IC:=.block 0 (oS [m1 12 5,bC 13 .leq 12 (.i .u32 2047),m1 11 13] [0,1,5,11] (cD 11 wO (sQ (oS [m1 26 5,bC 27 .lss 26 (.i .u32 55296),m1 25 27] [0,1,5,25] (cD 25 .skip YY)) (cD 25 Zf YD))))
def lK:IC:=oS [mC 4 .nil] [0,1] (oS [m1 6 1,o1 7 (.cvi .u32 (.t 6)),m1 5 7] [0,1,5] iM)
def AoN:List R:=[.t 4]
def Ayr:=An wO.eq_1<|An YY.eq_1<|An Zf.eq_1<|An ZH.eq_1<|An YD.eq_1<|An iM.eq_1<|AR lK.eq_1
theorem AjD:Ao π 282 78 lK AoN=true:=by kernel_rfl
attribute[push_cast]AtC Aya AsQ AyJ AsB Ayn Apk Ayu Asm AxT AqK Azf Aq3 Azo Aqb AyU AtK Ayt Api AxO Aug Ayz Aqt AyM ArH AyK Asf Azd AoG AyG Arz Ay3 Aqa Ayw Asu Azk AqA Ayg Aqi AxX Atl Azl ApG AxW AsU Ayl Ap2 AyB Auk AxP Auc AyZ Asz AyV At1 AyD Atp AyP Aqy Ayf Auq AyC Ar1 Ay7 Arq Azm Arx AyY AtB Ayh As5 AxJ Ari Ayx Apw Ayi AoN Ayr
end Go.Ir

namespace Go.Ir
open Go.Proofs
variable(O:World)
theorem T5(s:Aa):Ak π O 285 [.s s] [] (.b (GP s)) []:=by
 have a:=G8 O Gg s (by decide);unfold GP;generalize d:Gg.contains s=K at *;unfold Gg at a;simp only[Ao7,Ava] at a;refine Ac (vs:=[.b K]) Amb (by simp) (by simp) λn0 c=>?_;clear c;simp only[push_cast];repeat' (first|(first|(apply AL<;>intro _h)|refine Ab a ?_)<;>simp only[push_cast]|intro _)
 exact Kn
theorem Gh{a β:Type}(f:a->β) l x:List.map f l++[f x]=List.map f (l++[x]):=by simp
def Iy(o:Option (List Aa)):V:=match o with
 | some l=>.sl (l.map V.s)
 | none=>.nil
def S9(o:Option (List Aa))(e:Int):Int:=if o.isSome then 0 else e
theorem Oz(s:Aa)(y:s.length<=2^30):Ak π O 270 [.s s] [] (.tup [Iy (CW s),.i .i64 (S9 (CW s) 3)]) []:=by
 generalize hS:CW s=S;unfold CW at hS;refine Ac (vs:=[Iy S,.i .i64 (S9 S 3)]) Alc (by simp) (by simp) λn0 v=>?_;clear v;simp only[push_cast,rq]
 repeat' (first|((apply AL<;>intro _h)<;>simp only[push_cast,rq,_h])|(refine As (by omega) ?_;simp only[push_cast,rq])|intro _)
 rename_i k1 k2 k3 G;generalize n0+1+k1+1+k2+1+k3+1+G=z;have H:DH.length=4:=rfl;refine Aj 4 (Inv:=λm st=>∃dn a n id r out,DH=dn++a/\m=a.length/\Di a r out=S/\r.length<=2^30/\out.length+a.length<=4/\id.1<n/\st=⟨[(4,.arr id),(5,.s r),(11,.sl (DH.map V.s)),(12,.i .i64 DH.length),(13,.i .i64 dn.length)],[(id,.arr 9 1 (out.map V.s))],n⟩) ⟨_,(Ag.own (s:=4) (e:=9) (sz:=1) (k:=0) rfl).trans (Ag.envD (env':=[(4,.arr (z,0)),(5,.s s),(11,.sl (DH.map V.s)),(12,.i .i64 4),(13,.i .i64 0)]) (λt=>?_) (Ab6 _)),[],DH,_,(z,0),s,[],rfl,rfl,hS,y,by decide,Ab4 _,rfl⟩ ?_
 .left;simp only[get];by_cases h:4=t
  .subst h;simp
  .simp[h,DH]
 clear hS y;rintro m _ ⟨dn,a,n,id,r,out,o,rfl,c,J,p,I,rfl⟩;cases a with
 | nil=>
  have f:decide ((dn.length:Int)<(DH.length:Int))=false:=by rw[o];simp
  rw[Di] at c;have g:((out.length:Int)==0)=(out.length==0):=by cases out<;>simp<;>omega
  cases d:(r==([]:Aa))<;>cases j:(out.length==0)
  all_goals simp only[d,j,bq,AbA,Ab9] at c
  all_goals subst c
  all_goals simp only[push_cast,rq,f,g,d,j]
  all_goals repeat' (first|((apply AL<;>intro _h)<;>simp only[push_cast,rq,_h,f,g,d,j])|(refine As (by omega) ?_;simp only[push_cast,rq,f,g,d,j])|intro _)
  all_goals (first|(refine Ah ?_;simp[push_cast,Iy,S9];done)|skip)
  refine H3 (Ag.frzAt (s:=4) (id:=id) rfl (by simp[lk]) (nN out) (Ab6 _)) ?_;simp only[push_cast,rq];intros;refine Ah ?_;simp[push_cast,Iy,S9]
 | cons k a=>
  have D:=A9 o;have q:k∈DH:=by rw[o];simp
  have u:k.length=1/\∀b∈k,b.toNat<128:=by unfold DH at q;simp at q;rcases q with rfl|rfl|rfl|rfl<;>simp
  have w:=QS O r k (by omega) u.2;have E:=Gq r k;rw[Di] at c;have l:=T5 O (r.take (r.length-(Lib.trimLeftS r k).length));generalize Lib.trimLeftS r k=T at *;have A:IntKind.i64.wrap ((r.length:Int)-(T.length:Int))=((r.length-T.length:Nat):Int):=by rw[wrap64 (by omega) (by omega)];omega
  have B:(r.length-T.length<=r.length)=True:=Arp (by omega);have C:(out.length+1<=AJ)=True:=Arp (by simp at p;unfold AJ;omega);generalize x:r.take (r.length-T.length)=F at *;cases d:(F==([]:Aa))<;>cases j:GP F
  all_goals simp only[d,j,AbA,Ab9,reduceCtorEq] at c l
  all_goals simp only[push_cast,rq,o]
  all_goals repeat' (first|((apply AL<;>intro _h)<;>simp only[push_cast,rq,_h,o,Ae k (dn:=dn) (by omega),A,B,C,x,Avz,Ab6,AuB,Afb,d])|((first|refine Ab (by exact w) ?_|refine Ab (by exact l) ?_|refine As (by omega) ?_);simp only[push_cast,rq,Ae k (dn:=dn) (by omega),A,B,C,x,Avz,d])|intro _)
  .subst c;refine Ah ?_;simp[push_cast,Iy,S9]
  .rw[Gh];exact⟨_,_,Ab4 _,Ag.refl,dn++[k],a,_,_,T,out++[F],by simp,rfl,c,by omega,by simp at p⊢;omega,by simp only;omega,rfl⟩
  .exact⟨_,_,Ab4 _,Ag.refl,dn++[k],a,_,id,r,out,by simp,rfl,c,by omega,by simp at p⊢;omega,by omega,rfl⟩
  .exact⟨_,_,Ab4 _,Ag.refl,dn++[k],a,_,id,r,out,by simp,rfl,c,by omega,by simp at p⊢;omega,by omega,rfl⟩
theorem gG:∀(n m) (p) (out),p.length<n->p.length<m->Dq n p out=Dq m p out:=by
 intro n
 induction n with
 | zero=>intro m p out h;omega
 | succ n f=>
  intro m p out c d;cases m with
  | zero=>omega
  | succ m=>
   have a:=Gq p Bq;rw[Dq,Dq];split
   .rfl
   .rename_i hp;have b:1<=p.length:=by grind
    split
    .grind
    .rename_i e;have:(Lib.trimLeftS p Bq).length<p.length:=by
      rcases Az0 (Lib.trimLeftS p Bq).length p.length with h|h
      .exact h
      simp_all
     grind
theorem AjW(s:Aa)(o:s.length<=2^30):Ak π O 271 [.s s] [] (.tup [Iy (I8 s),.b (I8 s).isSome]) []:=by
 generalize hS:I8 s=S;unfold I8 at hS;refine Ac (vs:=[Iy S,.b S.isSome]) Amg (by simp) (by simp) λn0 l=>?_;clear l;simp only[push_cast,seval]
 repeat' (first|((apply AL<;>intro _h)<;>simp only[push_cast,seval,_h])|(refine As (by omega) ?_;simp only[push_cast,seval])|intro _)
 rename_i k1 k2;generalize n0+1+k1+1+k2=u;refine Aj s.length (Inv:=λm st=>∃n id p out,m=p.length/\Dq (p.length+1) p out=S/\p.length<=2^30/\out.length+p.length<=2^30/\id.1<n/\st=⟨[(0,.s p),(4,.arr id)],[(id,.arr 9 1 (out.map V.s))],n⟩) ⟨_,(Ag.own (s:=4) (e:=9) (sz:=1) (k:=0) rfl).trans (Ag.envD (env':=[(0,.s s),(4,.arr (u,0))]) (λt=>?_) (Ab6 _)),_,(u,0),s,[],rfl,hS,o,by simpa using o,Ab4 _,rfl⟩ ?_
 .left;simp only[get];grind
 clear hS o;rintro m _ ⟨n,id,p,out,rfl,a,hp,D,E,rfl⟩;cases p with
 | nil=>rw[Dq] at a;simp only[AbA,beq_self_eq_true] at a;subst a;simp only[push_cast,seval];intros;refine H3 (Ag.frzAt (s:=4) (id:=id) rfl (by simp[lk]) (nN out) (Ab6 _)) ?_;simp only[push_cast,seval];intros;refine Ah ?_;simp[push_cast,Iy]
 | cons c p=>
  have ⟨R,hR⟩:∃R,R=c::p:=⟨_,rfl⟩
  have g:R.drop 1=p:=by rw[hR];rfl
  have B:R.length=p.length+1:=by rw[hR];simp
  rw[<-hR] at a hp D⊢;have j:(R==([]:Aa))=false:=by rw[hR];rfl
  clear hR;have r:=QS O R Bq (by decide) (by decide);have C:=Gq R Bq;rw[Dq,j] at a;have d:=T5 O (R.take (R.length-(Lib.trimLeftS R Bq).length));generalize Lib.trimLeftS R Bq=T at *;unfold Bq at r;have v:IntKind.i64.wrap ((R.length:Int)-(T.length:Int))=((R.length-T.length:Nat):Int):=by rw[wrap64 (by omega) (by omega)];omega
  have w:(R.length-T.length<=R.length)=True:=Arp (by omega);have x:(out.length+1<=AJ)=True:=Arp (by unfold AJ;omega);have y:(1<=R.length)=True:=Arp (by omega);have A:T.length=R.length->R.take (R.length-T.length)=[]:=λh=>by rw[h];simp
  generalize q:R.take (R.length-T.length)=F at *;cases i:(F==([]:Aa))<;>cases z:GP F
  all_goals simp only[i,z,AbA,Ab9,reduceCtorEq] at a d
  all_goals simp only[push_cast,seval,j]
  all_goals repeat' (first|((apply AL<;>intro _h)<;>simp only[push_cast,seval,_h,j,v,w,x,y,q,g,Avz,Ab6,AuB,Afb,i])|((first|refine Ab (by exact r) ?_|refine Ab (by exact d) ?_|refine As (by omega) ?_);simp only[push_cast,seval,v,w,x,y,q,g,Avz,Ab6,AuB,i])|intro _)
  .subst a;refine Ah ?_;simp[push_cast,Iy]
  .rw[Gh];have f:T.length<R.length:=by grind
   exact⟨_,_,f,Ag.refl,_,_,T,out++[F],rfl,by rw[gG _ R.length T _ (by omega) f];exact a,by omega,by simp;omega,by simp only;omega,rfl⟩
  .exact⟨_,_,show p.length<R.length by omega,Ag.refl,_,id,p,out,rfl,by grind,by omega,by omega,by omega,rfl⟩
  .exact⟨_,_,show p.length<R.length by omega,Ag.refl,_,id,p,out,rfl,by grind,by omega,by omega,by omega,rfl⟩
theorem Z5(l:List Aa)(L:l≠[])(D:l.length<=2^20)(Y:∀f∈l,1<=f.length):Ak π O 272 [.sl (l.map V.s)] [] (.tup [.s (HO l).1,.b (HO l).2]) []:=by
 generalize hS:HO l=S;unfold HO M9 at hS;refine Ac (vs:=[.s S.1,.b S.2]) Alr (by simp) (by simp) λn0 K=>?_;clear K;simp only[push_cast,seval]
 (repeat' (first|(first|(apply AL<;>intro _h)|refine As (by simp only <;>omega) ?_)<;>simp only[push_cast,seval,_h]|intro _))
 rename_i k1 k2 k3;generalize n0+1+k1+1+k2+1+k3=N;refine Aj l.length (Inv:=λm st=>∃dn a n id,l=dn++a/\m=a.length/\N<=n/\id.1<n/\st=⟨[(4,.arr id),(8,.sl (l.map V.s)),(9,.i .i64 l.length),(10,.i .i64 dn.length)],[(id,.arr 9 1 ((dn.map λf=>f.take 1).map V.s))],n⟩) ⟨_,(Ag.own (s:=4) (e:=9) (sz:=1) (k:=0) rfl).trans (Ag.envD (env':=[(4,.arr (N,0)),(8,.sl (l.map V.s)),(9,.i .i64 l.length),(10,.i .i64 0)]) (λt=>?_) (Ab6 _)),[],l,_,(N,0),rfl,rfl,Avb _,Ab4 _,rfl⟩ ?_
 .left;simp only[get];by_cases h:4=t
  .subst h;simp
  .simp[h]
 rintro m _ ⟨dn,a,n,id,o,rfl,hn,C,rfl⟩;cases a with
 | nil=>
  have af:decide ((dn.length:Int)<(l.length:Int))=false:=by rw[o];simp
  have I:dn=l:=by rw[o];simp
  rw[I];clear o;have z:(l.map λf=>f.take 1).length=l.length:=by simp
  have g:(l.map λf=>f.take 1)≠[]:=by simpa using L
  have ae:decide ((l.length:Int)<(l.length:Int))=false:=by simp
  rw[<-z] at hS⊢;have ⟨G,hGd⟩:∃G,G=l.map λf=>f.take 1:=⟨_,rfl⟩
  rw[<-hGd] at hS z g⊢;have E:=Aci O G id g (by omega);have d:(G.mergeSort λx y=>decide (x<=y)).length=G.length:=A16 ..;have j:(G.mergeSort λx y=>decide (x<=y))≠[]:=by intro h;rw[h] at d;simp at d;exact g (by simpa using d.symm)
  have r:∀l∈(G.mergeSort λx y=>decide (x<=y)),l∈G:=λl D=>by simpa using D
  generalize(G.mergeSort λx y=>decide (x<=y))=Q at *;have H:=M6 Q;rw[d] at H;have u:∀l∈Lib.compact Q,l.length<=1:=by intro l D;have:=r l (MD D);rw[hGd] at this;obtain⟨f,_,rfl⟩:=Aov.1 this;simp;omega
  have hj:=s7 O (Lib.compact Q) [] (by have:=KU [] 1 0 (by simp) (Lib.compact Q) u;omega);clear r hGd u;have hc:=AaQ O Q id j (by omega);have hx:=Nu O Q;simp only[push_cast,seval];intro k;refine NW E (λp hp=>by cases hp) ?_;simp only[push_cast,seval];intro k2;refine Jn hc (λ_ _ h=>h) ?_;rw[B5];simp only[push_cast,seval];intro k3;have A:((n+1+k+1+k2,23):Id)≠id:=λw=>by rw[<-w] at C;simp only at C;omega
  refine Bd (Nu O Q _ j (by omega)) (λi e h=>by
   simp only[lk] at h⊢;split at h
   .rename_i X;rw[Amm X];exact h
   .cases h) (λn2 v σo ad Z=>?_)
  obtain⟨c,i1,i2,rfl,rfl⟩:=Z;have M:over [((n+1+k+1+k2,23),AP.arr 9 1 (List.map V.s Q))] [(c,AP.arr 9 1 (List.map V.s (Lib.compact Q)))] [((n+1+k+1+k2,23),AP.arr 9 1 (List.map V.s Q)),(id,AP.arr 9 1 (List.map V.s Q))]=[(c,AP.arr 9 1 (List.map V.s (Lib.compact Q))),(id,AP.arr 9 1 (List.map V.s Q))]:=by have:=Gw (σi:=[((n+1+k+1+k2,23),AP.arr 9 1 (List.map V.s Q))]) (σo:=[(c,AP.arr 9 1 (List.map V.s (Lib.compact Q)))]) (pre:=[]) (post:=[(id,AP.arr 9 1 (List.map V.s Q))]) (λp hp=>by cases hp) (λp hp q E=>by simp at hp E;subst hp E;exact Ao0 A);simpa using this
  rw[M];have B:(id=c)=False:=Ab8 λw=>by rw[w] at C;omega
  have T:(c=id)=False:=Ab8 λw=>by rw[<-w] at C;omega
  simp only[push_cast,seval];intro k4;refine H3 (Ag.frzAt (s:=7) (id:=c) rfl (by simp only[lk,B,Ab9]) (nN (Lib.compact Q)) (Ab6 _)) ?_;simp only[push_cast];repeat' (first|(first|(apply AL<;>intro _h)|refine Ab hj ?_|refine As (by omega) ?_)<;>simp only[push_cast,seval]|intro _)
  have F:(((Lib.compact Q).length:Int)==(Q.length:Int))=((Lib.compact Q).length==G.length):=by rw[d,Aym];simp;omega
  subst hS;refine Ah ?_;simp[push_cast,F]
 | cons f a=>
  have aa:=A9 o;have J:=Y f (by rw[o];simp);have U:(dn.length+1<=AJ)=True:=Arp (by unfold AJ;omega);have W:(1<=f.length)=True:=Arp J;simp only[push_cast,seval,o,Ae f (dn:=dn) (by omega),U,W]
  (repeat' (first|(first|(apply AL<;>intro _h)|refine As (by simp only <;>omega) ?_)<;>simp only[push_cast,seval,_h,o,Ae f (dn:=dn) (by omega),U,W,Avz,Ab6,AuB,Afb]|intro _))
  rw[Gh,Gh (λf:Aa=>List.take 1 f)];exact⟨_,_,Ab4 _,Ag.refl,dn++[f],a,_,_,by simp,rfl,by omega,by simp only;omega,rfl⟩
theorem To:∀(a) (r) (out w),Di a r out=some w->(∀f∈out,1<=f.length)->w≠[]/\w.length<=out.length+a.length/\∀f∈w,1<=f.length:=by
 intro a
 induction a with
 | nil=>intro r out w h b;rw[Di] at h;grind
 | cons k a c=>
  intro r out w h b;rw[Di] at h;split at h
  .grind
  .rename_i i;split at h
   .obtain⟨d,e,g⟩:=c _ _ _ h (λf j=>by grind
)
    grind
   .cases h
theorem HX{s w}(h:CW s=some w):w≠[]/\w.length<=4/\∀f∈w,1<=f.length:=by have:=To DH s [] w h (by simp);simpa[DH] using this
theorem fY:∀(n) (p) (out g),Dq n p out=some g->(∀f∈out,1<=f.length)->g.length<=out.length+p.length/\∀f∈g,1<=f.length:=by
 intro n
 induction n with
 | zero=>intro p out g h;cases h
 | succ n e=>
  intro p out g h d;have a:=Gq p Bq;rw[Dq] at h;split at h
  .grind
  .split at h
   .grind
   .rename_i c;split at h
    .have b:(Lib.trimLeftS p Bq).length<p.length:=by
      rcases Az0 (Lib.trimLeftS p Bq).length p.length with h|h
      .exact h
      simp_all
     grind
    .cases h
theorem oY{s g}(h:I8 s=some g):g.length<=s.length/\∀f∈g,1<=f.length:=by have:=fY _ s [] g h (by simp);simpa using this
theorem Afk(f p:Aa)(h:f.length<=2^30)(m:p.length<=2^20):Ak π O 248 [.s f,.s p] [] (.b (EB f p)) []:=by
 have d:=Oz O f h;have c:=AjW O p (by omega);generalize hS:EB f p=S;unfold EB at hS;cases i:CW f with
 | none=>
  rw[i] at d hS;simp only[Iy,S9,AyQ,Ab7,Ab9] at d;refine Ac (vs:=[.b S]) RX (by simp) (by simp) λn0 a=>?_;clear a;simp only[push_cast,seval];cases e:I8 p with
  | none=>
   rw[e] at c hS;simp only[Iy,AyQ] at c
   all_goals ((try simp only  at hS);subst hS)
   all_goals (try simp only )
   all_goals (repeat' (first|((first|refine Ab (by exact d) ?_|refine Ab (by exact c) ?_|refine As (by omega) ?_);(try simp only[push_cast,seval]))|intro _))
   all_goals (first|(refine Af ?_;simp[get];done)|(exact Gj;done)|skip)
  | some g=>
   rw[e] at c hS;simp only[Iy,AwY] at c
   all_goals ((try simp only  at hS);subst hS)
   all_goals (try simp only )
   all_goals (repeat' (first|((first|refine Ab (by exact d) ?_|refine Ab (by exact c) ?_|refine As (by omega) ?_);(try simp only[push_cast,seval]))|intro _))
   all_goals (first|(refine Af ?_;simp[get];done)|(exact Gj;done)|skip)
 | some w=>
  rw[i] at d hS;simp only[Iy,S9,AwY,AbA] at d;have ⟨a1,a2,a3⟩:=HX i;have k1:=Z5 O w a1 (by omega) a3;cases e:I8 p with
  | none=>
   rw[e] at c hS;simp only[Iy,AyQ] at c;refine Ac (vs:=[.b S]) RX (by simp) (by simp) λn0 a=>?_;clear a;simp only[push_cast,seval]
   all_goals ((try simp only  at hS);subst hS)
   all_goals (try simp only )
   all_goals (repeat' (first|((first|refine Ab (by exact d) ?_|refine Ab (by exact c) ?_|refine As (by omega) ?_);(try simp only[push_cast,seval]))|intro _))
   all_goals (first|(refine Af ?_;simp[get];done)|(exact Gj;done)|skip)
  | some g=>
   rw[e] at c hS;simp only[Iy,AwY] at c;have ⟨b1,b2⟩:=oY e;by_cases l:g=[]
   .subst l;simp only[Ava] at c;refine Ac (vs:=[.b S]) RX (by simp) (by simp) λn0 a=>?_;clear a;simp only[push_cast,seval]
    all_goals ((try simp only  at hS);subst hS)
    all_goals (try simp only[push_cast,seval])
    all_goals (repeat' (first|((first|refine Ab (by exact d) ?_|refine Ab (by exact c) ?_|refine As (by omega) ?_);(try simp only[push_cast,seval]))|intro _))
    all_goals (first|(refine Af ?_;simp[get];done)|(exact Gj;done)|skip)
   .have k2:=Z5 O g l (by omega) b2;have j:((g.length:Int)==0)=false:=by simp_all
    have k:(g.length==0)=false:=by grind
    simp only[k] at hS;refine Ac (vs:=[.b S]) RX (by simp) (by simp) λn0 a=>?_;clear a;simp only[push_cast,seval];cases h:(HO g).2
    all_goals simp only[h] at k2 hS
    all_goals ((try simp only[bq] at hS);subst hS)
    all_goals (try simp only )
    all_goals (repeat' (first|((first|refine Ab (by exact d) ?_|refine Ab (by exact c) ?_|refine Ab (by exact k1) ?_|refine Ab (by exact k2) ?_|refine As (by omega) ?_);(try simp only[push_cast,seval,j]))|intro _))
    all_goals (first|(refine Af ?_;simp[get];done)|(exact Gj;done)|skip)
end Go.Ir
section
namespace Go.Ir
section tree
variable{P:Ad→Prop}{Q:List Ad→Prop}{R:List AD→Prop}
theorem wH(hp:∀p:Ad,R p.cases->Q p.parts->P p)(e:Q [])(q1:∀p ps,P p->Q ps->Q (p::ps))(f:R [])(i:∀(c) (cs),Q c.2->R cs->R (c::cs)) :
  ∀N,(∀p:Ad,p.wt<N->P p)/\(∀ps,A7 ps<N->Q ps)/\(∀cs,De cs<N->R cs):=by
 intro N
 induction N with
 | zero=>grind
 | succ N g=>
  have b:∀p:Ad,p.wt<N+1->P p:=λp h=>by rw[p.wt_eq] at h;grind
  have d:∀ps,A7 ps<N+1->Q ps:=by
   intro ps
   induction ps with
   | nil=>intro _;exact e
   | cons p ps a=>intro h;rw[A5] at h;grind
  refine⟨b,d,λcs=>?_⟩
  induction cs with
  | nil=>intro _;exact f
  | cons c cs a=>intro h;rw[Bn] at h;grind
theorem CA(hp:∀p:Ad,R p.cases->Q p.parts->P p)(a:Q [])(q1:∀p ps,P p->Q ps->Q (p::ps))(b:R [])(d:∀(c) (cs),Q c.2->R cs->R (c::cs)) ps:Q ps:=
 (wH hp a q1 b d _).2.1 ps (Ab4 _)
end tree
theorem qN{s}(h:BF s=true):s≠[]:=by rintro rfl;cases h
theorem Ci k:AI k=true↔k=7\/k=8\/k=9:=by unfold AI;simp;omega
theorem Ads{a:Type}{l:List a}(h:((l.length:Int)==0)=true):l=[]:=by simp_all
theorem HY p c (b:(p.kind==11)=false)(d:AI p.kind=false):IB p c=(p.fieldsB&&!(p.kind==10&&!c)):=by
 have ⟨k,t,nm,st,cs,ps⟩:=p;simp only at b d;have f:(k==7)=false/\(k==8)=false/\(k==9)=false:=by
  have:¬(k=7\/k=8\/k=9):=λh=>by rw[(Ci k).2 h] at d;cases d
  simp;omega
 have ⟨f,h8,h9⟩:=f;unfold IB OJ wT wN wS Ad.fieldsB AM;simp only;have r:(t==t)=true:=by simp
 have q:(nm==nm)=true:=by simp
 have e:(st==st)=true:=by simp
 by_cases g:k=1
 .subst g;grind
 by_cases a:k=10
 .subst a;grind
 by_cases i:k=2
 .subst i;grind
 by_cases j:k=3
 .subst j;simp only[bq,AbA,Ab9,rn,q,e,HH];grind
 by_cases l:k=4
 .subst l;grind
 by_cases m:k=5
 .subst m;grind
 by_cases o:k=6
 .subst o;grind
 grind
theorem X9(n:Nat):decide ((n:Int)>0)=!((n:Int)==0):=by grind
theorem Yy{k}(h:AI k=true):w8 k=(k !=9):=by rcases(Ci k).1 h with rfl|rfl|rfl<;>rfl
theorem MB ps:∀d c a l,(BZ ps d c a l).1=Be ps (d+1) c a:=by
 refine CA (P:=λp=>∀d c l,((p.fieldsB&&!(p.kind==10&&!c))&&(p.chk d c l).1)=p.formedB (d+1) c)
  (Q:=λps=>∀d c a l,(BZ ps d c a l).1=Be ps (d+1) c a)
  (R:=λcs=>∀k d c n seen l,AI k=true->(Ey cs k d c n seen l).1=(decide ((n:Int)<=20)&&Cc cs k d c seen)) ?_ ?_ ?_ ?_ ?_ ps
 .intro p v o d c l;rw[p.chk_eq,p.formedB_eq];by_cases g:p.kind=11
  .have i:AI p.kind=false:=by rw[g];rfl
   have f:(p.kind==11)=true:=by simpa using g
   have h:=o (d+1) c false l;simp only[f,i,AbA,Ab9,Ab7];have u:p.fieldsB=(BF p.name&&(p.text==[]&&(p.style==[]&&((p.cases.length:Int)==0)))):=by unfold Ad.fieldsB AM;rw[g];simp
   have j:(p.kind==10)=false:=by rw[g];rfl
   have t:decide (d+1>8)=decide (d>=8):=by simp;omega
   have s:=X9 p.cases.length;rw[u,j];unfold N5;rw[t,s,<-h];generalize BF p.name=m;generalize(p.text==[])=a2;generalize(p.style==[])=a3;generalize((p.cases.length:Int)==0)=a4;cases decide (d>=8) with
   | true=>cases m<;>cases a2<;>cases a3<;>cases a4<;>rfl
   | false=>simp only[Ab7,Ab9];generalize BZ p.parts (d+1) c false l=r;grind
  .have f:(p.kind==11)=false:=by simpa using g
   simp only[f,Ab9,Ab7];cases i:AI p.kind with
   | true=>
    have h:=v p.kind (d+1) c p.cases.length [] l i;have u:p.fieldsB=(BF p.name&&(p.text==[]&&(p.style==[]&&((p.parts.length:Int)==0)))):=by unfold Ad.fieldsB AM;rcases(Ci _).1 i with e|e|e<;>(rw[e];simp)
    have j:(p.kind==10)=false:=by rcases(Ci _).1 i with e|e|e<;>(rw[e];rfl)
    have t:decide (d+1>8)=decide (d>=8):=by simp;omega
    have s:=X9 p.parts.length;have q:decide ((p.cases.length:Int)>20)=!decide ((p.cases.length:Int)<=20):=by grind
    have z:decide ((p.cases.length:Int)<1)=true->Cc p.cases p.kind (d+1) c []=false:=by intro y;have:p.cases=[]:=List.length_eq_zero_iff.1 (by simp at y;omega);rw[this];simp[Cc]
    rw[u,j];unfold Jc;rw[t,s,q];simp only[AbA];generalize BF p.name=m;generalize(p.text==[])=a2;generalize(p.style==[])=a3;generalize((p.parts.length:Int)==0)=a4;generalize decide ((p.cases.length:Int)<1)=a5 at *;generalize Cc p.cases p.kind (d+1) c []=F at *;generalize decide ((p.cases.length:Int)<=20)=w at *;cases decide (d>=8) with
    | true=>cases m<;>cases a2<;>cases a3<;>cases a4<;>rfl
    | false=>
     simp only[Ab7,Ab9];generalize Ey p.cases p.kind (d+1) c p.cases.length [] l=r at *;have ⟨b,l1⟩:=r;simp only at h;subst h;cases a5 with
     | true=>grind
     | false=>cases F<;>cases m<;>cases a2<;>cases a3<;>cases a4<;>cases w<;>rfl
   | false=>simp only[Ab9,Ab7];rw[HY p c f i];simp
 .intro d c a l;rfl
 .intro p ps hp o d c a l;rw[JZ,Bv,<-hp d c l];grind
 .intro k d c n seen l _;simp[Ey,Cc]
 .intro x cs o v k d c n seen l i;rw[Kb,Dj,Yy i,<-o d (c||(k !=9)) false l];generalize(!Lv k x.1||seen.contains x.1)=m;generalize BZ x.2 d (c||(k !=9)) false l=r;grind
theorem Ms ps:∀d c b,Be ps d c b=true->CV ps=(F3 ps).length:=by
 refine CA (P:=λp=>∀d c,p.formedB d c=true->p.lenB=p.textB.length)
  (Q:=λps=>∀d c b,Be ps d c b=true->CV ps=(F3 ps).length)
  (R:=λcs=>∀k d c keys,Cc cs k d c keys=true->E8 cs=(HV cs).length) ?_ ?_ ?_ ?_ ?_ ps
 .intro p u l d c h;rw[p.formedB_eq] at h;rw[p.lenB_eq,p.textB_eq];by_cases g:p.kind=11
  .have v:(p.kind==1)=false:=by rw[g];rfl
   have r:(p.kind==10)=false:=by rw[g];rfl
   have a:(p.kind==11)=true:=by simpa using g
   rw[a,Amm rfl,AaS] at h;have s:=l _ _ _ h.2;simp only[v,r,a,AbA,Ab9,Ab7];cases p.parts.isEmpty<;>simp[s]<;>omega
  .have a:(p.kind==11)=false:=by simpa using g
   rw[a,AfL (by simp)] at h;cases m:AI p.kind with
   | true=>
    rw[m,Amm rfl,AaS] at h;have s:=u _ _ _ _ h.2;have q:(p.kind==1)=false/\(p.kind==10)=false/\(p.kind==2)=false/\(decide (p.kind>=3)&&decide (p.kind<=9))=true:=by rcases(Ci _).1 m with e|e|e<;>(rw[e];decide)
    have ⟨q,e10,e2,f⟩:=q;simp only[q,e10,e2,a,f,AbA,Ab9,Ab7];unfold Pr AcG AdP Aeo;rw[Amm f,m];cases i:(p.style==[])<;>simp[s]<;>omega
   | false=>
    rw[m,AfL (by simp)] at h;unfold IB at h;simp only[AaS] at h;have ⟨⟨⟨⟨⟨hk,t⟩,hp⟩,ht⟩,hn⟩,i⟩:=h;have t:=Ads t;rw[t];by_cases k1:p.kind=1
    .simp[k1]
    by_cases k10:p.kind=10
    .simp[k10]
    have e:∀j:Int,p.kind≠j->(p.kind==j)=false:=λj h=>by simpa using h
    by_cases k2:p.kind=2
    .have o:p.style=[]:=by unfold wS at i;grind
     rw[k2,o];simp[Pr,E8]<;>omega
    have w:p.kind=3\/p.kind=4\/p.kind=5\/p.kind=6:=by unfold OJ at hk;grind
    have f:(decide (p.kind>=3)&&decide (p.kind<=9))=true:=by simp;omega
    simp only[e 1 k1,e 10 k10,e 2 k2,a,f,AbA,Ab9,Ab7];unfold Pr AcG AdP Aeo;rw[Amm f,m];cases i:(p.style==[])<;>simp[E8,HV]<;>omega
 .intro d c b _;simp[CV,F3]
 .intro p ps hp l d c b h;rw[Bv,AaS,AaS] at h;rw[Ig,TT,Ajd,hp _ _ h.2.1,l _ _ _ h.2.2]
 .intro k d c keys _;simp[E8,HV]
 .intro x cs l u k d c keys h;rw[Dj,AaS,AaS] at h;rw[Gx,UU,l _ _ _ h.2.1,u _ _ _ _ h.2.2];simp<;>omega
mutual
def Ad.nms:Ad->List Aa
 | ⟨k,_,n,_,cs,ps⟩=>(if decide (k>=2)&&decide (k<=9) then[n] else[])++(F6 ps++GH cs)
def F6:List Ad->List Aa
 | []=>[]
 | p::ps=>p.nms++F6 ps
def GH:List (Aa×List Ad)->List Aa
 | []=>[]
 | (_,ps)::cs=>F6 ps++GH cs
end
theorem Ad.nms_eq(p:Ad):p.nms=(if decide (p.kind>=2)&&decide (p.kind<=9) then[p.name] else[])++(F6 p.parts++GH p.cases):=by cases p;simp only[Ad.nms]
theorem ON p ps:F6 (p::ps)=p.nms++F6 ps:=by simp only[F6]
theorem On(c:AD)(cs:List AD):GH (c::cs)=F6 c.2++GH cs:=by have ⟨k,q⟩:=c;simp only[GH]
def EU(l a m:List Aa):Prop:=(∀x,x∈a↔x∈l\/x∈m)/\(l.Nodup->a.Nodup)
theorem EU.refl l:EU l l []:=⟨λx=>by simp,λh=>h⟩
theorem EU.trans{a b c m n}(h:EU a b m)(k:EU b c n):EU a c (m++n):=
 ⟨λx=>by rw[k.1,h.1];simp[or_assoc],λd=>k.2 (h.2 d)⟩
theorem EU.same{a b m n}(h:EU a b m)(c:∀x,x∈m↔x∈n):EU a b n:=⟨λx=>by rw[h.1,c],h.2⟩
theorem V4{l}{x:Aa}(h:l.Nodup)(a:x∉l):(l++[x]).Nodup:=by rw[A0n];grind
theorem Uc x l:EU l (Pd x l) [x]:=by
 unfold Pd;cases h:l.contains x with
 | true=>
  have a:x∈l:=by simpa using h
  exact⟨λy=>by grind,λh=>h⟩
 | false=>
  have a:x∉l:=by simpa using h
  exact⟨λy=>by simp,λh=>V4 h a⟩
theorem Aa6 k x l:EU l (AdU k x l) (if decide (k>=2)&&decide (k<=9) then[x] else[]):=by
 unfold AdU;cases a:(decide (k>=2)&&decide (k<=9)) with
 | false=>simp only[AyN,Ab7,Ab9];exact EU.refl l
 | true=>have:=Uc x l;unfold Pd at this;grind
theorem Vd ps:∀l,EU l (DL ps l) (F6 ps):=by
 refine CA (P:=λp=>∀l,EU l (p.names l) p.nms) (Q:=λps=>∀l,EU l (DL ps l) (F6 ps)) (R:=λcs=>∀l,EU l (G4 cs l) (GH cs)) ?_ ?_ ?_ ?_ ?_ ps
 .intro p b a l;rw[p.names_eq,p.nms_eq];exact(Aa6 _ _ _).trans ((a _).trans (b _))
 .intro l;simp only[DL,F6];exact EU.refl l
 .intro p ps hp a l;rw[RG,ON];exact(hp l).trans (a _)
 .intro l;simp only[G4,GH];exact EU.refl l
 .intro c cs a b l;rw[R2,On];exact(a l).trans (b _)
theorem Un{p:Ad}(h:p.fieldsB=true):(if decide (p.kind>=2)&&decide (p.kind<=9) then[p.name] else[])=(if !(p.kind==11)&&!(p.name==[]) then[p.name] else[]):=by
 have ⟨k,t,nm,st,cs,ps⟩:=p;unfold Ad.fieldsB AM at h;simp only at h⊢;have e:∀j:Int,k≠j->(k==j)=false:=λj h=>by simpa using h
 by_cases k1:k=1
 .grind
 by_cases k10:k=10
 .grind
 rw[e 1 k1,e 10 k10] at h;simp only[Ab7,Ab9,AaS] at h;have a:=qN h.1;grind
theorem Lb{p:Ad}(h:p.fieldsB=true):(AI p.kind=false->p.cases=[])/\((p.kind==11)=false->p.parts=[])/\(p.kind==11||AI p.kind->p.text=[]/\p.style=[]):=by
 have ⟨k,t,nm,st,cs,ps⟩:=p;unfold Ad.fieldsB AM at h;simp only at h⊢;have e:∀j:Int,k≠j->(k==j)=false:=λj h=>by simpa using h
 have nil:∀{f:Type} (l:List f),((l.length:Int)==0)=true->l=[]:=λl h=>Ads h;by_cases k1:k=1
 .subst k1;simp only[rn,AbA,AaS] at h;exact⟨λ_=>nil _ h.2.2.2.1,λ_=>nil _ h.2.2.2.2,λc=>by cases c⟩
 by_cases k10:k=10
 .grind
 rw[e 1 k1,e 10 k10] at h;simp only[Ab7,Ab9,AaS] at h;have ⟨hn,ht,h⟩:=h;by_cases k2:k=2
 .grind
 by_cases kB:k=11
 .grind
 rw[e 2 k2,e 11 kB] at h;simp only[Ab7,Ab9] at h;by_cases a:AI k=true
 .have b:(k==7||k==8||k==9)=true:=by rcases(Ci k).1 a with rfl|rfl|rfl<;>rfl
  grind
 .have d:AI k=false:=by simpa using a
  have g:k≠7/\k≠8/\k≠9:=⟨λe=>a ((Ci k).2 (.inl e)),λe=>a ((Ci k).2 (.inr (.inl e))),λe=>a ((Ci k).2 (.inr (.inr e)))⟩
  grind
theorem qC ps:∀d c a l,(BZ ps d c a l).1=true->EU l (BZ ps d c a l).2 (F6 ps):=by
 refine CA (P:=λp=>p.fieldsB=true->∀d c l,(p.chk d c l).1=true->EU l (p.chk d c l).2 p.nms)
  (Q:=λps=>∀d c a l,(BZ ps d c a l).1=true->EU l (BZ ps d c a l).2 (F6 ps))
  (R:=λcs=>∀k d c n seen l,(Ey cs k d c n seen l).1=true->EU l (Ey cs k d c n seen l).2 (GH cs)) ?_ ?_ ?_ ?_ ?_ ps
 .intro p w o s d c l h;have ⟨hc,hp,_⟩:=Lb s;rw[p.chk_eq] at h⊢;rw[p.nms_eq,Un s];have f:∀q m,EU l q m->EU l (if !(p.kind==11)&&!(p.name==[]) then Pd p.name q else q) ((if !(p.kind==11)&&!(p.name==[]) then[p.name] else[])++m):=by
   intro q m y;cases(!(p.kind==11)&&!(p.name==[])) with
   | true=>simp only[AbA];exact(y.trans (Uc p.name q)).same λx=>by grind
   | false=>simpa using y
  by_cases g:p.kind=11
  .have i:AI p.kind=false:=by rw[g];rfl
   have e:(p.kind==11)=true:=by simpa using g
   rw[hc i];have j:GH []=[]:=by simp only[GH]
   rw[j,At9];have z:=o (d+1) c false l;simp only[e,i,AbA,Ab9,Ab7] at h f⊢;grind
  .have e:(p.kind==11)=false:=by simpa using g
   rw[hp e];have j:F6 []=[]:=by simp only[F6]
   rw[j,Avc];simp only[e,Ab9,Ab7] at h f⊢;cases i:AI p.kind with
   | false=>
    rw[i] at h;rw[hc i];have j:GH []=[]:=by simp only[GH]
    rw[j];simp only[Ab9,Ab7] at h⊢;exact f l [] (EU.refl l)
   | true=>
    rw[i] at h;have z:=w p.kind (d+1) c p.cases.length [] l;simp only[AbA] at h⊢;by_cases A:decide (d>=8)=true
    .grind
    .have u:decide (d>=8)=false:=by simpa using A
     rw[u] at h⊢;simp only[Ab7,Ab9] at h⊢;generalize Ey p.cases p.kind (d+1) c p.cases.length [] l=r at *;have ⟨b,l1⟩:=r;cases b with
     | false=>simp at h
     | true=>grind
 .intro d c a l _;simp only[BZ,F6];exact EU.refl l
 .intro p ps hp o d c a l h;rw[JZ] at h⊢;rw[ON];split at h
  .cases h
  .rename_i v;rw[AfL v];have s:p.fieldsB=true:=by grind
   have t:=hp s d c l;generalize p.chk d c l=r at *;have ⟨b,l1⟩:=r;cases b with
   | false=>simp at h
   | true=>exact(t rfl).trans (o _ _ _ _ h)
 .intro k d c n seen l _;simp only[Ey,GH];exact EU.refl l
 .intro x cs o w k d c n seen l h;rw[Kb] at h⊢;rw[On];split at h
  .cases h
  .rename_i v;rw[AfL v];have t:=o d (c||(k !=9)) false l;generalize BZ x.2 d (c||(k !=9)) false l=r at *;have ⟨b,l1⟩:=r;cases b with
   | false=>simp at h
   | true=>exact(t rfl).trans (w _ _ _ _ _ _ h)
theorem L6{a b:List Aa}(c:a.Nodup)(h:∀x∈a,x∈b):a.length<=b.length:=by
 induction a generalizing b with
 | nil=>simp
 | cons x a d=>
  rw[AzI] at c;have e:x∈b:=h x (by simp);have:=d (b:=b.erase x) c.2 λy f=>by grind
  grind
theorem DS ps:Ck ps=Dw ps:=by
 unfold Ck Dw;rw[MB ps 0 false false []];have a:(0:Int)+1=1:=rfl;rw[a];cases e:Be ps 1 false false with
 | false=>simp
 | true=>have b:=qC ps 0 false false [] (by rw[MB,a,e]);have c:=Vd ps [];have f:=Ms ps _ _ _ e;have g:=L6 (b.2 A1O) λx d=>(c.1 x).2 ((b.1 x).1 d);have h:=L6 (c.2 A1O) λx d=>(b.1 x).2 ((c.1 x).1 d);grind
end Go.Ir
end
