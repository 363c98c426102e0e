/- A part of the proof that the law EvalIsolates answers true at every input of a bulk of at most 2^20. -/
import Derived.Test.YtmlnblijickboaaGreatDoorPad
import Derived.Lib.LaidTab
import Derived.Lib.ItoaLen
import Derived.MakeChecks
import Derived.Shelf.Small.Strs
import Derived.Shelf.Strings.OnBuilder
import Derived.Shelf.Strings.Split
import Derived.Shelf.Strings.Cut
import Derived.Shelf.Strings.Replace
import Derived.Shelf.Slices.ReverseS
import Derived.Shelf.SlIter.Nil
import Derived.Shelf.SortM.Plain
import Derived.Shelf.SortM.SortNone
import Derived.Ground.GgzProg
import Derived.Ground.SlgmProg
import Derived.Shelf.Strings.Repeat
import Derived.Lib.ReplaceLaws
import Derived.Lib.SplitLaws
import Derived.ShapedOpen
import Derived.Shelf.Slices.Clone
import Derived.Shelf.Slices.CompactS
set_option linter.all false
set_option maxHeartbeats 4000000
open Nat renaming reduceEqDiff→rq
open Int renaming reduceBEq→rb
namespace Go.Ir
open Go.Proofs
variable(O:World)
structure WX where
 L:Ce
 vs:List Cg
 iso:Bool
def TW:Nat:=83
def wA(u:Bool)(a:Id):V:=if u then .ref a 0 else .np
def wC(X:WX)(a:V)(b:Id)(e:Int):V:=.agg [a,.arr b,.s X.L.tag,.s X.L.parent,.s X.L.dir,.sl (X.L.card.map AH.enc),.sl (X.L.ord.map AH.enc),.s X.L.dec,.s X.L.grp,.s X.L.minus,.s X.L.perc,.i .i64 X.L.prim,.i .i64 X.L.sec,.sl (X.L.lists.map Cp.enc),.sl (X.L.units.map De.enc),.sl (X.L.dates.map CJ.enc),.sl (X.L.months.map V.s),.sl (X.L.days.map V.s),.sl (X.vs.map Cg.enc),.b X.iso,.i .i64 e]
@[push_cast]theorem ApU X a b e:wC X a b e=.agg [a,.arr b,.s X.L.tag,.s X.L.parent,.s X.L.dir,.sl (X.L.card.map AH.enc),.sl (X.L.ord.map AH.enc),.s X.L.dec,.s X.L.grp,.s X.L.minus,.s X.L.perc,.i .i64 X.L.prim,.i .i64 X.L.sec,.sl (X.L.lists.map Cp.enc),.sl (X.L.units.map De.enc),.sl (X.L.dates.map CJ.enc),.sl (X.L.months.map V.s),.sl (X.L.days.map V.s),.sl (X.vs.map Cg.enc),.b X.iso,.i .i64 e]:=rfl
def Jc(a:Id)(X:WX)(u:Bool)(b:Id)(l:Ad):Au:=[(a,.tbox TW (wC X (wA u a) b 0)),(b,.arr 5 1 (Az l))]
theorem DZ{n0 n n' m}{b a:Id}(h:n<=a.1/\a.1<n'\/a=b)(c:n0<=n)(d:n'<=m):n0<=a.1/\a.1<m\/a=b:=by grind
theorem WQ{n m}{b c a:Id}(h:n<=c.1/\c.1<m\/c=b)(k:n<=a.1/\a.1<m\/a=c):n<=a.1/\a.1<m\/a=b:=by grind
theorem Fo(a b:Ad):Az a++Az b=Az (a++b):=by simp[Az]
theorem Bq(a:Ad):(Az a).length=a.length:=by simp[Az]
theorem J2{a c A C}(h:a≠c):∀i e,lk [(a,A),(c,C)] i=some e->lk [(c,C),(a,A)] i=some e:=by intro i e b;simp only[lk] at b⊢;grind
theorem G9 σ σo:over σ σo σ=σo:=by have:=Fl (σi:=σ) (σo:=σo) (pre:=[]) (λp hp=>by cases hp);simpa using this
theorem vL(a b:Id)(X:WX)(u:Bool)(l t:Ad)(c:b≠a)(h:l.length+t.length<=2^30) :
  FQ π O 94 [.ref a 0,.s t] (Jc a X u b l) (λn n' v σ'=>v=.tup [.i .i64 t.length,.ni]/\∃d:Id,(n<=d.1/\d.1<n')/\σ'=Jc a X true d (l++t)):=by
 generalize y:(fun(n n':Nat) (v:V) (σ':Au)=>v=V.tup [.i .i64 t.length,.ni]/\∃d:Id,(n<=d.1/\d.1<n')/\σ'=Jc a X true d (l++t))=R;refine Ct Agq (by simp) λn0 m=>?_;have A:a.1<n0:=m a _ (by simp[Jc,lk];rfl);have z:b.1<n0:=m b _ (by simp[Jc,lk,AsR c];rfl);clear m;have f:An π O 53 [.ref a 0] [(a,.tbox TW (wC X (wA u a) b 0))] (.tup []) [(a,.tbox TW (wC X (wA true a) b 0))]:=by
  cases u with
  | true=>exact Xs O
  | false=>exact XX O (by kernel_rfl)
 simp only[ApU] at f;have o:(a=b)=False:=Amp (AsR c);have q:(b=a)=False:=Amp c;simp only[push_cast,seval,rq,o,q,Jc];intro k1;refine BJ f (λi e h=>BA (τ:=[(b,Be.arr 5 1 (Az l))]) h) ?_;rw[If (λp hp=>by simp at hp;subst hp;exact c)];clear f;have r:∀k j:Nat,((n0+1+k1+1+k,j)=a)=False:=λk j=>Amp λg=>by have:=Ayb Prod.fst g;simp only at this;omega
 have w:∀k j:Nat,((n0+1+k,j)=b)=False:=λk j=>Amp λg=>(by have:=Ayb Prod.fst g;(try simp only at this);omega)
 have x:∀k j:Nat,(b=(n0+1+k,j))=False:=λk j=>Amp λg=>Axj (w k j) g.symm;simp only[push_cast,seval,rq,o,q,r,Bq];intro k2;refine As (by unfold AM;omega) ?_;simp only[push_cast,seval,rq,o,q,r,Bq];intro k3 B;subst y;rw[Fo];exact⟨_,Aj.refl,[.i .i64 t.length,.ni],Jc a X true (n0+1+k1+1+k2,14) (l++t),⟨rfl,rfl,trivial⟩,J2 (AsR (λg=>Axj (r _ _) g)),rfl,_,⟨by simp only;omega,by simp only;omega⟩,rfl⟩
theorem Ahy a b X u l (c:b≠a):An π O 95 [.ref a 0] (Jc a X u b l) (.i .i64 l.length) (Jc a X u b l):=by refine Ah (vs:=[.i .i64 l.length]) Ao0 (by simp) (λ_ h=>h) λn0 d=>?_;clear d;have e:(a=b)=False:=Amp (AsR c);have f:(b=a)=False:=Amp c;simp only[push_cast,seval,rq,e,f,Jc,Bq];intros;exact AC (by simp[get]) (λ_ _ h=>h)
theorem AW{a b X u l}:lk (Jc a X u b l) a=some (.tbox TW (wC X (wA u a) b 0)):=by simp[Jc,lk]
theorem Pl{a b x X u l}(c:a≠x)(d:b≠x):lk (Jc a X u b l) x=none:=by simp[Jc,lk,c,d]
theorem LM{a b x X u l e σo}(d:a≠x)(f:b≠x):over (Jc a X u b l) σo ((x,e)::Jc a X u b l)=σo++[(x,e)]:=
 Fl (pre:=[(x,e)]) (λp hp q c=>by simp[Jc] at hp c;grind)
theorem Aj.ownTbox{O T nt n env}{τ:Au}{b A B}(e sz k:Nat):Aj O nt ⟨env,(b,.tbox T (.agg (A++.nil::B)))::τ,n⟩ ⟨env,((n,k),.arr e sz [])::(b,.tbox T (.agg (A++.arr (n,k)::B)))::τ,n+1⟩:=by
 intro X a w z;obtain⟨μ,H,D,hp,S,t,o⟩:=z;have d:μ (n,k)=none:=hp.bd _ (AfJ _);have l:=BE (v:=.slice none 0 0) d;have C:lk ((b,Be.tbox T (.agg (A++.nil::B)))::τ) b=some (.tbox T (.agg (A++.nil::B))):=by simp[lk]
 have s:((n,k):Id)≠b:=by rintro rfl;obtain⟨_,I⟩:=(hp.ents _ _ C).named;rw[d] at I;cases I
 have f:=(hp.more (Aw0 n)).new_ (n':=n+1) (w':=w) (R:=λ_=>False) ⟨rfl,rfl,rfl,AfJ _,λ_ _ _=>rfl⟩ (λ_ h=>h.elim) (σ1:=(b,.tbox T (.agg (A++.nil::B)))::τ) (λid e h=>⟨h,λ_ _ h=>h⟩) (id:=(n,k)) (e:=.arr e sz []) (val:=.slice none 0 0) d (Adx _) (AfJ _) (λF N=>by simp[Cc] at N)
  ⟨.slice none 0 0,[],Ax _ _ _,rfl,A0f w _ e sz,Aul _,(λx V=>by cases V),AO.nil_⟩
 have r:lk (((n,k),Be.arr e sz [])::(b,.tbox T (.agg (A++.nil::B)))::τ) b=some (.tbox T (.agg (A++.nil::B))):=by simp[lk,s]
 have g:=f.1.set_ r (w':=w) (e:=.tbox T (.agg (A++.arr (n,k)::B))) ⟨rfl,rfl,rfl,AfJ _,λ_ _ _=>rfl⟩ (by
  obtain⟨F,u,K,L,M,m⟩:=f.1.ents _ _ r;refine⟨F,u,K,L,M,⟨⟨by have:=m.len;simpa[cells] using this,λj c v i E=>?_⟩,m.one⟩⟩;simp only[cells] at i;by_cases G:j<A.length
  .rw[AxZ G] at i;exact m.at_ j c v (by simp only[cells];rw[AxZ G];exact i) E
  .rw[At8 (by omega)] at i;cases y:j-A.length with
   | zero=>rw[y] at i;simp only[Azu,Arp] at i;subst i;have:=m.at_ j .nil v (by simp only[cells];rw[At8 (by omega),y];rfl) E;rw[this.nil_inv];exact .arr _ _ (Ax _ _ _) rfl
   | succ q=>rw[y] at i;simp only[AxR] at i;exact m.at_ j c v (by simp only[cells];rw[At8 (by omega),y];exact i) E)
 have U:upd (((n,k),Be.arr e sz [])::(b,.tbox T (.agg (A++.nil::B)))::τ) b (.tbox T (.agg (A++.arr (n,k)::B)))=((n,k),.arr e sz [])::(b,.tbox T (.agg (A++.arr (n,k)::B)))::τ:=by simp[upd,s]
 rw[U] at g;refine⟨_,H,⟨D.size,D.defers,λW=>(D.at_ W).mono l (λ_ _ h=>h)⟩,g.1,S.trans (f.2.trans g.2),λid p J=>?_,AvD o (Aw0 _)⟩;simp only at o;rw[Cd _ _ (by rintro rfl;simp at p;omega)];exact t id p J


def Abp:List GW->Nat->List Ad×Nat
 | [],i=>([],i)
 | s::L,i=>(s.keys[(Abp L i).2 % s.keys.length]?.getD []::(Abp L i).1,(Abp L i).2 / s.keys.length)
abbrev cW:=List GW×List (List Al)
def AkS(a:List Ad->eN)(L:List GW)(ps:List Al)(n:Nat):List (List Al):=(List.range n).map λi=>Xd (a (Abp L i).1) [] ps []
def Arn(l:Loc)(ps:List Al):cW×Int:=
 if !Fs ps then(([],[]),1)
 else if decide ((RF 1 (SS ps):Int)>400) then(([],[]),6)
 else if !DD [] l.card||!DD [] l.ord then(([],[]),18)
 else((SS ps,AkS (pkP l (SS ps)) (SS ps) ps (RF 1 (SS ps))),0)
def m7:List Ad->List Ad->Bool
 | _,[]=>true
 | d,k::r=>!d.contains k&&m7 (d++[k]) r
def aR(l:List Ad):Bool:=match l.getLast? with
 | none=>false
 | some k=>k==Cb
def AnA(s:GW):Bool:=Bk s.kind&&(BN s.name&&aR s.keys)
def XD:List GW->List GW->Bool
 | _,[]=>true
 | d,s::r=>AnA s&&(m7 [] s.keys&&(!d.any (SH s.kind s.name)&&XD (d++[s]) r))
def AjC(f:cW):Bool:=XD [] f.1&&(decide ((RF 1 f.1:Int)<=400)&&((f.2.length:Int)==(RF 1 f.1:Int)))

def RT:List Ad->Int->Int
 | [],n=>n
 | x::r,n=>RT r (max n (x.length:Int))
def CL(e:Bool):List Cg->Bool
 | []=>e
 | v::r=>!(decide (RT v.list (v.text.length:Int)>200)||decide ((v.list.length:Int)>12)||decide ((v.name.length:Int)>60))&&CL e r
theorem Zz(vs:List Cg)(B:vs.length<=2^40)(z:∀v∈vs,v.list.length<=2^40):An π O 25 [.sl (vs.map Cg.enc)] [] (.b (CL (decide ((vs.length:Int)<=30)) vs)) []:=by
 generalize y:decide ((vs.length:Int)<=30)=E;generalize hS:CL E vs=S;refine Ah (vs:=[.b S]) AoL (by simp) (by simp) λn0 t=>?_;clear t;simp only[push_cast,seval,rq];intros;refine Ak vs.length (Inv:=λm st=>∃dn c n,vs=dn++c/\m=c.length/\CL E c=S/\st=⟨[(0,.sl (vs.map Cg.enc)),(3,.i .i64 dn.length)],[],n⟩) ⟨_,Aj.refl,[],vs,_,rfl,rfl,hS,rfl⟩ ?_;clear hS;rintro m _ ⟨dn,c,n,o,rfl,j,rfl⟩;cases c with
 | nil=>
  have g:decide ((dn.length:Int)<(vs.length:Int))=false:=by rw[o];simp
  rw[CL] at j;simp only[push_cast,seval,rq,g,AaT,y];intros;exact Ae (by simp[get,j])
 | cons v c=>
  have g:decide ((dn.length:Int)<(vs.length:Int))=true:=by rw[o];simp;omega
  have h:=Ay o;have d:(vs.map Cg.enc)[dn.length]?=some (.agg [.s v.name,.i .i64 v.type,.s v.text,.i .i64 v.date,.sl (v.list.map V.s)]):=by rw[o,AtX,At8 (by simp)];simp[Cg.enc_eq]
  have A:=z v (by rw[o];simp);rw[CL] at j;simp only[push_cast,seval,rq,g,d,Aiv h,AaT];intros;refine Ak v.list.length (Inv:=λm st=>∃kd l n a,v.list=kd++l/\m=l.length/\RT v.list (v.text.length:Int)=RT l a/\st=⟨[(0,.sl (vs.map Cg.enc)),(3,.i .i64 dn.length),(4,.i .i64 a),(5,.i .i64 kd.length)],[],n⟩) ⟨_,Aj.refl,[],v.list,_,_,rfl,rfl,rfl,rfl⟩ ?_;rintro m _ ⟨kd,l,C,a,f,rfl,p,rfl⟩;cases l with
  | nil=>
   have e:decide ((kd.length:Int)<(v.list.length:Int))=false:=by rw[f];simp
   rw[RT] at p;rw[p] at j;simp only[push_cast,seval,rq,e,d,Aiv h,AaT,Aa v (dn:=dn) (by omega)];clear p f
   repeat' (first|(((first|apply Ac|apply Af|apply Ag)<;>intro _h)<;>simp only[push_cast,seval,rq,_h,e,d,Aiv h,AaT,Aa v (dn:=dn) (by omega)])|intro _)
   all_goals (first|(simp only[*,bq,Agp,AfT,rb,reduceCtorEq] at j;subst j;exact Ae (by simp[get]))|skip)
   have u:decide ((v.list.length:Int)>12)=false:=by assumption
   have w:decide ((v.name.length:Int)>60)=false:=by assumption
   have x:decide (a>200)=false:=by assumption
   simp only[u,w,x,bq,Agp,AfT,rb,reduceCtorEq] at j;exact⟨_,_,Adx _,Aj.refl,dn++[v],c,_,by rw[o];simp,rfl,j,rfl⟩
  | cons k l=>
   have e:decide ((kd.length:Int)<(v.list.length:Int))=true:=by rw[f];simp;omega
   have r:=Ay f;have q:(v.list.map V.s)[kd.length]?=some (.s k):=by rw[f,AtX,At8 (by simp)];simp
   rw[RT] at p;simp only[push_cast,seval,rq,e,d,Aiv h,q,Aiv r,AaT,Aa k (dn:=kd) (by omega)];intros;exact⟨_,_,Adx _,Aj.refl,kd++[k],l,_,_,by rw[f];simp,rfl,p,rfl⟩
def Gp(s:Ad):Nat:=s.length+30
def E6(l:List Ad):Nat:=Bt Gp l
theorem Gg l (k:E6 l<=2^40):An π O 60 [.sl (l.map V.s)] [] (.i .i64 (E6 l)) []:=by
 have f:l.length<=E6 l:=CX (λx=>by unfold Gp;omega) l;generalize hS:E6 l=S at *;refine Ah (vs:=[.i .i64 S]) Asg (by simp) (by simp) λn0 d=>?_;clear d;simp only[push_cast,seval,rq];intros;refine Ak l.length (Inv:=λm st=>∃dn b n,∃a:Nat,l=dn++b/\m=b.length/\a+E6 b=S/\st=⟨[(0,.sl (l.map V.s)),(3,.i .i64 a),(4,.i .i64 dn.length)],[],n⟩) ⟨_,Aj.refl,[],l,_,0,rfl,rfl,by rw[hS];omega,rfl⟩ ?_;clear hS;rintro m _ ⟨dn,b,n,a,e,rfl,c,rfl⟩;cases b with
 | nil=>
  have:a=S:=by simpa[E6,Bt] using c
  subst this;simp only[push_cast,seval,rq,e];intros
  all_goals (first|(refine Ae ?_;simp[get]<;>(intros;omega);done)|(refine Ai ?_;simp[push_cast,get];done)|skip)
 | cons p b=>
  have g:=Ay e;unfold E6 at c;rw[Bt] at c;have hp:Gp p=p.length+30:=rfl;have h:IntKind.i64.wrap ((p.length:Int)+30)=((Gp p:Nat):Int):=by rw[wrap64 (by omega) (by omega),hp];omega
  have j:IntKind.i64.wrap ((a:Int)+((Gp p:Nat):Int))=((a+Gp p:Nat):Int):=by rw[wrap64 (by omega) (by omega)];omega
  simp only[push_cast,seval,rq,e,Aa p (dn:=dn) (by omega),h,j];intros;exact⟨_,_,Adx _,Aj.refl,dn++[p],b,_,a+Gp p,by simp,rfl,by unfold E6;omega,rfl⟩
def Cp.sz(x:Cp):Nat:=E6 [x.style,x.two,x.start,x.mid,x.fin]
def De.sz(x:De):Nat:=E6 [x.unit,x.cls,x.pat]
def CJ.sz(x:CJ):Nat:=E6 [x.skel,x.pat]
def Jr(L:Ce):Nat:=(E6 [L.tag,L.parent,L.dir,L.dec,L.grp,L.minus,L.perc]+E6 L.months+E6 L.days+100*(L.card.length+L.ord.length))+Bt Cp.sz L.lists+Bt De.sz L.units+Bt CJ.sz L.dates
theorem Adc(L:Ce)(y:Jr L<=2^40):An π O 39 [.agg [.sl [L.enc],.nil,.nil]] [] (.i .i64 (Jr L)) []:=by
 have U:L.lists.length<=Bt Cp.sz L.lists:=CX (λx=>by unfold Cp.sz E6;simp only[Bt,Gp];omega) _;have W:L.units.length<=Bt De.sz L.units:=CX (λx=>by unfold De.sz E6;simp only[Bt,Gp];omega) _;have X:L.dates.length<=Bt CJ.sz L.dates:=CX (λx=>by unfold CJ.sz E6;simp only[Bt,Gp];omega) _;have J:=Gg O [L.tag,L.parent,L.dir,L.dec,L.grp,L.minus,L.perc] (by unfold Jr at y;omega);have M:=Gg O L.days (by unfold Jr at y;omega);have c3:=Gg O L.months (by unfold Jr at y;omega);simp only[Am1,Asz] at J;generalize hS:Jr L=S;unfold Jr at hS y;generalize E6 [L.tag,L.parent,L.dir,L.dec,L.grp,L.minus,L.perc]=r at *;generalize E6 L.days=z at *;generalize E6 L.months=t at *;generalize Z:r+t+z+100*(L.card.length+L.ord.length)=A at *;refine Ah (vs:=[.i .i64 S]) Ari (by simp) (by simp) λn0 H=>?_;clear H;simp only[push_cast,seval,rq];intros;refine Ak 1 (Inv:=λm st=>∃n,∃a:Nat,(a=0/\m=1\/a=S/\m=0)/\st=⟨[(1,.ref (n0,1) 0),(3,.i .i64 a),(4,.i .i64 ((1-m:Nat):Int))],[((n0,1),.box (.agg [.sl [L.enc],.nil,.nil]))],n⟩) ⟨_,Aj.refl,_,0,.inl ⟨rfl,rfl⟩,rfl⟩ ?_;rintro m _ ⟨n,a,Y,rfl⟩;rcases Y with⟨rfl,rfl⟩|⟨rfl,rfl⟩
 .have B:IntKind.i64.wrap ((r:Int)+(t:Int))=(r:Int)+(t:Int):=by rw[wrap64 (by omega) (by omega)]
  have C:IntKind.i64.wrap ((r:Int)+(t:Int)+(z:Int))=(r:Int)+(t:Int)+(z:Int):=by rw[wrap64 (by omega) (by omega)]
  have D:IntKind.i64.wrap ((L.card.length:Int)+(L.ord.length:Int))=(L.card.length:Int)+(L.ord.length:Int):=by rw[wrap64 (by omega) (by omega)]
  have E:IntKind.i64.wrap (100*((L.card.length:Int)+(L.ord.length:Int)))=100*((L.card.length:Int)+(L.ord.length:Int)):=by rw[wrap64 (by omega) (by omega)]
  have F:IntKind.i64.wrap ((r:Int)+(t:Int)+(z:Int)+100*((L.card.length:Int)+(L.ord.length:Int)))=(A:Int):=by rw[wrap64 (by omega) (by omega)];omega
  have G:IntKind.i64.wrap (0+(A:Int))=(A:Int):=by rw[wrap64 (by omega) (by omega)];omega
  simp only[push_cast,seval,rq,B,C,D,E,F,G];intros;refine Ab (by exact J) ?_;simp only[push_cast,seval,rq,B,C,D,E,F,G];refine Ab (by exact c3) ?_;simp only[push_cast,seval,rq,B,C,D,E,F,G];refine Ab (by exact M) ?_;simp only[push_cast,seval,rq,B,C,D,E,F,G];intros;rename_i k1 k2 k3 k4;obtain⟨x,K⟩:∃x:Id,x=(n+1+k1,5):=⟨_,rfl⟩
  have I:x≠(n0,1):=by rw[K];simp
  rw[<-K];generalize w:((x,Be.box (.agg [.s L.tag,.s L.parent,.s L.dir,.sl (L.card.map AH.enc),.sl (L.ord.map AH.enc),.s L.dec,.s L.grp,.s L.minus,.s L.perc,.i .i64 L.prim,.i .i64 L.sec,.sl (L.lists.map Cp.enc),.sl (L.units.map De.enc),.sl (L.dates.map CJ.enc),.sl (L.months.map V.s),.sl (L.days.map V.s)]))::_:Au)=τ;have d:lk τ x=some (.box (.agg [.s L.tag,.s L.parent,.s L.dir,.sl (L.card.map AH.enc),.sl (L.ord.map AH.enc),.s L.dec,.s L.grp,.s L.minus,.s L.perc,.i .i64 L.prim,.i .i64 L.sec,.sl (L.lists.map Cp.enc),.sl (L.units.map De.enc),.sl (L.dates.map CJ.enc),.sl (L.months.map V.s),.sl (L.days.map V.s)])):=by rw[<-w];simp[lk]
  obtain⟨q,N⟩:∃q,q=A+Bt Cp.sz L.lists:=⟨_,rfl⟩;obtain⟨u,T⟩:∃u,u=q+Bt De.sz L.units:=⟨_,rfl⟩;refine Ak L.lists.length (Inv:=λm st=>∃dn b j,∃a:Nat,L.lists=dn++b/\m=b.length/\a+Bt Cp.sz b=A+Bt Cp.sz L.lists/\st=⟨[(1,.ref (n0,1) 0),(3,.i .i64 a),(4,.i .i64 0),(5,.ref x 0),(6,.i .i64 dn.length)],τ,j⟩) ⟨_,Aj.refl,[],L.lists,_,A,rfl,rfl,rfl,rfl⟩ ?_;rintro m _ ⟨dn,b,j,a,h,rfl,k,rfl⟩;cases b with
  | cons p b=>
   have f:=Ay h;rw[Bt] at k;have l:Cp.sz p<=2^40:=by omega
   have cs:An π O 60 [.sl [.s p.style,.s p.two,.s p.start,.s p.mid,.s p.fin]] [] (.i .i64 (Cp.sz p)) []:=Gg O [p.style,p.two,p.start,p.mid,p.fin] l;have o:IntKind.i64.wrap ((a:Int)+((Cp.sz p:Nat):Int))=(a:Int)+((Cp.sz p:Nat):Int):=by rw[wrap64 (by omega) (by omega)]
   have e:(L.lists.map Cp.enc)[dn.length]?=some (Cp.enc p):=by rw[h];simp
   have c:decide ((dn.length:Int)<(L.lists.length:Int))=true:=by rw[h];simp;omega
   have g:IntKind.i64.wrap ((dn.length:Int)+1)=((dn++[p]).length:Int):=Aa p (by omega);simp only[push_cast,seval,rq,e,c,g,d,o,Aiv f]
   repeat' (first|(((first|apply Ac|apply Af|apply Ag)<;>intro _h)<;>simp only[push_cast,seval,rq,_h,e,c,g,d,o,Aiv f])|(refine Ab (by exact cs) ?_;simp only[push_cast,seval,rq,e,c,g,d,o,Aiv f])|intro _)
   exact⟨_,_,Adx _,Aj.refl,dn++[p],b,_,a+Cp.sz p,by rw[h];simp,rfl,by omega,rfl⟩
  | nil=>
   have v:a=q:=by rw[Bt] at k;omega
   rw[v];have c:decide ((dn.length:Int)<(L.lists.length:Int))=false:=by rw[h];simp
   simp only[push_cast,seval,rq,c,d];intros;clear k h c;refine Ak L.units.length (Inv:=λm st=>∃dn b j,∃a:Nat,L.units=dn++b/\m=b.length/\a+Bt De.sz b=q+Bt De.sz L.units/\st=⟨[(1,.ref (n0,1) 0),(3,.i .i64 a),(4,.i .i64 0),(5,.ref x 0),(7,.i .i64 dn.length)],τ,j⟩) ⟨_,Aj.refl,[],L.units,_,q,rfl,rfl,rfl,rfl⟩ ?_;rintro m _ ⟨dn,b,j,a,h,rfl,k,rfl⟩;cases b with
   | cons p b=>
    have f:=Ay h;rw[Bt] at k;have l:De.sz p<=2^40:=by omega
    have cs:An π O 60 [.sl [.s p.unit,.s p.cls,.s p.pat]] [] (.i .i64 (De.sz p)) []:=Gg O [p.unit,p.cls,p.pat] l;have o:IntKind.i64.wrap ((a:Int)+((De.sz p:Nat):Int))=(a:Int)+((De.sz p:Nat):Int):=by rw[wrap64 (by omega) (by omega)]
    have e:(L.units.map De.enc)[dn.length]?=some (De.enc p):=by rw[h];simp
    have c:decide ((dn.length:Int)<(L.units.length:Int))=true:=by rw[h];simp;omega
    have g:IntKind.i64.wrap ((dn.length:Int)+1)=((dn++[p]).length:Int):=Aa p (by omega);simp only[push_cast,seval,rq,e,c,g,d,o,Aiv f]
    repeat' (first|(((first|apply Ac|apply Af|apply Ag)<;>intro _h)<;>simp only[push_cast,seval,rq,_h,e,c,g,d,o,Aiv f])|(refine Ab (by exact cs) ?_;simp only[push_cast,seval,rq,e,c,g,d,o,Aiv f])|intro _)
    exact⟨_,_,Adx _,Aj.refl,dn++[p],b,_,a+De.sz p,by rw[h];simp,rfl,by omega,rfl⟩
   | nil=>
    have v:a=u:=by rw[Bt] at k;omega
    rw[v];have c:decide ((dn.length:Int)<(L.units.length:Int))=false:=by rw[h];simp
    simp only[push_cast,seval,rq,c,d];intros;clear k h c;refine Ak L.dates.length (Inv:=λm st=>∃dn b j,∃a:Nat,L.dates=dn++b/\m=b.length/\a+Bt CJ.sz b=u+Bt CJ.sz L.dates/\st=⟨[(1,.ref (n0,1) 0),(3,.i .i64 a),(4,.i .i64 0),(5,.ref x 0),(8,.i .i64 dn.length)],τ,j⟩) ⟨_,Aj.refl,[],L.dates,_,u,rfl,rfl,rfl,rfl⟩ ?_;rintro m _ ⟨dn,b,j,a,h,rfl,k,rfl⟩;cases b with
    | cons p b=>
     have f:=Ay h;rw[Bt] at k;have l:CJ.sz p<=2^40:=by omega
     have cs:An π O 60 [.sl [.s p.skel,.s p.pat]] [] (.i .i64 (CJ.sz p)) []:=Gg O [p.skel,p.pat] l;have o:IntKind.i64.wrap ((a:Int)+((CJ.sz p:Nat):Int))=(a:Int)+((CJ.sz p:Nat):Int):=by rw[wrap64 (by omega) (by omega)]
     have e:(L.dates.map CJ.enc)[dn.length]?=some (CJ.enc p):=by rw[h];simp
     have c:decide ((dn.length:Int)<(L.dates.length:Int))=true:=by rw[h];simp;omega
     have g:IntKind.i64.wrap ((dn.length:Int)+1)=((dn++[p]).length:Int):=Aa p (by omega);simp only[push_cast,seval,rq,e,c,g,d,o,Aiv f]
     repeat' (first|(((first|apply Ac|apply Af|apply Ag)<;>intro _h)<;>simp only[push_cast,seval,rq,_h,e,c,g,d,o,Aiv f])|(refine Ab (by exact cs) ?_;simp only[push_cast,seval,rq,e,c,g,d,o,Aiv f])|intro _)
     exact⟨_,_,Adx _,Aj.refl,dn++[p],b,_,a+CJ.sz p,by rw[h];simp,rfl,by omega,rfl⟩
    | nil=>
     have v:a=S:=by rw[Bt] at k;omega
     rw[v];have c:decide ((dn.length:Int)<(L.dates.length:Int))=false:=by rw[h];simp
     simp only[push_cast,seval,rq,c,d];intros;clear k h c;exact⟨_,_,by omega,(by rw[<-w];exact Aj.drop1 (by simp[lk,AsR I]) (AfJ _)),_,S,.inr ⟨rfl,rfl⟩,rfl⟩
 .skip;simp only[push_cast,seval,rq,lk];intros;refine Ak 0 (Inv:=λm st=>∃j,st=⟨[(1,.ref (n0,1) 0),(3,.i .i64 a),(9,.i .i64 0)],[((n0,1),.box (.agg [.sl [L.enc],.nil,.nil]))],j⟩) ⟨_,Aj.refl,_,rfl⟩ ?_;rintro m _ ⟨j,rfl⟩;simp only[push_cast,seval,rq,lk];intros;refine Ak 0 (Inv:=λm st=>∃j,st=⟨[(1,.ref (n0,1) 0),(3,.i .i64 a),(10,.i .i64 0)],[((n0,1),.box (.agg [.sl [L.enc],.nil,.nil]))],j⟩) ⟨_,Aj.refl,_,rfl⟩ ?_;rintro m _ ⟨j,rfl⟩;simp only[push_cast,seval,rq,lk];intros;exact Ae (by simp[get])
def Q2(L:Ce):Bool:=!(decide ((L.card.length:Int)>12)||decide ((L.ord.length:Int)>12)||decide ((L.lists.length:Int)>12)||decide ((L.units.length:Int)>110)||decide ((L.dates.length:Int)>40)||decide ((L.months.length:Int)>20)||decide ((L.days.length:Int)>20))
def HE(L:Ce):Bool:=Q2 L&&((L.card++L.ord).all (λr=>GL r.cond)&&decide ((Jr L:Int)<=40000))
theorem Abh(L:Ce)(hb:Jr L<=2^40)(hw:A9 L.card+A9 L.ord<=2^24):An π O 23 [.agg [.sl [L.enc],.nil,.nil]] [] (.b (HE L)) []:=by
 have af:=Adc O L hb;have g1:=ED L.card;have g2:=ED L.ord;generalize hS:HE L=S;unfold HE at hS;refine Ah (vs:=[.b S]) Arz (by simp) (by simp) λn0 ae=>?_;clear ae;simp only[push_cast,seval,rq];intros;refine Ak 1 (Inv:=λm st=>∃n,(m=1/\(Q2 L&&((L.card++L.ord).all (λr=>GL r.cond)&&decide ((Jr L:Int)<=40000)))=S\/m=0/\decide ((Jr L:Int)<=40000)=S)/\st=⟨[(1,.ref (n0,1) 0),(3,.i .i64 ((1-m:Nat):Int))],[((n0,1),.box (.agg [.sl [L.enc],.nil,.nil]))],n⟩) ⟨_,Aj.refl,_,.inl ⟨rfl,hS⟩,rfl⟩ ?_;clear hS;rintro m _ ⟨n,⟨rfl,c⟩|⟨rfl,c⟩,rfl⟩
 .generalize U:Q2 L=F at c;unfold Q2 at U;simp only[push_cast,seval,rq,AaT]
  repeat' (first|(((first|apply Ac|apply Af|apply Ag)<;>intro _h)<;>simp only[push_cast,seval,rq,_h,AaT])|intro _)
  all_goals (first|(simp only[*,bq,Agp,AfT,rb,reduceCtorEq] at U;subst U;simp only[bq,Agp,AfT,rb,reduceCtorEq] at c;subst c;exact Ae (by simp[get]))|skip)
  have Y:F=true:=by simp only[*,bq,Agp,AfT,rb,reduceCtorEq] at U;exact U.symm
  rw[Y,Amq] at c;rename_i k1 k2 _ _ _ _ _ _ k3 k4;clear U Y;obtain⟨x,hx⟩:∃x:Id,x=(n+1+k1,4):=⟨_,rfl⟩
  have ah:x≠(n0,1):=by rw[hx];simp
  have N:x.1<n+1+k1+1+k2+1+k3+1+k4:=by rw[hx];simp only;omega
  rw[<-hx];generalize n+1+k1+1+k2+1+k3+1+k4=n1 at N⊢;have v:lk [((n0,1),Be.box (.agg [.sl [L.enc],.nil,.nil]))] x=none:=by simp[lk,AsR ah]
  rw[L.enc_eq] at v;generalize u:((x,Be.box (.agg [.s L.tag,.s L.parent,.s L.dir,.sl (L.card.map AH.enc),.sl (L.ord.map AH.enc),.s L.dec,.s L.grp,.s L.minus,.s L.perc,.i .i64 L.prim,.i .i64 L.sec,.sl (L.lists.map Cp.enc),.sl (L.units.map De.enc),.sl (L.dates.map CJ.enc),.sl (L.months.map V.s),.sl (L.days.map V.s)]))::_:Au)=τ;have f:lk τ x=some (.box (.agg [.s L.tag,.s L.parent,.s L.dir,.sl (L.card.map AH.enc),.sl (L.ord.map AH.enc),.s L.dec,.s L.grp,.s L.minus,.s L.perc,.i .i64 L.prim,.i .i64 L.sec,.sl (L.lists.map Cp.enc),.sl (L.units.map De.enc),.sl (L.dates.map CJ.enc),.sl (L.months.map V.s),.sl (L.days.map V.s)])):=by rw[<-u];simp[lk]
  have e:IntKind.i64.wrap ((L.card.length:Int)+(L.ord.length:Int))=((L.card++L.ord).length:Int):=by rw[wrap64 (by omega) (by omega)];simp
  have J:∀{env:Bm} {n:Nat},Aj O 105 ⟨env,τ,n⟩ ⟨env,[((n0,1),Be.box (.agg [.sl [L.enc],.nil,.nil]))],n⟩:=by intro env n;rw[<-u];exact Aj.drop1 v (AfJ _)
  have z:∀id:Id,id≠x->id≠(n0,1)->del τ id=τ:=by intro id Z h2;rw[<-u];simp[del,Z,h2,AsR Z,AsR h2]
  have A:∀id:Id,id≠x->id≠(n0,1)->lk τ id=none:=by intro id Z h2;rw[<-u];simp[lk,AsR Z,AsR h2]
  clear u v;obtain⟨C,B⟩:∃C,C=L.card++L.ord:=⟨_,rfl⟩
  rw[<-B] at e c;have X:C.length<=2^26:=by rw[B,Aaf];omega
  have ac:∀r∈C,D8 r.cond<=2^24:=by
   intro r hr;rw[B] at hr;rcases Am5.1 hr with h|h
   .have:=E9 h;unfold AH.wt at this;omega
   .have:=E9 h;unfold AH.wt at this;omega
  refine Ak C.length (Inv:=λm st=>∃dn a w,C=dn++a/\m=a.length/\(a.all (λr=>GL r.cond)&&decide ((Jr L:Int)<=40000))=S/\n1<=w/\st=⟨[(1,.ref (n0,1) 0),(3,.i .i64 0),(4,.ref x 0),(5,.i .i64 dn.length)],τ,w⟩) ⟨_,Aj.refl,[],C,_,rfl,rfl,c,AfJ _,rfl⟩ ?_;clear c;rintro m _ ⟨dn,a,w,W,rfl,c,hn,rfl⟩;cases a with
  | nil=>
   have t:decide ((dn.length:Int)<(C.length:Int))=false:=by rw[W];simp
   rw[Az0,Amq] at c;simp only[push_cast,seval,rq,t,f,e];intros;exact⟨_,_,by omega,J,_,.inr ⟨rfl,c⟩,rfl⟩
  | cons p a=>
   have ad:=Ay W;have t:decide ((dn.length:Int)<(C.length:Int))=true:=by rw[W];simp;omega
   have M:IntKind.i64.wrap ((dn.length:Int)+1)=((dn++[p]).length:Int):=Aa p (by omega);have hf:=AhD O p.cond (ac p (by rw[W];simp));have q:(L.card.map AH.enc++L.ord.map AH.enc)[dn.length]?=some p.enc:=by rw[<-A0r,<-B,W];simp
   have d:∀k j,((w+1+k,j)=x)=False:=λk j=>Amp λo=>by rw[<-o] at N;simp only at N;omega
   have T:∀k j,(x=(w+1+k,j))=False:=λk j=>Amp λo=>Axj (d k j) o.symm;rw[Ax5] at c;have G:∀l:List AH,(∀y∈l.map AH.enc,(cells y).length=2)=True:=λl=>Amy λy hy=>by obtain⟨r,_,rfl⟩:=Awt.1 hy;rfl
   have H:∀k,del τ (w+1+k,70)=τ:=λk=>z _ (λo=>Axj (d k 70) o) (by simp);have I:∀k,del τ (w+1+k,73)=τ:=λk=>z _ (λo=>Axj (d k 73) o) (by simp);have D:(L.card.length<=AM)=True:=Amy (by unfold AM;rw[B,Aaf] at X;omega);have E:(L.card.length+L.ord.length<=AM)=True:=Amy (by unfold AM;rw[B,Aaf] at X;omega);have g:(dn.length<(L.card.map AH.enc++L.ord.map AH.enc).length)=True:=Amy (by rw[<-A0r,AaT,<-B];exact ad);simp only[push_cast,seval,rq,t,M,f,e,q,g,d,T,G,H,I,D,E,AaT]
   repeat' (first|(((first|apply Ac|apply Af|apply Ag)<;>intro _h)<;>simp only[push_cast,seval,rq,_h,t,M,f,e,q,g,d,T,G,H,I,D,E,AaT])|(refine Ab (by exact hf) ?_;simp only[push_cast,seval,rq,t,M,f,e,q,g,d,T,G,H,I,D,E,AaT])|intro _)
   .have K:GL p.cond=false:=by simpa using _h
    rw[K,Amr,Amr] at c;subst c;exact Ae (by simp[get])
   .have K:GL p.cond=true:=by simpa using _h
    rw[K,Amq] at c;have e6:∀k,lk τ (w+1+k,6)=none:=λk=>A _ (λo=>Axj (d k 6) o) (by simp);have ab:∀k,lk τ (w+1+k,76)=none:=λk=>A _ (λo=>Axj (d k 76) o) (by simp);exact⟨_,_,Adx _,(Aj.drop1 (by simp[lk,e6]) (AfJ _)).trans (Aj.drop1 (ab _) (AfJ _)),dn++[p],a,_,by rw[W];simp,rfl,c,by omega,rfl⟩
 .skip;simp only[push_cast,seval,rq,lk]
  repeat' (first|(((first|apply Ac|apply Af|apply Ag)<;>intro _h)<;>simp only[push_cast,seval,rq,_h,lk])|(refine Ab (by exact af) ?_;simp only[push_cast,seval,rq,lk])|intro _)
  exact Ae (by simp[get,c])
theorem Abe(L:Ce)(ps:List Al)(vs:List Cg)(h:Jr L<=2^40)(i:A9 L.card+A9 L.ord<=2^24)(j:AV ps<=2^24)(k:vs.length<=2^40)(l:∀v∈vs,v.list.length<=2^40) :
  An π O 11 [L.enc,.sl (ps.map Al.enc),.sl (vs.map Cg.enc)] [] (.b (HE L&&JN ps&&CL (decide ((vs.length:Int)<=30)) vs)) []:=by
 have f:=Abh O L h i;have g:=An8 O ps j;have c3:=Zz O vs k l;rw[Ce.enc_eq] at f;generalize HE L=c at *;generalize JN ps=d at *;generalize CL (decide ((vs.length:Int)<=30)) vs=e at *;refine Ah (vs:=[.b (c&&d&&e)]) As4 (by simp) (by simp) λn0 a=>?_;clear a;simp only[push_cast,seval,rq];cases c<;>cases d<;>cases e
 all_goals (repeat' (first|(first|refine Ab (by exact f) ?_|refine Ab (by exact g) ?_|refine Ab (by exact c3) ?_)|intro _)<;>(try simp only[push_cast,seval,rq]))
 all_goals exact Ae (by simp[get])
def Oc(L:Ce)(ps:List Al)(vs:List Cg)(a:Bool):V:=.agg [.s L.tag,.s L.parent,.s L.dir,.sl (L.card.map AH.enc),.sl (L.ord.map AH.enc),.s L.dec,.s L.grp,.s L.minus,.s L.perc,.i .i64 L.prim,.i .i64 L.sec,.sl (L.lists.map Cp.enc),.sl (L.units.map De.enc),.sl (L.dates.map CJ.enc),.sl (L.months.map V.s),.sl (L.days.map V.s),.sl (ps.map Al.enc),.sl (vs.map Cg.enc),.b a]
theorem Ft L ps vs a:Oc L ps vs a=.agg [.s L.tag,.s L.parent,.s L.dir,.sl (L.card.map AH.enc),.sl (L.ord.map AH.enc),.s L.dec,.s L.grp,.s L.minus,.s L.perc,.i .i64 L.prim,.i .i64 L.sec,.sl (L.lists.map Cp.enc),.sl (L.units.map De.enc),.sl (L.dates.map CJ.enc),.sl (L.months.map V.s),.sl (L.days.map V.s),.sl (ps.map Al.enc),.sl (vs.map Cg.enc),.b a]:=rfl
theorem aP L ps vs c (e:Jr L<=2^40)(f:A9 L.card+A9 L.ord<=2^24)(g:AV ps<=2^24)(h:vs.length<=2^40)(i:∀v∈vs,v.list.length<=2^40) :
  An π O 5 [Oc L ps vs c] [] (.b (HE L&&JN ps&&CL (decide ((vs.length:Int)<=30)) vs)) []:=by
 have d:=Abe O L ps vs e f g h i;rw[Ce.enc_eq] at d;generalize(HE L&&JN ps&&CL (decide ((vs.length:Int)<=30)) vs)=S at *;rw[Ft];refine Ah (vs:=[.b S]) Auh (by simp) (by simp) λn0 a=>?_;clear a;simp only[push_cast,seval];repeat' (first|(first|(apply spl<;>intro _h)|refine Ab d ?_)<;>simp only[push_cast]|intro _)
 exact fr1
end Go.Ir
namespace Go.Proofs
open Go.Shelf
def Tryz.laysM171_ren:Go.Shelf.Ren:=⟨fun|171=>156|243=>195|246=>225|283=>246|284=>247|285=>248|286=>249|129=>261|317=>260|318=>262|319=>263|320=>264|337=>278|338=>279|n=>n,fun|3=>3|9=>9|2=>2|4=>4|171=>278|0=>0|53=>246|37=>79|5=>5|173=>281|212=>291|51=>147|20=>20|213=>292|46=>177|232=>309|233=>310|n=>n,fun|17=>3|18=>4|19=>5|n=>n⟩
theorem Tryz.laysM171:Go.Proofs.LaysM.n171 Tryz.prog Tryz.laysM171_ren:={
 mixed:=by kernel_rfl
 f129:=Tryz.func261.trans (congrArg some (by kernel_rfl))
 f171:=Tryz.func156.trans (congrArg some (by kernel_rfl))
 f243:=Tryz.func195.trans (congrArg some (by kernel_rfl))
 f246:=Tryz.func225.trans (congrArg some (by kernel_rfl))
 f283:=Tryz.func246.trans (congrArg some (by kernel_rfl))
 f284:=Tryz.func247.trans (congrArg some (by kernel_rfl))
 f285:=Tryz.func248.trans (congrArg some (by kernel_rfl))
 f286:=Tryz.func249.trans (congrArg some (by kernel_rfl))
 f317:=Tryz.func260.trans (congrArg some (by kernel_rfl))
 f318:=Tryz.func262.trans (congrArg some (by kernel_rfl))
 f319:=Tryz.func263.trans (congrArg some (by kernel_rfl))
 f320:=Tryz.func264.trans (congrArg some (by kernel_rfl))
 f337:=Tryz.func278.trans (congrArg some (by kernel_rfl))
 f338:=Tryz.func279.trans (congrArg some (by kernel_rfl))
 t0:=Tryz.underlying0
 a0:=Tryz.isAgg0
 z0:=Tryz.sizeOf0
 v0:=Tryz.zeroValue0
 t2:=Tryz.underlying2
 a2:=Tryz.isAgg2
 z2:=Tryz.sizeOf2
 v2:=Tryz.zeroValue2
 t3:=Tryz.underlying3
 a3:=Tryz.isAgg3
 z3:=Tryz.sizeOf3
 v3:=Tryz.zeroValue3
 t4:=Tryz.underlying4
 a4:=Tryz.isAgg4
 z4:=Tryz.sizeOf4
 v4:=Tryz.zeroValue4
 t5:=Tryz.underlying5
 a5:=Tryz.isAgg5
 z5:=Tryz.sizeOf5
 v5:=Tryz.zeroValue5
 t9:=Tryz.underlying9
 a9:=Tryz.isAgg9
 z9:=Tryz.sizeOf9
 v9:=Tryz.zeroValue9
 t20:=Tryz.underlying20
 a20:=Tryz.isAgg20
 z20:=Tryz.sizeOf20
 v20:=Tryz.zeroValue20
 t37:=Tryz.underlying79
 a37:=Tryz.isAgg79
 z37:=Tryz.sizeOf79
 v37:=Tryz.zeroValue79
 t46:=Tryz.underlying177
 a46:=Tryz.isAgg177
 z46:=Tryz.sizeOf177
 v46:=Tryz.zeroValue177
 t51:=Tryz.underlying147
 a51:=Tryz.isAgg147
 z51:=Tryz.sizeOf147
 v51:=Tryz.zeroValue147
 t53:=Tryz.underlying246
 a53:=Tryz.isAgg246
 z53:=Tryz.sizeOf246
 v53:=Tryz.zeroValue246
 t171:=Tryz.underlying278
 a171:=Tryz.isAgg278
 z171:=Tryz.sizeOf278
 v171:=Tryz.zeroValue278
 t173:=Tryz.underlying281
 a173:=Tryz.isAgg281
 z173:=Tryz.sizeOf281
 v173:=Tryz.zeroValue281
 t212:=Tryz.underlying291
 a212:=Tryz.isAgg291
 z212:=Tryz.sizeOf291
 v212:=Tryz.zeroValue291
 t213:=Tryz.underlying292
 a213:=Tryz.isAgg292
 z213:=Tryz.sizeOf292
 t232:=Tryz.underlying309
 a232:=Tryz.isAgg309
 z232:=Tryz.sizeOf309
 v232:=Tryz.zeroValue309
 t233:=Tryz.underlying310
 a233:=Tryz.isAgg310
 z233:=Tryz.sizeOf310
 v233:=Tryz.zeroValue310
 g17:=by kernel_rfl
 g18:=by kernel_rfl
 g19:=by kernel_rfl
 i0:=by kernel_rfl
 i2:=by kernel_rfl
 i3:=by kernel_rfl
 i4:=by kernel_rfl
 i5:=by kernel_rfl
 i9:=by kernel_rfl
 i20:=by kernel_rfl
 i37:=by kernel_rfl
 i46:=by kernel_rfl
 i51:=by kernel_rfl
 i53:=by kernel_rfl
 i171:=by kernel_rfl
 i173:=by kernel_rfl
 i212:=by kernel_rfl
 i232:=by kernel_rfl
 i233:=by kernel_rfl
 m17:=by kernel_rfl
 m18:=by kernel_rfl
 m19:=by kernel_rfl }
end Go.Proofs
namespace Go.Ir
open Go.Proofs Go.RowKit
variable(O:World)
def Ca(O:World):Prop := Lib.TabIs Tryz.prog O "internal/strconv.uint64pow10" .u64 Lib.pow10Tab
theorem bM{P O w a k zs}(d:Below O.heap.size O w)(h:Lib.TabIs P O a k zs):Lib.TabIs P w a k zs:=by
 unfold Lib.TabIs World.var? at *;cases b:P.globalNamed a with
 | none=>rw[b] at h;cases h
 | some g=>
  rw[b] at h;simp only[AzD] at h⊢;cases c:O.heap[g]? with
  | none=>rw[c] at h;cases h
  | some o=>rw[d.block g (AvR.1 c).1];exact h
theorem F0(f:Ca O)(i:Nat)(p:i<2^62):An Tryz.prog O 156 [.i .i64 i] [] (.s (Lib.decDigits i)) []/\(Lib.decDigits i).length<=20:=by
 have c:(Lib.decDigits i).length<=20:=by rw[Lib.decDigits_length];exact Lib.nDigits_le20 _ (by omega)
 refine⟨AP (by kernel_rfl) λw a g ⟨μ,H,d⟩=>?_,c⟩;have b:=d.len;obtain⟨x,rfl⟩:∃x,a=[x]:=by
  match a,b with
  | [x],_=>exact⟨x,rfl⟩
 have o:=d.at_ 0 _ _ rfl rfl;cases o;refine(Any.strconv_Itoa Tryz.laysM171 i (by omega) (by omega) w (bM g f)).mono λe w' ⟨h,k,q,m⟩=>?_;subst m;refine⟨_,h,λ_ _=>?_,?_⟩
 .rw[Lib.itoa_nonneg];exact .s _ (by unfold Am;omega)
 .refine⟨rfl,rfl,rfl,by simp[Sort.grow,World.drewN],λj l=>?_⟩;simp only[Sort.grow];rw[A0m (by simpa using l)];rfl
theorem ZA laid (hl:(laid.all fun x => x.2.handleName?.isNone)=true){a b r}(he:laid=a :: b :: ("internal/strconv.uint64pow10", Lib.tabData .u64 Lib.pow10Tab) :: r)
  {g t e n}(hg:(π).globalNamed "internal/strconv.uint64pow10" = some g)(hty:((π).globals[g]?).map (·.type)=some t)(ht:(π).underlying t=some (.array n e))(hu:(π).underlying e=some (.int .u64))(hce:(π).cellsOf e=1)(hct:(π).cellsOf t=n)
  {W}(h:laidMetH π laid W):Ca W:=by
 rw[MakeChecks.laidMetH_plain _ _ _ hl] at h
 subst he
 have tl:∀{x:String×DataW Unit} {r:List (String×DataW Unit)},laidMet π (x::r) W->laidMet π r W:=by
  rintro⟨n,d⟩ r ⟨ps,hv,hnd,hrows⟩
  obtain⟨g,t,cs,fuel,p,q,_,_,_,_,hq,rfl⟩:=hv
  exact⟨q,hq,List.Nodup.sublist (A0s _ _) hnd,fun b off hm=>hrows b off (Az8 _ hm)⟩
 exact Lib.tabIs_of_head hg hty ht hu hce hct (tl (tl h))
end Go.Ir

namespace Go.Ir
open Go.Proofs
variable(O:World)
end Go.Ir
namespace Go.Proofs
open Go.Shelf
def Tryz.lays137_ren:Go.Shelf.Ren:=⟨fun|137=>159|217=>196|266=>226|n=>n,fun|9=>9|5=>5|3=>3|n=>n,fun|n=>n⟩
theorem Tryz.lays137:Go.Proofs.Lays.n137 Tryz.prog Tryz.lays137_ren:=by constructor;all_goals intros;kernel_rfl
def Tryz.lays156_ren:Go.Shelf.Ren:=⟨fun|156=>173|165=>167|166=>94|169=>33|240=>53|241=>203|276=>75|277=>231|n=>n,fun|31=>28|9=>9|3=>3|4=>4|0=>0|20=>20|72=>81|76=>88|70=>78|37=>79|75=>87|127=>106|164=>145|5=>5|80=>85|n=>n,fun|n=>n⟩
theorem Tryz.lays156:Go.Proofs.Lays.n156 Tryz.prog Tryz.lays156_ren:=by constructor;all_goals intros;kernel_rfl
end Go.Proofs
namespace Go.Ir
open Go.Proofs Go.RowKit
variable(O:World)
theorem Pi{P:Program}{O:World}{f:FuncId}{args:List V}{v:V}(d:callable P f=true)
  (h:∀w a μ H,Below O.heap.size O w->VRels μ H args a->(∀b x,H b=some x->w.cell? b=some x)->Calls P f a.toArray w λe w'=>∃val,e=.returned val/\(∀μ H,Aq μ H v val)/\Below w.heap.size w w'):An P O f args [] v [] where
 callable:=d
 dom id h:=h
 run n w μ H a hp hv:=by refine(h w a μ H hp.base hv hp.pins).mono λe w' ⟨val,g,i,c⟩=>?_;have ⟨h1,h2⟩:=hp.below c;exact⟨val,μ,H,n,g,i μ H,h1,AfJ _,h2,λ_ _ h=>h⟩
theorem Gw(b:List Ad):AK (b.map V.s)=b.map V.s:=by
 induction b with
 | nil=>rfl
 | cons a r c=>simp only[AK,Am1,Ayt] at *;rw[c];rfl
theorem Ss(s:Ad) c:An π O 159 [.s s,.i .u8 c] [] (.i .i64 (Lib.indexByte s c.toNat.toUInt8)) []:=by refine AP (by kernel_rfl) λw a j ⟨μ,H,d⟩=>?_;obtain⟨x,y,rfl,g,h⟩:=d.two;obtain⟨rfl,k⟩:=Bi g;cases h;refine(Any.strings_IndexByte Tryz.lays137 ⟨s.toArray⟩ c w).mono λe w' ⟨b,f⟩=>?_;subst f;exact⟨_,b,λ_ _=>.i _ _,AxE _ _⟩
theorem IM:Go.Proofs.Builder.Extra π Tryz.lays156_ren where
 sizeBuilder:=by kernel_rfl
 liesBuilder:=by kernel_rfl
 t5:=Tryz.underlying5
 a5:=Tryz.isAgg5
 z5:=Tryz.sizeOf5
 v5:=Tryz.zeroValue5
 infoByte:=by kernel_rfl
 cellsByte:=by kernel_rfl
 sizeByte:=by kernel_rfl
 neB5:=by decide
theorem xQ(r:List Ad)(sep:Ad)(T:(Lib.join r sep).length<=1073741824):An Tryz.prog O 173 [.sl (r.map V.s),.s sep] [] (.s (Lib.join r sep)) []:=by
 refine Pi (by kernel_rfl) λw U μ H hb hv E=>?_;obtain⟨x,y,rfl,G,hy⟩:=hv.two;obtain⟨rfl,hl⟩:=Bi hy;obtain⟨A,a,rfl,u,g,Y⟩:=G.sl_inv;have q:∀(μ:Id->Option Value) (H:Addr->Option Value),Aq μ H (.s (Lib.join r sep)) (.string ⟨(Lib.join r sep).toArray⟩):=λ_ _=>.s _ (by unfold Am;omega);rcases Y with W|⟨I,sz,vs,rfl,Z,i,hp⟩
 .have J:r=[]:=by simpa using W
  subst J;refine(Any.strings_Join_none Tryz.lays156 IM A a ⟨sep.toArray⟩ w).mono λe w' ⟨z,F⟩=>?_;subst F;exact⟨_,z,q,AxE _ _⟩
 .rw[Gw] at i;cases r with
  | nil=>refine(Any.strings_Join_none Tryz.lays156 IM _ a ⟨sep.toArray⟩ w).mono λe w' ⟨z,F⟩=>?_;subst F;exact⟨_,z,q,AxE _ _⟩
  | cons d m=>
   have f:∀(j:Nat) (l:Ad),(d::m)[j]?=some l->w.cell? (I.add j)=some (.string ⟨l.toArray⟩):=by intro j l T;obtain⟨v,N,X⟩:=i.toVRels.get (k:=j) (c:=.s l) (by rw[AtX,T];rfl);rw[(Bi X).1] at N;exact E _ _ (hp j _ N)
   have p:=f 0 d rfl;have t:I.spot=none:=by
    simp only[Addr.add,Agp] at p;unfold World.cell? at p;split at p
    .split at p
     .cases p
     .rename_i h;simpa using h
    .cases p
   obtain⟨M,o,sp⟩:=I;simp only at t;subst t;have K:M<w.heap.size:=A0x w _ p;have C:(d::m).length<=a:=by simpa using u
   have D:((d::m).map λl=>(⟨l.toArray⟩:ByteArray)).map (λb=>b.data.toList)=d::m:=by rw[A0F];exact(Ayp (λ_ _=>rfl)).trans (List.map_id _)
   have S:Lib.join (((d::m).map λl=>(⟨l.toArray⟩:ByteArray)).map λb=>b.data.toList) sep=Lib.join (d::m) sep:=by rw[D]
   have key:=Any.strings_Join Tryz.lays156 IM M o a ((d::m).map λl=>(⟨l.toArray⟩:ByteArray)) ⟨sep.toArray⟩ w (λj x G=>?_) K
    (by unfold AM at g;simp only[AaT] at g⊢;omega) (by simpa using C) (by show(Lib.join (((d::m).map λl=>(⟨l.toArray⟩:ByteArray)).map λb=>b.data.toList) sep).length<=_;rw[S];omega)
   .rw[show(⟨sep.toArray⟩:ByteArray).data.toList=sep from rfl,S] at key;simp only[AaT] at key⊢;exact key.mono λe w' ⟨z,F⟩=>⟨_,z,q,F⟩
   .rw[AtX] at G;obtain⟨l,L,rfl⟩:=Amd.1 G;have:=f j l L;by_cases B:j=0
    .subst B;exact this
    .simpa[Addr.add,B] using this
def IB:List V->Option V
 | [.s s,.s p]=>some (.tup [.s (Lib.trimPrefix s p),.b (Lib.hasPrefix s p)])
 | _=>none
def P6:List V->Option V
 | [.s s,.s [c]]=>some (.i .i64 (Lib.indexByte s c))
 | _=>none
def Jb:List V->Option V
 | [.s s,.i .u8 c]=>some (.i .i64 (Lib.indexByte s c.toNat.toUInt8))
 | _=>none
def QI(l:Ad):Bool:=Nat.blt l.length 100&&l.all λb=>Nat.blt b.toNat 128
def lK:List V->Option V
 | [.s s,.s cs]=>bif QI cs then some (.s (Lib.trimS s cs)) else none
 | _=>none
theorem bB{l}(h:QI l=true):l.length<4294967281/\∀b∈l,b.toNat<128:=by unfold QI at h;simp only[AcR,A0Q,As7] at h;exact⟨by omega,h.2⟩
theorem R8:AX π O (zG 136 IB):=Qj λargs v h=>by
 unfold IB at h;split at h
 .cases h;exact⟨EI O _ _,rfl⟩
 .cases h
theorem kQ:AX π O (zG 208 P6):=Qj λargs v h=>by
 unfold P6 at h;split at h
 .cases h;exact⟨Mp O _ _,rfl⟩
 .cases h
theorem RW:AX π O (zG 159 Jb):=Qj λargs v h=>by
 unfold Jb at h;split at h
 .cases h;exact⟨Ss O _ _,rfl⟩
 .cases h
theorem Ajb:AX π O (zG 198 lK):=Qj λargs v h=>by
 unfold lK at h;split at h
 .rename_i s cs;cases a:QI cs with
  | true=>rw[a] at h;cases h;obtain⟨b,c⟩:=bB a;exact⟨UA O _ _ b c,rfl⟩
  | false=>rw[a] at h;cases h
 .cases h
end Go.Ir
namespace Go.Proofs
open Go.Shelf
def Tryz.lays138_ren:Go.Shelf.Ren:=⟨fun|138=>182|195=>216|218=>217|143=>184|219=>208|217=>196|225=>234|224=>235|267=>236|266=>226|314=>251|n=>n,fun|9=>9|3=>3|4=>4|5=>5|0=>0|46=>177|146=>244|51=>147|n=>n,fun|1=>0|n=>n⟩
theorem Tryz.lays138:Go.Proofs.Lays.n138 Tryz.prog Tryz.lays138_ren:=by constructor;all_goals intros;kernel_rfl
def Tryz.lays145_ren:Go.Shelf.Ren:=⟨fun|145=>137|220=>171|219=>208|217=>196|225=>234|224=>235|267=>236|266=>226|314=>251|n=>n,fun|9=>9|4=>4|59=>195|3=>3|5=>5|46=>177|146=>244|51=>147|n=>n,fun|1=>0|n=>n⟩
theorem Tryz.lays145:Go.Proofs.Lays.n145 Tryz.prog Tryz.lays145_ren:=by constructor;all_goals intros;kernel_rfl
def Tryz.lays154_ren:Go.Shelf.Ren:=⟨fun|154=>148|138=>182|165=>167|143=>184|166=>94|197=>185|169=>33|195=>216|218=>217|240=>53|241=>203|219=>208|260=>219|276=>75|277=>231|217=>196|225=>234|224=>235|267=>236|266=>226|314=>251|n=>n,fun|9=>9|3=>3|4=>4|72=>81|0=>0|76=>88|105=>233|21=>21|5=>5|70=>78|20=>20|37=>79|75=>87|127=>106|164=>145|46=>177|119=>274|139=>277|138=>276|146=>244|51=>147|80=>85|n=>n,fun|1=>0|3=>1|4=>2|n=>n⟩
theorem Tryz.lays154:Go.Proofs.Lays.n154 Tryz.prog Tryz.lays154_ren:=by constructor;all_goals intros;kernel_rfl
def Tryz.lays161_ren:Go.Shelf.Ren:=⟨fun|161=>169|231=>204|227=>205|233=>206|235=>207|228=>232|197=>185|151=>233|260=>219|152=>241|137=>159|119=>257|224=>235|225=>234|217=>196|266=>226|n=>n,fun|9=>9|4=>4|3=>3|5=>5|117=>252|116=>251|0=>0|124=>255|105=>233|21=>21|119=>274|46=>177|139=>277|138=>276|n=>n,fun|3=>1|4=>2|n=>n⟩
theorem Tryz.lays161:Go.Proofs.Lays.n161 Tryz.prog Tryz.lays161_ren:=by constructor;all_goals intros;kernel_rfl
def Tryz.laysT17_ren:Go.Shelf.Ren:=⟨fun|17=>172|n=>n,fun|24=>28|9=>9|3=>3|4=>4|0=>0|n=>n,fun|n=>n⟩
theorem Tryz.laysT17:Go.Proofs.Lays2.n17 Tryz.prog Tryz.laysT17_ren:=by constructor;all_goals intros;kernel_rfl
def Tryz.sortA_ren:Go.Shelf.Ren:=⟨fun|6=>244|8=>259|9=>258|19=>277|20=>261|21=>268|22=>269|23=>270|24=>271|25=>272|26=>273|27=>274|28=>275|29=>276|36=>282|31=>283|32=>284|37=>285|38=>286|39=>287|41=>293|n=>n,fun|27=>28|29=>9|3=>3|32=>177|26=>28|0=>0|44=>147|46=>246|4=>4|36=>296|35=>295|41=>238|5=>5|9=>9|53=>303|57=>307|63=>317|64=>90|n=>n,fun|n=>n⟩
theorem Tryz.sortA:Go.Proofs.SlLaysM.n6 Tryz.prog Tryz.sortA_ren:={
 mixed:=by kernel_rfl
 f6:=⟨Tryz.f244.name,by decide,Tryz.func244.trans (congrArg some (by kernel_rfl))⟩
 f8:=Tryz.func259.trans (congrArg some (by kernel_rfl))
 f9:=⟨Tryz.f258.name,by decide,Tryz.func258.trans (congrArg some (by kernel_rfl))⟩
 f19:=Tryz.func277.trans (congrArg some (by kernel_rfl))
 f20:=Tryz.func261.trans (congrArg some (by kernel_rfl))
 f21:=⟨Tryz.f268.name,by decide,Tryz.func268.trans (congrArg some (by kernel_rfl))⟩
 f22:=⟨Tryz.f269.name,by decide,Tryz.func269.trans (congrArg some (by kernel_rfl))⟩
 f23:=⟨Tryz.f270.name,by decide,Tryz.func270.trans (congrArg some (by kernel_rfl))⟩
 f24:=⟨Tryz.f271.name,by decide,Tryz.func271.trans (congrArg some (by kernel_rfl))⟩
 f25:=⟨Tryz.f272.name,by decide,Tryz.func272.trans (congrArg some (by kernel_rfl))⟩
 f26:=⟨Tryz.f273.name,by decide,Tryz.func273.trans (congrArg some (by kernel_rfl))⟩
 f27:=⟨Tryz.f274.name,by decide,Tryz.func274.trans (congrArg some (by kernel_rfl))⟩
 f28:=⟨Tryz.f275.name,by decide,Tryz.func275.trans (congrArg some (by kernel_rfl))⟩
 f29:=⟨Tryz.f276.name,by decide,Tryz.func276.trans (congrArg some (by kernel_rfl))⟩
 f31:=Tryz.func283.trans (congrArg some (by kernel_rfl))
 f32:=Tryz.func284.trans (congrArg some (by kernel_rfl))
 f36:=⟨Tryz.f282.name,by decide,Tryz.func282.trans (congrArg some (by kernel_rfl))⟩
 f37:=⟨Tryz.f285.name,by decide,Tryz.func285.trans (congrArg some (by kernel_rfl))⟩
 f38:=⟨Tryz.f286.name,by decide,Tryz.func286.trans (congrArg some (by kernel_rfl))⟩
 f39:=⟨Tryz.f287.name,by decide,Tryz.func287.trans (congrArg some (by kernel_rfl))⟩
 f41:=⟨Tryz.f293.name,by decide,Tryz.func293.trans (congrArg some (by kernel_rfl))⟩
 t0:=Tryz.underlying0
 a0:=Tryz.isAgg0
 z0:=Tryz.sizeOf0
 v0:=Tryz.zeroValue0
 t3:=Tryz.underlying3
 a3:=Tryz.isAgg3
 z3:=Tryz.sizeOf3
 v3:=Tryz.zeroValue3
 t4:=Tryz.underlying4
 a4:=Tryz.isAgg4
 z4:=Tryz.sizeOf4
 v4:=Tryz.zeroValue4
 t5:=Tryz.underlying5
 a5:=Tryz.isAgg5
 z5:=Tryz.sizeOf5
 v5:=Tryz.zeroValue5
 t9:=Tryz.underlying9
 a9:=Tryz.isAgg9
 z9:=Tryz.sizeOf9
 v9:=Tryz.zeroValue9
 t26:=Tryz.underlying28
 a26:=Tryz.isAgg28
 z26:=Tryz.sizeOf28
 v26:=Tryz.zeroValue28
 t27:=Tryz.underlying28
 a27:=Tryz.isAgg28
 z27:=Tryz.sizeOf28
 v27:=Tryz.zeroValue28
 t29:=Tryz.underlying9
 a29:=Tryz.isAgg9
 z29:=Tryz.sizeOf9
 v29:=Tryz.zeroValue9
 t32:=Tryz.underlying177
 a32:=Tryz.isAgg177
 z32:=Tryz.sizeOf177
 v32:=Tryz.zeroValue177
 t35:=Tryz.underlying295
 a35:=Tryz.isAgg295
 z35:=Tryz.sizeOf295
 v35:=Tryz.zeroValue295
 t36:=Tryz.underlying296
 a36:=Tryz.isAgg296
 z36:=Tryz.sizeOf296
 v36:=Tryz.zeroValue296
 t41:=Tryz.underlying238
 a41:=Tryz.isAgg238
 z41:=Tryz.sizeOf238
 v41:=Tryz.zeroValue238
 t44:=Tryz.underlying147
 a44:=Tryz.isAgg147
 z44:=Tryz.sizeOf147
 v44:=Tryz.zeroValue147
 t46:=Tryz.underlying246
 a46:=Tryz.isAgg246
 z46:=Tryz.sizeOf246
 v46:=Tryz.zeroValue246
 t53:=Tryz.underlying303
 a53:=Tryz.isAgg303
 z53:=Tryz.sizeOf303
 v53:=Tryz.zeroValue303
 t57:=Tryz.underlying307
 a57:=Tryz.isAgg307
 z57:=Tryz.sizeOf307
 v57:=Tryz.zeroValue307
 t63:=Tryz.underlying317
 a63:=Tryz.isAgg317
 z63:=Tryz.sizeOf317
 v63:=Tryz.zeroValue317
 t64:=Tryz.underlying90
 a64:=Tryz.isAgg90
 z64:=Tryz.sizeOf90
 v64:=Tryz.zeroValue90 }
def Tryz.lays105_ren:Go.Shelf.Ren:=⟨fun|105=>132|212=>165|99=>166|165=>167|166=>94|170=>95|169=>33|263=>200|264=>201|206=>202|240=>53|241=>203|276=>75|277=>231|n=>n,fun|9=>9|3=>3|4=>4|20=>20|0=>0|46=>177|109=>216|5=>5|72=>81|76=>88|51=>147|146=>244|53=>246|148=>247|70=>78|37=>79|75=>87|127=>106|164=>145|80=>85|n=>n,fun|n=>n⟩
theorem Tryz.lays105:Go.Proofs.Lays.n105 Tryz.prog Tryz.lays105_ren:=by constructor;all_goals intros;kernel_rfl
end Go.Proofs
section
namespace Go.Ir
open Go.Proofs Go.RowKit
variable(O:World)
def BC(O:World):Prop:=∃m,O.cell? ⟨Tryz.lays138_ren.g 1,0,none⟩=some (.int .i64 m)
theorem Fc{O w}(h:BC O)(b:Below O.heap.size O w):∃m,w.cell? ⟨Tryz.lays138_ren.g 1,0,none⟩=some (.int .i64 m):=by
 have ⟨m,hm⟩:=h;refine⟨m,?_⟩;rw[<-hm];unfold World.cell? at hm⊢;cases a:O.heap[Tryz.lays138_ren.g 1]? with
 | none=>grind
 | some o=>simp only[b.block _ (AvR.1 a).1,a]
theorem Acw(s sep:Ad):(Lib.cut s sep).1.length<=s.length/\(Lib.cut s sep).2.1.length<=s.length:=by unfold Lib.cut;grind
theorem qA:Go.Proofs.Builder.Extra π Tryz.lays154_ren where
 sizeBuilder:=by kernel_rfl
 liesBuilder:=by kernel_rfl
 t5:=Tryz.underlying5
 a5:=Tryz.isAgg5
 z5:=Tryz.sizeOf5
 v5:=Tryz.zeroValue5
 infoByte:=by kernel_rfl
 cellsByte:=by kernel_rfl
 sizeByte:=by kernel_rfl
 neB5:=by decide
theorem rR:Go.Proofs.Builder.Extra π Tryz.lays105_ren where
 sizeBuilder:=by kernel_rfl
 liesBuilder:=by kernel_rfl
 t5:=Tryz.underlying5
 a5:=Tryz.isAgg5
 z5:=Tryz.sizeOf5
 v5:=Tryz.zeroValue5
 infoByte:=by kernel_rfl
 cellsByte:=by kernel_rfl
 sizeByte:=by kernel_rfl
 neB5:=by decide
theorem OG(s:Ad) k (o:s.length*k<=2^30)(l:k<=2^30)(c:(Lib.repeatL s k).length<=Am):An π O 132 [.s s,.i .i64 (k:Int)] [] (.s (Lib.repeatL s k)) []:=by refine AP (by kernel_rfl) λw a j ⟨μ,H,d⟩=>?_;obtain⟨x,y,rfl,g,h⟩:=d.two;obtain⟨rfl,m⟩:=Bi g;cases h;refine(Any.strings_Repeat Tryz.lays105 rR ⟨s.toArray⟩ k w (by omega) (by simp[ByteArray.size];omega)).mono λe w' ⟨b,f⟩=>?_;exact⟨_,b,λ_ _=>.s _ c,f⟩
variable(hM:BC O)
include hM
theorem Abg(s sub:Ad)(p:s.length<=2^31)(b:1<=sub.length):An π O 182 [.s s,.s sub] [] (.i .i64 (Lib.count s sub)) []:=by refine AP (by kernel_rfl) λw a c ⟨μ,H,h⟩=>?_;obtain⟨x,y,rfl,k,l⟩:=h.two;obtain⟨rfl,o⟩:=Bi k;obtain⟨rfl,f⟩:=Bi l;obtain⟨m,g⟩:=Fc hM c;refine(Any.strings_Count_any Tryz.lays138 ⟨s.toArray⟩ ⟨sub.toArray⟩ m w (by simp[ByteArray.size];omega) g (by simpa[ByteArray.size] using b)).mono λe w' ⟨d,j⟩=>?_;subst j;exact⟨_,d,λ_ _=>.i _ _,AxE _ _⟩
theorem US(s sep:Ad)(u:s.length<=2^31):An π O 137 [.s s,.s sep] [] (.tup [.s (Lib.cut s sep).1,.s (Lib.cut s sep).2.1,.b (Lib.cut s sep).2.2]) []:=by
 refine AP (by kernel_rfl) λw g j ⟨μ,H,a⟩=>?_;obtain⟨x,y,rfl,r,t⟩:=a.two;obtain⟨rfl,f⟩:=Bi r;obtain⟨rfl,o⟩:=Bi t;obtain⟨m,p⟩:=Fc hM j;refine(Any.strings_Cut Tryz.lays145 ⟨s.toArray⟩ ⟨sep.toArray⟩ m w (by simp[ByteArray.size];omega) p).mono λe w' ⟨l,n,q⟩=>?_;subst q;obtain⟨h,i⟩:=Acw s sep;refine⟨_,l,λμ H=>Aq.tup [.s (Lib.cut s sep).1,.s (Lib.cut s sep).2.1,.b (Lib.cut s sep).2.2] [.string ⟨(Lib.cut s sep).1.toArray⟩,.string ⟨(Lib.cut s sep).2.1.toArray⟩,.bool (Lib.cut s sep).2.2] rfl λk c v d a=>?_,Below.drewN_ (AxE _ _) n⟩
 match k with
 | 0=>simp at d a;subst d a;exact .s _ (AvD h f)
 | 1=>simp at d a;subst d a;exact .s _ (AvD i f)
 | 2=>simp at d a;subst d a;exact .b _
 | k+3=>simp at d
theorem Ng(s a new:Ad) n (C:s.length<=2^31)(j:1<=a.length)(B:s.length*new.length<=2^41)(r:(Lib.replace s a new n).length<=Am):An π O 148 [.s s,.s a,.s new,.i .i64 n] [] (.s (Lib.replace s a new n)) []:=by
 refine AP (by kernel_rfl) λw c k ⟨μ,H,g⟩=>?_;have f:=g.len;obtain⟨x,y,z,u,rfl⟩:∃x y z u,c=[x,y,z,u]:=by
  match c,f with
  | [x,y,z,u],_=>exact⟨x,y,z,u,rfl⟩
 obtain⟨rfl,A⟩:=Bi (g.at_ 0 _ _ rfl rfl);obtain⟨rfl,o⟩:=Bi (g.at_ 1 _ _ rfl rfl);obtain⟨rfl,p⟩:=Bi (g.at_ 2 _ _ rfl rfl);have t:=g.at_ 3 _ _ rfl rfl;cases t;obtain⟨m,q⟩:=Fc hM k;have b:=Lib.countB_le ⟨a.toArray⟩ (by simpa[ByteArray.size] using j) s.length ⟨s.toArray⟩ (by simp[ByteArray.size]);have d:(⟨s.toArray⟩:ByteArray).size=s.length:=by simp[ByteArray.size]
 have h:(⟨new.toArray⟩:ByteArray).size=new.length:=by simp[ByteArray.size]
 refine(Any.strings_Replace Tryz.lays154 qA ⟨s.toArray⟩ ⟨a.toArray⟩ ⟨new.toArray⟩ n m w (by rw[d];omega) q (by simpa[ByteArray.size] using j) ?_).mono λe w' ⟨l,v⟩=>?_
 .rw[d,h];rw[d] at b;have:Lib.countB ⟨s.toArray⟩ ⟨a.toArray⟩*new.length<=s.length*new.length:=Ay5 _ b;omega
 .exact⟨_,l,λ_ _=>.s _ r,v⟩
omit hM
theorem Fv(s cs:Ad):(Lib.trimLeftS s cs).length<=s.length:=(AzE _).length_le
theorem Qy(s cs:Ad)(a:cs.length<4294967281)(d:∀b∈cs,b.toNat<128):An π O 169 [.s s,.s cs] [] (.s (Lib.trimLeftS s cs)) []:=by refine AP (by kernel_rfl) λw c o ⟨μ,H,i⟩=>?_;obtain⟨x,y,rfl,l,m⟩:=i.two;obtain⟨rfl,h⟩:=Bi l;obtain⟨rfl,_⟩:=Bi m;refine(Any.strings_TrimLeft_laid Tryz.lays161 (by kernel_rfl) ⟨s.toArray⟩ ⟨cs.toArray⟩ w (by simpa[ByteArray.size] using a) (λj b g=>d b (Au8 g))).mono λe w' ⟨f,k⟩=>?_;exact⟨_,f,λ_ _=>.s _ (AvD (Fv s cs) h),k⟩
theorem Ra{μ H}{b:List Ad}{a}(h:AO μ H (AK (b.map V.s)) a):a=b.map encStr:=by
 rw[Gw] at h;apply Azx;intro k;rw[AtX];cases d:b[k]? with
 | none=>
  have:a.length=b.length:=by have:=h.len;simpa using this.symm
  grind
 | some l=>have ⟨v,h1,h2⟩:=h.toVRels.get (k:=k) (c:=.s l) (by grind);rw[h1,(Bi h2).1];rfl
theorem MW{μ H}{b:List Ad}(f:∀l∈b,l.length<=Am):AO μ H (AK (b.map V.s)) (b.map encStr):=by
 rw[Gw];refine⟨⟨by simp,λk c v d a=>?_⟩,λv a=>?_⟩
 .rw[AtX] at d a;obtain⟨x,e,rfl⟩:=Amd.1 d;rw[e] at a;cases a;exact .s _ (f x (Au8 e))
 .obtain⟨x,_,rfl⟩:=Awt.1 a;rfl
theorem Ky{w g a e}{b:List Ad}(d:w.heap[g]?=some (.cells a e (0,0)))(i:a.toList.take b.length=b.map encStr):Sort.Holds encStr w g 0 b.toArray:=by
 intro j h;have c:j<b.length:=by simpa using h
 have f:a[j]?=some (encStr b[j]):=by
  have:(a.toList.take b.length)[j]?=some (encStr b[j]):=by rw[i];simp 
  grind
 refine⟨?_,?_⟩
 .simp[World.cell?,d,f,c]
 .simp[World.frozen?,d]
theorem Ke{P O f e}{m a:List Ad} id (T:callable P f=true)(Y:m≠[])(b:a.length=m.length)(z:∀l∈a,l∈m)
  (h:∀(w) Cc cap,Sort.Holds encStr w Cc 0 m.toArray->Cc<w.heap.size->Calls P f #[.slice (some ⟨Cc,0,none⟩) m.length cap] w λe w'=>e=.returned (.tuple #[])/\∃n B,w'=Sort.grow (Sort.putRow encStr (Sort.ahead w n) Cc 0 a.toArray) B) :
  An P O f [.arr id] [(id,.arr e 1 (m.map V.s))] (.tup []) [(id,.arr e 1 (a.map V.s))] where
 callable:=T
 dom:=λi U=>by simp only[lk] at U⊢;grind
 run:=by
  intro n w μ H o hp M;obtain⟨x,rfl⟩:∃x,o=[x]:=by
   match o,M.len with
   | [x],_=>exact⟨x,rfl⟩
  have A:=(M.at_ 0 _ _ rfl rfl).arr_inv.1;have y:lk [(id,Be.arr e 1 (m.map V.s))] id=some (.arr e 1 (m.map V.s)):=by simp[lk]
  obtain⟨v,vs,K,h2,C,N,h5,D⟩:=hp.ents _ _ y;rw[A] at K;cases K;have J:=Ra D;subst J;obtain⟨W,C⟩:=C;rcases C with⟨_,h0⟩|⟨g,cap,cur,rfl,hB,hg,hncap,hcap,hcur,htake⟩
  .grind
  simp only[AaT,Nat.mul_one] at htake W hcur hncap⊢;have r:g<w.heap.size:=(AvR.1 hg).1;have I:∀l∈m,l.length<=Am:=by intro l G;obtain⟨k,L⟩:=Ax8.1 G;rw[Gw] at D;obtain⟨v,_,S⟩:=D.toVRels.get (k:=k) (c:=.s l) (by grind);exact(Bi S).2
  refine(h w g cap (Ky hg htake) r).mono ?_;rintro en w' ⟨rfl,k,B,rfl⟩;have t:∀j,j<w.heap.size->(Sort.grow (Sort.putRow encStr (Sort.ahead w k) g 0 a.toArray) B).heap[j]?=if j=g then some (.cells (Sort.putCells encStr 0 a.toArray cur) e (0,0)) else w.heap[j]?:=by
   intro j u;simp only[Sort.grow,Sort.putRow,Sort.mapBlock,Sort.ahead];rw[A0m (by simpa using u),Array.getElem?_modify];by_cases F:g=j
   .subst F;simp[hg,Sort.onCells]
   grind
  have p:Bj (λq=>Cc (μ id)=some q) w (Sort.grow (Sort.putRow encStr (Sort.ahead w k) g 0 a.toArray) B):=by refine⟨rfl,rfl,rfl,by grind,λj u X=>?_⟩;rw[t j u,Amt];rintro rfl;exact X (by rw[A];rfl)
  have d:=hp.set_ (e:=.arr e 1 (a.map V.s)) y p ⟨_,a.map encStr,A,rfl,⟨by simp,.inr ⟨g,cap,Sort.putCells encStr 0 a.toArray cur,by simp[b],hB,by rw[t g r,Aiv rfl],by simp[b];exact hncap,hcap,by simp[Sort.putCells,hcur],?_⟩⟩,by simpa[b] using N,λx A=>by grind,MW λl G=>I l (z l G)⟩
  .have Z:upd [(id,Be.arr e 1 (m.map V.s))] id (.arr e 1 (a.map V.s))=[(id,.arr e 1 (a.map V.s))]:=by simp[upd]
   rw[Z] at d;exact⟨_,μ,H,n,rfl,.tup [] [] rfl (λk c v L=>by simp at L),d.1,AfJ _,d.2,λ_ _ h=>h⟩
  .apply Azx;intro j;simp only[AaT,Nat.mul_one,AyU,AtX];split
   .rename_i u;have E:j<cur.size:=by omega
    simp[Sort.putCells,E,u]
   grind
theorem aN(a:List Ad) id (c:a≠[])(d:a.length<=2^40):An π O 172 [.arr id] [(id,.arr 9 1 (a.map V.s))] (.tup []) [(id,.arr 9 1 (a.reverse.map V.s))]:=by refine Ke id (by kernel_rfl) c (by simp) (λl d=>by simpa using d) λw Cc b f g=>?_;refine(Any.slices_Reverse_string Tryz.laysT17 Cc 0 b a w f (by omega)).mono ?_;rintro e w' ⟨rfl,n,rfl⟩;exact⟨rfl,n,#[],by simp⟩
end Go.Ir
end
section
set_option maxRecDepth 100000
namespace Go.Ir
open Go.Proofs Go.RowKit
theorem Og{W:World}(h:W.ShapedOpen Tryz.prog):BC W:=by
 have ⟨cs,hh,hs,hr⟩:=h.1 (Tryz.lays138_ren.g 1) #[.int .i64 0] 3 (AuL (by kernel_rfl)) (by kernel_rfl);have ⟨ts,hts,_,hall⟩:=hr (by kernel_rfl);have b:Tryz.prog.cellTypes Tryz.prog.depth 3=some [3]:=by kernel_rfl
 rw[b] at hts;cases hts;have d:0<cs.size:=by rw[hs];decide
 have ⟨u,hu',hok⟩:=hall 0 cs[0] (by simp );have:u=3:=by simpa using hu'.symm
 subst this;have a:W.cell? ⟨Tryz.lays138_ren.g 1,0,none⟩=some cs[0]:=by simp[World.cell?,hh]
 unfold BC;rw[a];unfold Cell.ok at hok;rw[Tryz.underlying3] at hok;cases c:cs[0]<;>rw[c] at hok<;>first|(simp at hok;done)|skip
 grind
end Go.Ir
end
namespace Go.Proofs
open Go.Shelf
def Tryz.lays194_ren:Go.Shelf.Ren:=⟨fun|194=>245|n=>n,fun|31=>28|9=>9|3=>3|4=>4|0=>0|n=>n,fun|n=>n⟩
theorem Tryz.lays194:Go.Proofs.Lays.n194 Tryz.prog Tryz.lays194_ren:=by constructor;all_goals intros;kernel_rfl
def Tryz.laysT16_ren:Go.Shelf.Ren:=⟨fun|16=>107|n=>n,fun|24=>28|9=>9|4=>4|n=>n,fun|n=>n⟩
theorem Tryz.laysT16:Go.Proofs.Lays2.n16 Tryz.prog Tryz.laysT16_ren:=by constructor;all_goals intros;kernel_rfl
end Go.Proofs
namespace Go.Ir
open Go.Proofs Go.RowKit
variable(O:World)
theorem AbR(a:List Ad) id (c:a≠[])(d:a.length<=2^40):An π O 244 [.arr id] [(id,.arr 9 1 (a.map V.s))] (.tup []) [(id,.arr 9 1 ((a.mergeSort λx y=>decide (x<=y)).map V.s))]:=by refine Ke id (by kernel_rfl) c (List.length_mergeSort ..) (λl d=>by simpa using d) λw Cc b e f=>?_;exact AnyM.slices_Sort_string Tryz.sortA Cc 0 b a w e f (by omega)
theorem pN{O:World}{n:Nat}{μ:Id->Option Value}{H:Addr->Option Value}{w:World}{id:Id}{e:TypeId}{d:List Ad}(hp:Hp O [(id,.arr e 1 (d.map V.s))] n μ H w)(j:d≠[]){x:Value}(m:μ id=some x) :
  ∃g a b,x=.slice (some ⟨g,0,none⟩) d.length a/\O.heap.size<=g/\w.heap[g]?=some (.cells b e (0,0))/\d.length<=a/\a<=maxLen/\b.size=a/\b.toList.take d.length=d.map encStr/\d.length<=AM/\∀l∈d,l.length<=Am:=by
 have f:lk [(id,Be.arr e 1 (d.map V.s))] id=some (.arr e 1 (d.map V.s)):=by simp[lk]
 have ⟨v,vs,h1,h2,h3,h4,h5,h6⟩:=hp.ents _ _ f;rw[m] at h1;cases h1;have h:=Ra h6;subst h;have ⟨hl,h3⟩:=h3;rcases h3 with⟨_,h0⟩|⟨g,a,b,rfl,hB,hg,hncap,hcap,hcur,htake⟩
 .grind
 simp only[AaT,Nat.mul_one] at htake hl hcur hncap h4⊢;refine⟨g,a,b,rfl,hB,hg,hncap,hcap,hcur,htake,h4,λl i=>?_⟩;have ⟨k,hk⟩:=Ax8.1 i;rw[Gw] at h6;have ⟨v,_,h8⟩:=h6.toVRels.get (k:=k) (c:=.s l) (by grind);exact(Bi h8).2
theorem dS{O σ n μ H w}(hp:Hp O σ n μ H w){id}(h:μ id=none):lk σ id=none:=by
 cases a:lk σ id with
 | none=>rfl
 | some e=>exact absurd (hp.ents _ _ a).named (by grind)
theorem jV(b:List Ad) id (B:b≠[])(S:b.length<=2^30):HB π O 107 [.arr id] [(id,.arr 9 1 (b.map V.s))] (.arr 9 1 (b.map V.s)) [(id,.arr 9 1 (b.map V.s))] where
 callable:=by kernel_rfl
 dom:=λ_ h=>h
 run:=by
  intro n w μ H o hp G;obtain⟨x,rfl⟩:∃x,o=[x]:=by
   match o,G.len with
   | [x],_=>exact⟨x,rfl⟩
  have L:=(G.at_ 0 _ _ rfl rfl).arr_inv.1;obtain⟨g,p,r,rfl,hB,F,A,D,E,q,_,C⟩:=pN hp B L;have key:=Any.slices_Clone_string Tryz.laysT16 g 0 b.length p (b.map λl=>(⟨l.toArray⟩:ByteArray)) w (by simp) (by omega) (λj J=>by
   have t:j<b.length:=by simpa using J
   have:=(Ky F q j (by simpa using t)).1;rw[this];simp[t,encStr])
  refine key.mono ?_;rintro e w' ⟨v,rfl,d,_,f⟩;have u:List.map Value.string ((b.map λl=>(⟨l.toArray⟩:ByteArray)).take b.length)=b.map encStr:=by rw[A0e (by simp),A0F];exact Ayp λ_ _=>rfl
  rw[u] at d;have a:μ (n,0)=none:=hp.bd _ (AfJ _);have c:=d.2;have m:v.oneCell'=true:=by rcases c with⟨rfl,_⟩|⟨g,p,r,rfl,_⟩<;>rfl
  have i:=(hp.more (Aw0 n)).new_ (n':=n+1) (R:=λ_=>False) (w':=w') ⟨f.os,f.tape,f.output,f.size,λk K _=>f.block k K⟩ (λ_ h=>h.elim) (σ1:=[(id,.arr 9 1 (b.map V.s))]) (λid e h=>⟨h,λ_ _ h=>h⟩) (id:=(n,0)) (e:=.arr 9 1 (b.map V.s)) (val:=v) a (Adx _) (AfJ _) (λN f=>by
    right;rcases c with⟨rfl,_⟩|⟨g,p,r,rfl,F,_⟩
    .simp[Cc] at f
    .simp[Cc] at f;omega)
   ⟨v,b.map encStr,Ax _ _ _,m,by rw[AaT];exact ownsRow_base_a d hp.base.size,by rw[AaT];unfold AM;omega,by intro y M;obtain⟨x,_,rfl⟩:=Awt.1 M;rfl,MW C⟩
  refine⟨v,_,H,n+1,(n,0),rfl,Ax _ _ _,m,a,dS hp a,i.1,Aw0 _,i.2,λid z I=>?_⟩;rw[Cd _ _ (by rintro rfl;simp at z)];exact I
theorem Lg{a}{l:Ad}(h:l∈Lib.compact a):l∈a:=by unfold Lib.compact Lib.compactUpTo at h;grind
theorem Ld(a:List Ad):(Lib.compact a).length<=a.length:=by unfold Lib.compact Lib.compactUpTo;grind
theorem NA(a:List Ad) id (G:a≠[])(hl:a.length<=2^30):FQ π O 245 [.arr id] [(id,.arr 9 1 (a.map V.s))] (λn n' v σ'=>∃b,n<=b.1/\b.1<n'/\v=.arr b/\σ'=[(b,.arr 9 1 ((Lib.compact a).map V.s))]) where
 callable:=by kernel_rfl
 run:=by
  intro n w μ H d hp N;obtain⟨x,rfl⟩:∃x,d=[x]:=by
   match d,N.len with
   | [x],_=>exact⟨x,rfl⟩
  have J:=(N.at_ 0 _ _ rfl rfl).arr_inv.1;obtain⟨g,f,i,rfl,hB,A,o,t,u,r,_,I⟩:=pN hp G J;have W:=Ld a;have X:g<w.heap.size:=(AvR.1 A).1;refine(Any.slices_Compact_string Tryz.lays194 g 0 f a w (Ky A r) (by omega) o).mono ?_;rintro en w' ⟨rfl,q,rfl⟩;generalize K:Lib.compact a++List.replicate (a.length-(Lib.compact a).length) []=T;have U:T.length=a.length:=by rw[<-K];simp;omega
  have z:∀j,(Sort.putRow encStr (Sort.ahead w q) g 0 T.toArray).heap[j]?=if j=g then some (.cells (Sort.putCells encStr 0 T.toArray i) 9 (0,0)) else w.heap[j]?:=by
   intro j;simp only[Sort.putRow,Sort.mapBlock,Sort.ahead];rw[Array.getElem?_modify];by_cases m:g=j
   .subst m;simp[A,Sort.onCells]
   .rw[Amt m,Amt (AsR m)]
  have p:μ (n,0)=none:=hp.bd _ (AfJ _);have F:lk [(id,Be.arr 9 1 (a.map V.s))] id=some (.arr 9 1 (a.map V.s)):=by simp[lk]
  have c:=(hp.more (Aw0 n)).new_ (n':=n+1) (σ1:=[]) (w':=Sort.putRow encStr (Sort.ahead w q) g 0 T.toArray) (R:=λk=>Cc (μ id)=some k) ⟨rfl,rfl,rfl,by simp[Sort.putRow,Sort.mapBlock,Sort.ahead],λk M Z=>by rw[z,Amt];rintro rfl;exact Z (by rw[J];rfl)⟩ (λk M=>⟨id,_,F,M⟩) (λab e' h=>by simp[lk] at h) p (id:=(n,0)) (e:=.arr 9 1 ((Lib.compact a).map V.s)) (val:=.slice (some ⟨g,0,none⟩) (Lib.compact a).length f) (Adx _) (AfJ _) (λbk L=>by
    simp only[Cc,Arp] at L;subst L;left;rw[J];rfl)
   ⟨_,(Lib.compact a).map encStr,Ax _ _ _,rfl,⟨by simp,.inr ⟨g,f,Sort.putCells encStr 0 T.toArray i,by simp,hB,by rw[z,Aiv rfl],by simp;omega,t,by simp[Sort.putCells,u],by
    apply Azx;intro j;simp only[AaT,Nat.mul_one,AyU,AtX];split
    .rename_i C;have E:j<i.size:=by omega
     have D:j<T.length:=by omega
     have:T[j]=(Lib.compact a)[j]:=by simp only[<-K];rw[List.getElem_append_left C]
     simp[Sort.putCells,E,D,this,C]
    .rename_i C;rw[A0g (by omega)];rfl⟩⟩,by simp;unfold AM;omega,by intro y hy;obtain⟨x,_,rfl⟩:=Awt.1 hy;rfl,MW λl Y=>I l (Lg Y)⟩
  refine⟨_,_,H,n+1,_,_,rfl,⟨(n,0),AfJ _,Adx _,rfl,rfl⟩,.arr _ _ (Ax _ _ _) rfl,c.1,Aw0 _,c.2,λid B S=>?_⟩;rw[Cd _ _ (by rintro rfl;simp at B)];exact S
end Go.Ir

namespace Go.Ir
open Go.Proofs
variable{P:Program}{O:World}{nt n:Nat}{Q:Exit→St→Prop}{env:Bm}{σ:Au}
def rP:IC:=sQ (oS [m1 5 1] [2,5] (.block 0 (oS [bZ 7 .eql 5 7,m1 6 7] [2,5,6] (cD 6 (oR [fA 8 2 3,l1 9 8,m1 4 9] [4]) (oS [bZ 11 .eql 5 8,m1 10 11] [2,10] (cD 10 (oR [fA 12 2 4,l1 13 12,m1 4 13] [4]) .skip)))))) (oR [mC 4 .nil] [4])
def sA:IC:=oS [bX 2 0,mC 4 .nil] [1,2] rP
def Ap7:List R:=[.t 4]
def Axx:=Ao rP.eq_1<|AJ sA.eq_1
theorem AlT:Ar π 102 14 sA Ap7=true:=by kernel_rfl
def m4:IC:=sQ (oS [m1 5 0,bZ 6 .eql 5 9] [3,6] (cD 6 (oR [lA 7 3 5,q1 8 108 7,m1 9 8,D0 10 9 3 1,Dm 11 9 10,Dn 12 9 .eql 11 1,pA 13 9 12,m1 4 13] [4]) .skip)) (oR [lA 14 3 5,q1 15 108 14,m1 16 15,D0 17 16 3 1,Dm 18 16 17,Dn 19 16 .eql 18 2,pA 20 16 19,m1 4 20] [4])
def iS:IC:=oS [bX 3 1,mC 4 (.b false)] [0,3] m4
def AmO:List R:=[.t 4]
def AwF:=Ao m4.eq_1<|AJ iS.eq_1
theorem Amh:Ar π 103 21 iS AmO=true:=by kernel_rfl
def XL:IC:=oR [fA 23 5 2,l1 24 23,o1 25 (.bin .add (.c (.s [61])) (.t 24)),m1 26 7,o1 27 (.msl false 9 1 [.t 25,.t 26,.c (.s [111,116,104,101,114])]),m1 6 27] [6]
def jC:IC:=sQ (.ops [lA 15 3 16,m1 16 1,q2 17 102 15 16,fA 18 5 2,l1 19 18,q2 20 145 17 19,m1 14 20,xT 21 14 0,xT 22 14 1,m1 7 21,m1 8 22] [5,7] [[0,2],[1,2],[3,4],[2,5],[4,5],[5,6],[6,7],[6,8],[7,9],[8,10]]) XL
def kE:IC:=sQ (oS [m1 9 1,bZ 10 .eql 9 9] [1,3,5,10] (cD 10 (oR [fA 11 5 2,l1 12 11,o1 13 (.msl false 9 1 [.t 12,.c (.s [111,116,104,101,114])]),m1 6 13] [6]) .skip)) jC
def jX:IC:=oS [bX 3 0,bX 5 2,mC 6 .nil] [1,3,5] kE
def Am7:List R:=[.t 6]
def AwP:=Ao XL.eq_1<|Ao jC.eq_1<|Ao kE.eq_1<|AJ jX.eq_1
theorem Ahp:Ar π 143 28 jX Am7=true:=by kernel_rfl
def X7:IC:=oS [m1 21 2,m1 22 10,q2 23 144 21 22,m1 11 23] [2,11,15,16,17] (oS [m1 24 11,bZ 25 .geq 24 0] [2,11,15,16,17,25] (cD 25 (oR [m1 26 11,m1 8 26] [8]) .skip))
def wK:IC:=oS [bT 18 .lss 17 16] [2,15,16,17,18] (sQ (cD 18 .skip (.exit 0)) (sQ (.block 1 (oS [iA 19 15 17 9 1,l1 20 19,m1 10 20] [2,10,15,16,17] X7)) (oP [bZ 27 .add 17 1,m1 17 27] [2,15,16,17])))
def p6:IC:=oS [bX 4 0,bX 7 3,mZ 8 0] [1,2,4,7] (sQ (oS [lA 12 4 16,m1 13 1,lA 14 7 5,q3 15 143 12 13 14,nL 16 15,mZ 17 0] [2,15,16,17] (.block 0 (.loop wK))) (oR [mZ 8 (-1)] [8]))
def AqE:List R:=[.t 8]
def Awv:=Ao X7.eq_1<|Ao wK.eq_1<|AJ p6.eq_1
theorem AlS:Ar π 104 28 p6 AqE=true:=by kernel_rfl
def kA:IC:=oS [m1 34 9,nT 35 34,m1 33 35] [3,4,8,33] (cD 33 (oR [mZ 6 0,mZ 7 12] [6,7]) (oS [fA 37 4 0,l1 38 37,lA 39 8 5,q2 40 103 38 39,nT 41 40,m1 36 41] [3,4,8,36] (cD 36 (oR [mZ 6 0,mZ 7 11] [6,7]) .skip)))
def jR:IC:=sQ (.block 2 (oS [iA 47 43 45 76 2,lA 48 47 2,o1 12 (.alloc (.agg [.s [],.nil])),sT 12 48 2] [3,4,8,10,12,43,44,45] (oP [m1 49 10,fA 50 12 0,l1 51 50,o1 52 (.msl false 9 1 [.t 51]),o1 53 (.app (.t 49) (.t 52) 9 1),m1 10 53] [3,4,8,10,43,44,45]))) (oP [bZ 54 .add 45 1,m1 45 54] [3,4,8,10,43,44,45])
def dL:IC:=sQ (oS [fA 42 4 4,l1 43 42,nL 44 43,mZ 45 0] [3,4,8,10,43,44,45] (.block 1 (.loop (oS [bT 46 .lss 45 44] [3,4,8,10,43,44,45,46] (sQ (cD 46 .skip (.exit 1)) jR))))) (sQ (.wk (oP [lA 55 3 16,fA 56 4 0,l1 57 56,m1 58 10,lA 59 8 5,o1 60 (.call 104 [.t 55,.t 57,.t 58,.t 59]),m1 13 60] [13])) (sQ (oS [m1 61 13,bZ 62 .lss 61 0] [13,62] (cD 62 (oR [mZ 6 0,mZ 7 13] [6,7]) .skip)) (oR [m1 63 13,m1 6 63,mZ 7 0] [6,7])))
def Agv:IC:=sQ (.block 0 (oS [fA 22 4 0,l1 23 22,q1 24 89 23,nT 25 24,m1 21 25] [3,4,8,9,21] (cD 21 (oR [mZ 6 0,mZ 7 1] [6,7]) (oS [lA 27 3 16,fA 28 4 0,l1 29 28,q2 30 102 27 29,q1 31 101 30,nT 32 31,m1 26 32] [3,4,8,9,26] (cD 26 (oR [mZ 6 0,mZ 7 18] [6,7]) kA))))) (oS [mC 10 .nil] [3,4,8,10] dL)
def Afr:IC:=oS [m1 15 2,fA 16 4 2,l1 17 16,q2 18 73 15 17,m1 14 18,xT 19 14 0,xT 20 14 1,o1 8 (.alloc (.agg [.s [],.i .i64 0,.s [],.i .i64 0,.nil])),sT 8 19 5,m1 9 20] [3,4,8,9] Agv
def Agz:IC:=oS [bX 3 0,bX 4 1,mZ 6 0,mZ 7 0] [2,3,4] Afr
def Awh:List R:=[.t 6,.t 7]
def Ayz:=Ao kA.eq_1<|Ao jR.eq_1<|Ao dL.eq_1<|Ao Agv.eq_1<|Ao Afr.eq_1<|AJ Agz.eq_1
theorem Agk:Ar π 72 64 Agz Awh=true:=by kernel_rfl
def Wr:IC:=oS [m1 45 7,m1 46 8,m1 47 6,o1 48 (.slS (.t 46) (some (.t 47)) none),o1 49 (.msl false 9 1 [.t 48]),o1 50 (.app (.t 45) (.t 49) 9 1),m1 7 50] [2,5,6,7,8] (oP [m1 51 8,m1 52 6,o1 53 (.slS (.t 51) none (some (.t 52))),m1 8 53] [2,5,7,8])
def QP:IC:=sQ (oS [m1 38 8,bC 39 .neq 38 (.s [])] [2,5,7,8,39] (cD 39 .skip (.exit 0))) (.block 1 (oS [m1 40 8,nS 41 40,m1 42 5,bT 43 .sub 41 42,o1 44 (.mx false (ci 0) [.t 43]),m1 6 44] [2,5,6,7,8] Wr))
def Wd:IC:=sQ (oS [m1 35 1,m1 36 6,o1 37 (.slS (.t 35) none (some (.t 36))),m1 8 37] [2,5,7,8] (.block 0 (.loop QP))) (oS [m1 54 7,o1 55 (.calls 172 [.t 54])] [2,7] (sQ (.wk (oP [m1 56 7,fA 57 2 1,l1 58 57,q2 59 173 56 58,m1 4 59] [4])) .ret))
def Yn:IC:=oS [m1 26 1,nS 27 26,fA 28 2 4,l1 29 28,bT 30 .sub 27 29,m1 6 30] [1,2,5,6] (oS [m1 31 1,m1 32 6,o1 33 (.slS (.t 31) (some (.t 32)) none),o1 34 (.msl true 9 1 [.t 33]),m1 7 34] [1,2,5,6,7] Wd)
def sH:IC:=oS [fA 20 2 5,l1 21 20,m1 5 21] [1,2,5] (sQ (oS [m1 22 5,bZ 23 .lss 22 1] [1,2,5,23] (cD 23 (oP [fA 24 2 4,l1 25 24,m1 5 25] [1,2,5]) .skip)) Yn)
def xM:IC:=sQ (oS [fA 9 2 4,l1 10 9,bZ 11 .lss 10 1,m1 12 11,Bn 13 12 1,gF 14 12 (.lenS (.t 13)),CG 15 12 2 4,CM 16 12 15,gF 17 12 (.bin .leq (.t 14) (.t 16)),pO 18 12 17] [1,2,18] (cD 18 (oR [m1 19 1,m1 4 19] [4]) .skip)) sH
def uM:IC:=oS [bX 2 0,mC 4 (.s [])] [1,2] xM
def ApK:List R:=[.t 4]
def AwW:=Ao Wr.eq_1<|Ao QP.eq_1<|Ao Wd.eq_1<|Ao Yn.eq_1<|Ao sH.eq_1<|Ao xM.eq_1<|AJ uM.eq_1
theorem UP:Ar π 138 60 uM ApK=true:=by kernel_rfl
def iN:IC:=oS [lA 22 2 6,m1 23 7,q2 24 138 22 23,m1 10 24] [2,6,8,9,10] (sQ (oS [m1 25 9] [2,6,8,10,25] (cD 25 (oP [m1 26 10,fA 27 2 0,l1 28 27,m1 29 8,bT 30 .add 28 29,bT 31 .add 26 30,m1 10 31] [2,6,10]) .skip)) (sQ (oS [m1 32 6] [2,10,32] (cD 32 (oP [fA 33 2 2,l1 34 33,m1 35 10,bT 36 .add 34 35,m1 10 36] [10]) .skip)) (oR [m1 37 10,m1 4 37] [4])))
def xL:IC:=oS [m1 12 1,o1 13 (.call 136 [.t 12,.c (.s [45])]),m1 11 13,xT 14 11 0,xT 15 11 1,m1 5 14,m1 6 15] [2,5,6] (oS [m1 17 5,o1 18 (.call 137 [.t 17,.c (.s [46])]),m1 16 18,xT 19 16 0,xT 20 16 1,xT 21 16 2,m1 7 19,m1 8 20,m1 9 21] [2,6,7,8,9] iN)
def w9:IC:=oS [bX 2 0,mC 4 (.s [])] [1,2] xL
def Ase:List R:=[.t 4]
def Awq:=Ao iN.eq_1<|Ao xL.eq_1<|AJ w9.eq_1
theorem Ah0:Ar π 100 38 w9 Ase=true:=by kernel_rfl
def Adw:IC:=cD 13 (oR [mC 6 (.s []),mZ 7 1] [6,7]) (oS [fA 30 8 0,l1 31 30,bC 32 .eql 31 (.s []),m1 29 32] [1,2,8,29] (cD 29 (oR [mC 6 (.s []),mZ 7 18] [6,7]) .skip))
def vZ:IC:=oS [m1 44 1,o1 45 (.call 99 [.t 44,ci 2]),m1 43 45,xT 46 43 0,xT 47 43 1,m1 1 46,m1 10 47] [1,8,10] (oP [fA 48 8 3,l1 49 48,m1 9 49] [1,8,9,10])
def s9:IC:=.block 1 (oS [bC 35 .eql 33 (.s [105,110,116,101,103,101,114]),m1 34 35] [1,8,9,10,33,34] (cD 34 (oP [m1 37 1,o1 38 (.call 98 [.t 37,ci 0]),m1 36 38,xT 39 36 0,xT 40 36 1,m1 1 39,m1 10 40] [1,8,9,10]) (oS [bC 42 .eql 33 (.s [112,101,114,99,101,110,116]),m1 41 42] [1,8,9,10,41] (cD 41 vZ .skip))))
def cR:IC:=sQ (oS [m1 50 10,bZ 51 .neq 50 0] [1,8,9,10,51] (cD 51 (oR [m1 52 10,mC 6 (.s []),m1 7 52] [6,7]) .skip)) (oR [lA 53 8 6,m1 54 1,q2 55 100 53 54,m1 56 9,bT 57 .add 55 56,m1 6 57,mZ 7 0] [6,7])
def AgQ:IC:=sQ (.block 0 (oS [m1 14 1,q1 15 97 14,nT 16 15,m1 17 16,Bn 18 17 2,gF 19 17 (.bin .neq (.t 18) (.c (.s []))),Bn 20 17 19,B0 21 20 2,gT 22 20 (.bin .neq (.t 21) (.c (.s [105,110,116,101,103,101,114]))),gF 23 17 (.pick (.t 20) (.t 22) (.c (.b false))),Bn 24 17 23,B0 25 24 2,gT 26 24 (.bin .neq (.t 25) (.c (.s [112,101,114,99,101,110,116]))),gF 27 17 (.pick (.t 24) (.t 26) (.c (.b false))),pO 28 17 27,m1 13 28] [1,2,8,13] Adw)) (oS [mC 9 (.s [])] [1,2,8,9] (oS [mZ 10 0] [1,2,8,9,10] (sQ (oS [m1 33 2] [1,8,9,10,33] s9) cR)))
def AdT:IC:=oS [bX 3 0,mC 6 (.s []),mZ 7 0] [1,2,3] (oS [fA 11 3 5,lA 12 11 6,o1 8 (.alloc (.agg [.s [],.s [],.s [],.s [],.i .i64 0,.i .i64 0])),sT 8 12 6] [1,2,8] AgQ)
def AtN:List R:=[.t 6,.t 7]
def AyV:=Ao Adw.eq_1<|Ao vZ.eq_1<|Ao s9.eq_1<|Ao cR.eq_1<|Ao AgQ.eq_1<|AJ AdT.eq_1
theorem AmB:Ar π 70 58 AdT AtN=true:=by kernel_rfl
def qZ:IC:=sQ (oS [fA 14 1 0,l1 15 14,m1 16 15,gT 17 16 (.load (.t 1) 3 true),gT 18 16 (.call 164 [.t 17]),gT 19 16 (.not (.t 18)),pA 20 16 19] [3,20] (cD 20 (oP [m1 21 3,o1 22 (.bin .add (.c (.s [45])) (.t 21)),m1 3 22] [3]) .skip)) (oR [m1 23 3,m1 2 23] [2])
def rC:IC:=sQ (oS [fA 6 1 2,l1 7 6,bC 8 .neq 7 (.s [])] [1,3,8] (cD 8 (oP [m1 9 3,fA 10 1 2,l1 11 10,o1 12 (.bin .add (.c (.s [46])) (.t 11)),bT 13 .add 9 12,m1 3 13] [1,3]) .skip)) qZ
def oX:IC:=oS [bX 1 0,mC 2 (.s [])] [1] (oS [fA 4 1 1,l1 5 4,m1 3 5] [1,3] rC)
def AnI:List R:=[.t 2]
def AwI:=Ao qZ.eq_1<|Ao rC.eq_1<|AJ oX.eq_1
theorem AlJ:Ar π 168 24 oX AnI=true:=by kernel_rfl
def fT:IC:=sQ (oS [fA 4 1 1,l1 5 4,nS 6 5,bZ 7 .gtr 6 15,m1 8 7,CG 9 8 1 2,CM 10 8 9,gF 11 8 (.lenS (.t 10)),Dv 12 8 .gtr 11 6,pO 13 8 12] [1,13] (cD 13 (oR [mC 2 (.s []),mZ 3 2] [2,3]) .skip)) (oR [lA 14 1 3,q1 15 168 14,m1 2 15,mZ 3 0] [2,3])
def cY:IC:=oS [bX 1 0,mC 2 (.s []),mZ 3 0] [1] fT
def Ano:List R:=[.t 2,.t 3]
def AwT:=Ao fT.eq_1<|AJ cY.eq_1
theorem AlO:Ar π 133 16 cY Ano=true:=by kernel_rfl
def i7:IC:=sQ (oS [m1 4 0,o1 5 (.call 169 [.t 4,.c (.s [48])]),m1 3 5] [3] (oS [m1 6 3,bC 7 .neq 6 (.s [])] [3,7] (cD 7 (oR [m1 8 3,m1 2 8] [2]) .skip))) (oR [mC 2 (.s [48])] [2])
def yO:IC:=oS [mC 2 (.s [])] [0] i7
def As8:List R:=[.t 2]
def Ax9:=Ao i7.eq_1<|AJ yO.eq_1
theorem Ai6:Ar π 135 9 yO As8=true:=by kernel_rfl
def iY:IC:=oS [m1 19 1,bZ 20 .lss 19 0,m1 21 20,Bn 22 21 1,Dv 23 21 .gtr 22 6,pO 24 21 23,m1 18 24] [1,6,18] (cD 18 (oR [mC 4 (.s []),mZ 5 2] [4,5]) .skip)
def gB:IC:=sQ (.ops [fA 30 6 2,l1 31 30,m1 32 1,fA 33 6 2,l1 34 33,nS 35 34,bT 36 .sub 32 35,o1 37 (.call 132 [.c (.s [48]),.t 36]),bT 38 .add 31 37,fA 39 6 2,sT 39 38 1] [6] [[0,1],[3,4],[4,5],[2,6],[5,6],[6,7],[1,8],[7,8],[1,10],[4,10],[8,10],[9,10]]) (oR [lA 40 6 3,q1 41 133 40,xT 42 41 0,xT 43 41 1,m1 4 42,m1 5 43] [4,5])
def iW:IC:=sQ (.ops [m1 59 8,m1 60 8,nS 61 60,m1 62 1,bT 63 .sub 61 62,o1 64 (.slS (.t 59) none (some (.t 63))),m1 65 8,m1 66 8,nS 67 66,m1 68 1,bT 69 .sub 67 68,o1 70 (.slS (.t 65) (some (.t 69)) none),fA 71 6 1,sT 71 64 1,fA 72 6 2,sT 72 70 1] [6] [[1,2],[2,4],[3,4],[0,5],[4,5],[7,8],[8,10],[9,10],[6,11],[10,11],[5,13],[12,13],[11,15],[13,15],[14,15]]) (oR [lA 73 6 3,q1 74 133 73,xT 75 74 0,xT 76 74 1,m1 4 75,m1 5 76] [4,5])
def dM:IC:=sQ (.ops [fA 44 6 1,l1 45 44,fA 46 6 2,l1 47 46,m1 48 1,o1 49 (.slS (.t 47) none (some (.t 48))),bT 50 .add 45 49,fA 51 6 2,l1 52 51,m1 53 1,o1 54 (.idx (.t 52) (.t 53)),bC 55 .geq 54 (.i .u8 53),m1 8 50,m1 9 55] [1,6,8,9] [[0,1],[2,3],[3,5],[4,5],[1,6],[5,6],[7,8],[8,10],[9,10],[10,11],[6,12],[11,13]]) (sQ (oS [m1 56 9] [1,6,8,56] (cD 56 (oP [m1 57 8,q1 58 134 57,m1 8 58] [1,6,8]) .skip)) iW)
def AgM:IC:=sQ (.block 0 (oS [m1 16 7,nT 17 16,m1 15 17] [1,6,15] (cD 15 (oR [mC 4 (.s []),mZ 5 1] [4,5]) iY))) (sQ (oS [m1 25 1,fA 26 6 2,l1 27 26,nS 28 27,bT 29 .geq 25 28] [1,6,29] (cD 29 gB .skip)) dM)
def Afe:IC:=oS [mC 4 (.s []),mZ 5 0] [0,1] (oS [m1 11 0,q1 12 131 11,m1 10 12,xT 13 10 0,xT 14 10 1,o1 6 (.alloc (.agg [.b false,.s [],.s []])),sT 6 13 3,m1 7 14] [1,6,7] AgM)
def Auc:List R:=[.t 4,.t 5]
def AyT:=Ao iY.eq_1<|Ao gB.eq_1<|Ao iW.eq_1<|Ao dM.eq_1<|Ao AgM.eq_1<|AJ Afe.eq_1
theorem iX:Ar π 98 77 Afe Auc=true:=by kernel_rfl
def kH:IC:=.ops [fA 27 6 1,l1 28 27,m1 29 8,m1 30 1,o1 31 (.slS (.t 29) none (some (.t 30))),bT 32 .add 28 31,q1 33 135 32,fA 34 6 2,l1 35 34,m1 36 1,fA 37 6 2,l1 38 37,nS 39 38,o1 40 (.mx true (.t 36) [.t 39]),o1 41 (.slS (.t 35) (some (.t 40)) none),fA 42 6 1,sT 42 33 1,fA 43 6 2,sT 43 41 1] [6] [[0,1],[2,4],[3,4],[1,5],[4,5],[5,6],[7,8],[10,11],[11,12],[9,13],[12,13],[8,14],[13,14],[1,16],[6,16],[8,16],[11,16],[15,16],[1,18],[8,18],[11,18],[14,18],[16,18],[17,18]]
def pD:IC:=sQ (.ops [fA 22 6 2,l1 23 22,m1 24 1,o1 25 (.call 132 [.c (.s [48]),.t 24]),bT 26 .add 23 25,m1 8 26] [1,6,8] [[0,1],[2,3],[1,4],[3,4],[4,5]]) kH
def vK:IC:=.ops [m1 50 9,m1 51 9,nS 52 51,m1 53 1,bT 54 .add 52 53,o1 55 (.slS (.t 50) none (some (.t 54))),q1 56 135 55,m1 57 9,m1 58 9,nS 59 58,m1 60 1,bT 61 .add 59 60,o1 62 (.slS (.t 57) (some (.t 61)) none),fA 63 6 2,l1 64 63,bT 65 .add 62 64,fA 66 6 1,sT 66 56 1,fA 67 6 2,sT 67 65 1] [6] [[1,2],[2,4],[3,4],[0,5],[4,5],[5,6],[8,9],[9,11],[10,11],[7,12],[11,12],[13,14],[12,15],[14,15],[6,17],[14,17],[16,17],[14,19],[15,19],[17,19],[18,19]]
def cT:IC:=sQ (.ops [m1 44 1,o1 45 (.neg (.t 44)),o1 46 (.call 132 [.c (.s [48]),.t 45]),fA 47 6 1,l1 48 47,bT 49 .add 46 48,m1 9 49] [1,6,9] [[0,1],[1,2],[3,4],[2,5],[4,5],[5,6]]) vK
def pV:IC:=oS [m1 17 1,o1 18 (.mx true (.t 17) [ci 40]),o1 19 (.mx false (.t 18) [ci (-40)]),m1 1 19] [1,6] (sQ (oS [m1 20 1,bZ 21 .geq 20 0] [1,6,21] (cD 21 pD cT)) (oR [lA 68 6 3,q1 69 133 68,xT 70 69 0,xT 71 69 1,m1 4 70,m1 5 71] [4,5]))
def AfE:IC:=oS [m1 11 0,q1 12 131 11,m1 10 12,xT 13 10 0,xT 14 10 1,o1 6 (.alloc (.agg [.b false,.s [],.s []])),sT 6 13 3,m1 7 14] [1,6,7] (sQ (oS [m1 15 7,nT 16 15] [1,6,16] (cD 16 (oR [mC 4 (.s []),mZ 5 1] [4,5]) .skip)) pV)
def Afw:IC:=oS [mC 4 (.s []),mZ 5 0] [0,1] AfE
def Aua:List R:=[.t 4,.t 5]
def AyG:=Ao kH.eq_1<|Ao pD.eq_1<|Ao vK.eq_1<|Ao cT.eq_1<|Ao pV.eq_1<|Ao AfE.eq_1<|AJ Afw.eq_1
theorem AgZ:Ar π 99 72 Afw Aua=true:=by kernel_rfl
attribute[push_cast]Ap7 Axx AmO AwF Am7 AwP AqE Awv Awh Ayz ApK AwW Ase Awq AtN AyV AnI AwI Ano AwT As8 Ax9 Auc AyT Aua AyG
end Go.Ir

namespace Go.Ir
open Go.Proofs
variable(O:World)
theorem tT c (w f:Ad):An π O 164 [.agg [.b c,.s w,.s f]] [] (.b (Ef w&&Ef f)) []:=by
 refine Ah (vs:=[.b (Ef w&&Ef f)]) sF (by simp) (by simp) λn0 a=>?_;clear a;simp only[push_cast,seval,rq]
 repeat' (first|(((first|apply Ac|apply Af|apply Ag)<;>intro _h)<;>(simp only[push_cast,seval,rq,_h];try (have _g:=_h;simp at _g)))|(refine Ab (by exact pZ O _) ?_;simp only[push_cast,seval,rq])|intro _)
 all_goals (first|(refine Ae ?_;simp[get, *]<;>(intros;omega);done)|(refine Ai ?_;simp[push_cast,get, *];done)|skip)
theorem AaJ c (w f:Ad)(h:w.length<=2^30)(g:f.length<=2^30):An π O 168 [.agg [.b c,.s w,.s f]] [] (.s (F6 c w f)) []:=by
 have e:=tT O c w f;generalize hS:F6 c w f=S;unfold F6 at hS;generalize(Ef w&&Ef f)=Z at *;refine Ah (vs:=[.s S]) AlJ (by simp) (by simp) λn0 d=>?_;clear d;simp only[push_cast,seval,rq];cases c<;>cases Z
 all_goals (cases a:(f==([]:Ad)))
 all_goals ((try simp only[a,bq,Agp,AfT,rb,reduceCtorEq] at hS);subst hS)
 all_goals (try simp only[push_cast,seval,rq,a])
 all_goals (repeat' (first|((first|refine Ab (by exact e) ?_|refine As (by simp only[Aaf,Aa8,Adu,Am]<;>omega) ?_);(try simp only[push_cast,seval,rq,a]))|intro _))
 all_goals (first|(refine Ae ?_;simp[get];done)|(refine Ai ?_;simp[push_cast,get];done)|skip)
theorem Kr d (w f:Ad)(h:w.length<=2^30)(g:f.length<=2^30):An π O 133 [.agg [.b d,.s w,.s f]] [] (.tup [.s (E0 d w f).1,.i .i64 (E0 d w f).2]) []:=by
 have j:=AaJ O d w f h g;generalize hS:E0 d w f=S;unfold E0 at hS;generalize F6 d w f=Z at *;refine Ah (vs:=[.s S.1,.i .i64 S.2]) AlO (by simp) (by simp) λn0 e=>?_;clear e;simp only[push_cast,seval,rq]
 all_goals (cases a:(decide ((w.length:Int)>15))<;>cases c:(decide ((f.length:Int)>6)))
 all_goals ((try simp only[a,c,bq,Agp,AfT,rb,reduceCtorEq] at hS);subst hS)
 all_goals (try simp only[push_cast,seval,rq,a,c])
 all_goals (repeat' (first|((first|refine Ab (by exact j) ?_|refine As (by simp only[Aaf,Aa8,Adu,Am]<;>omega) ?_);(try simp only[push_cast,seval,rq,a,c]))|intro _))
 all_goals (first|(refine Ae ?_;simp[get];done)|(refine Ai ?_;simp[push_cast,get];done)|skip)
theorem YN(w:Ad):An π O 135 [.s w] [] (.s (Ds w)) []:=by
 have c:=Qy O w [48] (by decide) (by decide);generalize hS:Ds w=S;unfold Ds at hS;generalize Lib.trimLeftS w [48]=Z at *;refine Ah (vs:=[.s S]) Ai6 (by simp) (by simp) λn0 b=>?_;clear b;simp only[push_cast,seval,rq]
 all_goals (cases a:(Z==([]:Ad)))
 all_goals ((try simp only[a,bq,Agp,AfT,rb,reduceCtorEq] at hS);subst hS)
 all_goals (try simp only[push_cast,seval,rq,a])
 all_goals (repeat' (first|((first|refine Ab (by exact c) ?_|refine As (by simp only[Aaf,Aa8,Adu,Am]<;>omega) ?_);(try simp only[push_cast,seval,rq,a]))|intro _))
 all_goals (first|(refine Ae ?_;simp[get];done)|(refine Ai ?_;simp[push_cast,get];done)|skip)
theorem cJ:An π O 132 [.s [48],.i .i64 0] [] (.s []) []:=OG O [48] 0 (by decide) (by decide) (by decide)
theorem ZR:An π O 132 [.s [48],.i .i64 2] [] (.s [48,48]) []:=OG O [48] 2 (by decide) (by decide) (by decide)
theorem JH{s}(h:DA s=true):(AI s).length<=15/\(Ba s).length<=6:=⟨(GN h).2.2.1,(GN h).2.2.2⟩
theorem Ut w:(Ds w).length<=w.length+1:=by unfold Ds;have:=Fv w [48];split<;>simp<;>omega
theorem AcT(s:Ad)(q:s.length<=2^30):An π O 99 [.s s,.i .i64 2] [] (.tup [.s (CZ s).1,.i .i64 (CZ s).2]) []:=by
 have a:=LE O s (by omega);have m:=ZR O;generalize hS:CZ s=S;unfold CZ at hS;unfold KJ at a;cases k:DA s with
 | false=>
  rw[k] at a hS;refine Ah (vs:=[.s S.1,.i .i64 S.2]) AgZ (by simp) (by simp) λn0 h=>?_;clear h;simp only[push_cast,seval,rq]
  all_goals ((try simp only[bq,Agp,AfT,rb,reduceCtorEq] at hS);subst hS)
  all_goals (try simp only[push_cast,seval,rq])
  all_goals (repeat' (first|((first|refine Ab (by exact a) ?_|refine As (by simp only[Aaf,Aa8,Adu,Am]<;>omega) ?_);(try simp only[push_cast,seval,rq]))|intro _))
  all_goals (first|(refine Ae ?_;simp[get];done)|(refine Ai ?_;simp[push_cast,get];done)|skip)
 | true=>
  rw[k] at a hS;obtain⟨r,t⟩:=JH k;have j:((Ba s++[48,48]).take 2).length=2:=by simp
  have l:=Ut (AI s++(Ba s++[48,48]).take 2);rw[Aaf,j] at l;have o:=YN O (AI s++(Ba s++[48,48]).take 2);have hp:=Kr O (Jw s) (Ds (AI s++(Ba s++[48,48]).take 2)) ((Ba s).drop (min 2 (Ba s).length)) (by omega) (by simp;omega);generalize Jw s=p at *;generalize AI s=W at *;generalize Ba s=F at *;generalize Ds (W++(F++[48,48]).take 2)=TB at *;have b:max (min (2:Int) 40) (-40)=2:=rfl;have c:decide ((2:Int)>=0)=true:=rfl;have d:(2<=(F++[48,48]).length)=True:=Amy (by simp);have e:min (2:Int) (F.length:Int)=((min 2 F.length:Nat):Int):=by omega
  have f:((min 2 F.length:Nat)<=F.length)=True:=Amy (by omega);have g:(W.length+(List.take 2 (F++[48,48])).length<=Am)=True:=Amy (by unfold Am;omega);refine Ah (vs:=[.s S.1,.i .i64 S.2]) AgZ (by simp) (by simp) λn0 h=>?_;clear h;simp only[push_cast,seval,rq,b,c,d,e,f,g,AfJ,An6]
  all_goals ((try simp only[bq,Agp,AfT,rb,reduceCtorEq] at hS);subst hS)
  all_goals (try simp only[push_cast,seval,rq,b,c,d,e,f,g,AfJ,An6])
  all_goals (repeat' (first|((first|refine Ab (by exact a) ?_|refine Ab (by exact m) ?_|refine Ab (by exact o) ?_|refine Ab (by exact hp) ?_|refine As (by simp only[Aaf,Aa8,Adu,Am]<;>omega) ?_);(try simp only[push_cast,seval,rq,b,c,d,e,f,g,AfJ,An6]))|intro _))
  all_goals (first|(refine Ae ?_;simp[get];done)|(refine Ai ?_;simp[push_cast,get];done)|skip)
theorem xH l:(Ja l).length<=l.length+1:=by
 induction l with
 | nil=>simp[Ja]
 | cons c l a=>rw[Ja];grind
theorem Acb s:(Hj s).length<=s.length+1:=by have:=xH s.reverse;simpa[Hj] using this
theorem Aa0(s:Ad)(C:s.length<=2^30):An π O 98 [.s s,.i .i64 0] [] (.tup [.s (CU s).1,.i .i64 (CU s).2]) []:=by
 have a:=LE O s (by omega);have x:=cJ O;generalize hS:CU s=S;unfold CU at hS;unfold KJ at a;have d:decide ((0:Int)<0)=false:=rfl;have e:decide ((0:Int)>6)=false:=rfl;cases u:DA s with
 | false=>
  rw[u] at a hS;refine Ah (vs:=[.s S.1,.i .i64 S.2]) iX (by simp) (by simp) λn0 b=>?_;clear b;simp only[push_cast,seval,rq,d,e]
  all_goals ((try simp only[bq,Agp,AfT,rb,reduceCtorEq] at hS);subst hS)
  all_goals (try simp only[push_cast,seval,rq,d,e])
  all_goals (repeat' (first|((first|refine Ab (by exact a) ?_|refine As (by simp only[Aaf,Aa8,Adu,Am]<;>omega) ?_);(try simp only[push_cast,seval,rq,d,e]))|intro _))
  all_goals (first|(refine Ae ?_;simp[get];done)|(refine Ai ?_;simp[push_cast,get];done)|skip)
 | true=>
  rw[u] at a hS;obtain⟨D,E⟩:=JH u;have A:=Acb (AI s);have t:=Amj O (AI s) (by omega);have y:=Kr O (Jw s) (AI s) [] (by omega) (by simp);have q1:=Kr O (Jw s) (Hj (AI s)) [] (by omega) (by simp);generalize Jw s=B at *;generalize Hj (AI s)=v at *;generalize AI s=W at *;cases w:Ba s with
  | nil=>
   rw[w] at a hS;have f:decide ((0:Int)>=(([]:List UInt8).length:Int))=true:=rfl;have j:([]:List UInt8)++[]=[]:=rfl;have k:(([]:List UInt8)==[])=true:=rfl;simp only[Agp,k] at hS;refine Ah (vs:=[.s S.1,.i .i64 S.2]) iX (by simp) (by simp) λn0 b=>?_;clear b;simp only[push_cast,seval,rq,d,e,f,j]
   all_goals ((try simp only[bq,Agp,AfT,rb,reduceCtorEq] at hS);subst hS)
   all_goals (try simp only[push_cast,seval,rq,d,e,f,j])
   all_goals (repeat' (first|((first|refine Ab (by exact a) ?_|refine Ab (by exact x) ?_|refine Ab (by exact y) ?_|refine As (by simp only[Aaf,Aa8,Adu,Am]<;>omega) ?_);(try simp only[push_cast,seval,rq,d,e,f,j]))|intro _))
   all_goals (first|(refine Ae ?_;simp[get];done)|(refine Ai ?_;simp[push_cast,get];done)|skip)
  | cons c F=>
   rw[w] at a hS;obtain⟨G,h⟩:∃G,G=c::F:=⟨_,rfl⟩
   rw[<-h] at a hS;have f:decide ((0:Int)>=(G.length:Int))=false:=by rw[Ayh,h];simp only[Aa8];omega
   have k:(G==([]:List UInt8))=false:=by rw[h];rfl
   have l:(0<=G.length)=True:=Amy (Aul _);have m:W++List.take 0 G=W:=by simp
   have o:G[0]?=some c:=by rw[h];rfl
   have r:(W.length+(List.take 0 G).length<=Am)=True:=Amy (by simp;unfold Am;omega);have z:AfS G=decide ((c.toNat:Int)>=53):=by rw[h];rfl
   simp only[Agp,AfT,Agw,k,z] at hS;clear h;have q:IntKind.i64.wrap ((W.length:Int)-0)=(W.length:Int):=by rw[wrap64 (by omega) (by omega)];omega
   have p:IntKind.i64.wrap ((v.length:Int)-0)=(v.length:Int):=by rw[wrap64 (by omega) (by omega)];omega
   refine Ah (vs:=[.s S.1,.i .i64 S.2]) iX (by simp) (by simp) λn0 b=>?_;clear b;simp only[push_cast,seval,rq,d,e,f,l,m,o,r,q,p,Aul,AfJ,An6,List.drop_length]
   all_goals (cases g:(decide ((c.toNat:Int)>=53)))
   all_goals ((try simp only[g,bq,Agp,AfT,rb,reduceCtorEq] at hS);subst hS)
   all_goals (try simp only[push_cast,seval,rq,g,d,e,f,l,m,o,r,q,p,Aul,AfJ,An6,List.drop_length])
   all_goals (repeat' (first|((first|refine Ab (by exact a) ?_|refine Ab (by exact x) ?_|refine Ab (by exact y) ?_|refine Ab (by exact q1) ?_|refine Ab (by exact t) ?_|refine As (by simp only[Aaf,Aa8,Adu,Am]<;>omega) ?_);(try simp only[push_cast,seval,rq,g,d,e,f,l,m,o,r,q,p,Aul,AfJ,An6,List.drop_length]))|intro _))
   all_goals (first|(refine Ae ?_;simp[get];done)|(refine Ai ?_;simp[push_cast,get];done)|skip)
theorem Jg(sep:Ad) n m (f:sep.length<=m):∀(c:List Ad),(∀l∈c,l.length<=n)->(Lib.join c sep).length<=c.length*(n+m)
 | [],_=>by simp[Lib.join]
 | [a],h=>by have:=h a (by simp);simp[Lib.join];omega
 | a::b::r,h=>by
  have g:=h a (by simp);have i:=Jg sep n m f (b::r) λl e=>h l (Ae0 _ e);have d:Lib.join (a::b::r) sep=a++sep++Lib.join (b::r) sep:=by simp[Lib.join]
  rw[d,Aaf,Aaf,Aa8,A0y];omega
theorem Lc a(h:1<=a):∀(n m) (r),r.length<=n->r.length<=m->Bf a n r=Bf a m r:=by
 intro n
 induction n with
 | zero=>
  intro m r b c;have:r=[]:=by simpa using b
  subst this;cases m<;>simp[Bf]
 | succ n d=>
  intro m r b c;cases m with
  | zero=>grind
  | succ m=>rw[Bf,Bf];grind
theorem UC u (f a H:Nat) sv (C:sv=(f:Int))(I:1<=f)(M:f<9223372036854775808) v e l (x:l.length<=64)(w:v.length+l.length<=100)(h:a<e.1)(p:e.1<H)(Q:Exit->St->Prop)
  (G:∀d n,a<d.1->d.1<n->Q (.exit 0) ⟨[(2,.ref (a,2) 0),(5,.i .i64 sv),(7,.arr d),(8,.s []),(39,.b false)],[(d,.arr 9 1 ((v++Bf f l.length l).map V.s)),((a,2),.box u)],n⟩) :
  Iq π O 60 QP Q ⟨[(2,.ref (a,2) 0),(5,.i .i64 sv),(7,.arr e),(8,.s l)],[(e,.arr 9 1 (v.map V.s)),((a,2),.box u)],H⟩:=by
 subst C;generalize hS:v++Bf f l.length l=S at G;refine Ak l.length (Inv:=λm st=>∃r n d g,m=r.length/\g++Bf f r.length r=S/\r.length<=64/\g.length+r.length<=100/\a<d.1/\d.1<n/\st=⟨[(2,.ref (a,2) 0),(5,.i .i64 f),(7,.arr d),(8,.s r)],[(d,.arr 9 1 (g.map V.s)),((a,2),.box u)],n⟩) ⟨_,Aj.refl,l,_,e,v,rfl,hS,x,w,h,p,rfl⟩ ?_;clear hS x w h p;rintro m _ ⟨r,n,d,g,rfl,t,L,J,h,p,rfl⟩;cases r with
 | nil=>simp only[Bf,Adu,AmY] at t;subst t;simp only[push_cast,seval,rq];intro k;exact G d _ h (by omega)
 | cons c r=>
  obtain⟨R,z⟩:∃R,R=c::r:=⟨_,rfl⟩;rw[<-z] at t L J⊢;have N:1<=R.length:=by rw[z];simp
  have A:(R==([]:Ad))=false:=by rw[z];rfl
  clear z;obtain⟨q,K⟩:∃q,R.length=q+1:=⟨R.length-1,by omega⟩
  rw[K,Bf,Amt (by rw[A];simp)] at t;rw[Lc f I q (R.take (R.length-f)).length (R.take (R.length-f)) (by simp;omega) (by simp)] at t;have D:max (0:Int) (IntKind.i64.wrap ((R.length:Int)-(f:Int)))=((R.length-f:Nat):Int):=by rw[wrap64 (by omega) (by omega)];omega
  have E:(R.length-f<=R.length)=True:=Amy (by omega);have F:((g.length:Nat)+1<=AM)=True:=Amy (by unfold AM;omega);have y:∀j:Nat,((a,j)=d)=False:=λj=>Amp λB=>(by have:=Ayb Prod.fst B;(try simp only at this);omega)
  have o:∀j:Nat,(d=(a,j))=False:=λj=>Amp λB=>Axj (y j) B.symm;simp only[push_cast,seval,rq,y,o,A,D,E,F,Aul,AfJ,An6,AaT]
  repeat' (first|(((first|apply Ac|apply Af|apply Ag)<;>intro _h)<;>simp only[push_cast,seval,rq,_h,y,o,A,D,E,F,Aul,AfJ,An6,AaT])|(refine As (by simp only[Aaf,Aa8,Adu,Am]<;>omega) ?_;simp only[push_cast,seval,rq,y,o,A,D,E,F,Aul,AfJ,An6,AaT])|intro _)
  refine⟨_,_,?_,Aj.refl,R.take (R.length-f),_,_,g++[R.drop (R.length-f)],rfl,by rw[<-t];simp,by simp;omega,by simp;omega,?_,?_,by rw[A0r];rfl⟩
  .simp;omega
  .simp only;omega
  .simp only;omega
theorem AbN(J e x I:Ad) a b (d:Ad)(hd:d.length<=64)(X:e.length<=2^22)(hp:-9223372036854775808<=a)(hs:b<9223372036854775808) :
  An π O 138 [.agg [.s J,.s e,.s x,.s I,.i .i64 a,.i .i64 b],.s d] [] (.s (EO a b e d)) []:=by
 generalize hS:EO a b e d=S;unfold EO at hS;cases c:decide (a<1) with
 | true=>
  simp only[c,bq,Agp,AfT,rb,reduceCtorEq] at hS;subst hS;refine Ah (vs:=[.s d]) UP (by simp) (by simp) λn0 m=>?_;clear m;simp only[push_cast,seval,rq,c]
  repeat' (first|(((first|apply Ac|apply Af|apply Ag)<;>intro _h)<;>simp only[push_cast,seval,rq,_h,c])|(refine As (by simp only[Aaf,Aa8,Adu,Am]<;>omega) ?_;simp only[push_cast,seval,rq,c])|intro _)
  all_goals exact Ae (by simp[get])
 | false=>
 cases g:decide ((d.length:Int)<=a) with
 | true=>
  simp only[c,g,bq,Agp,AfT,rb,reduceCtorEq] at hS;subst hS;refine Ah (vs:=[.s d]) UP (by simp) (by simp) λn0 m=>?_;clear m;simp only[push_cast,seval,rq,c,g]
  repeat' (first|(((first|apply Ac|apply Af|apply Ag)<;>intro _h)<;>simp only[push_cast,seval,rq,_h,c,g])|(refine As (by simp only[Aaf,Aa8,Adu,Am]<;>omega) ?_;simp only[push_cast,seval,rq,c,g])|intro _)
  all_goals exact Ae (by simp[get])
 | false=>
  simp only[c,g,bq,Agp,AfT,rb,reduceCtorEq] at hS;have k1:¬a<1:=AuU c;have k2:¬(d.length:Int)<=a:=AuU g;obtain⟨p,rfl⟩:∃p:Nat,a=p:=⟨a.toNat,by omega⟩
  have B:IntKind.i64.wrap ((d.length:Int)-(p:Int))=((d.length-p:Nat):Int):=by rw[wrap64 (by omega) (by omega)];omega
  have C:(d.length-p<=d.length)=True:=Amy (by omega);obtain⟨f,o⟩:∃f:Nat,f=(if b<1 then(p:Int) else b).toNat:=⟨_,rfl⟩
  rw[<-o] at hS;have t:1<=f:=by rw[o];split<;>omega
  have F:f<9223372036854775808:=by rw[o];split<;>omega
  have Y:(d.take (d.length-p)).length=d.length-p:=by simp
  have N:([d.drop (d.length-p)]++Bf f (d.take (d.length-p)).length (d.take (d.length-p)))≠[]:=by simp
  have M:∀(n:Nat) (r:Ad),(Bf f n r).length<=n/\∀l∈Bf f n r,l.length<=r.length:=by
   intro n
   induction n with
   | zero=>intro r;simp[Bf]
   | succ n ih=>
    intro r;rw[Bf];split
    .simp
    .obtain⟨V,i2⟩:=ih (r.take (r.length-f));refine⟨by simpa using V,λl h=>?_⟩;rcases Auy.1 h with rfl|h
     .simp
     .have:=i2 l h;simp at this;omega
  obtain⟨c1,W⟩:=M (d.take (d.length-p)).length (d.take (d.length-p));have w:S=Lib.join ([d.drop (d.length-p)]++Bf f (d.take (d.length-p)).length (d.take (d.length-p))).reverse e:=by rw[<-hS,Lc f t (d.take (d.length-p)).length d.length _ (by simp) (by simp)];rfl
  clear hS;have K:([d.drop (d.length-p)]++Bf f (d.take (d.length-p)).length (d.take (d.length-p))).length<=65:=by simp only[Aaf,Aa8,Adu];omega
  have L:∀l∈[d.drop (d.length-p)]++Bf f (d.take (d.length-p)).length (d.take (d.length-p)),l.length<=64:=by
   intro l h;rcases Am5.1 h with h|h
   .simp at h;rw[h];simp;omega
   .have:=W l h;simp at this;omega
  refine Ah (vs:=[.s S]) UP (by simp) (by simp) λn0 m=>?_;clear m;simp only[push_cast,seval,rq,c,g,B,C,Aul,AfJ,An6];have H:(if decide (b<1) then(p:Int) else b)=(f:Int):=by
   cases v:decide (b<1)
   .have:=AuU v;simp only[AfT,Agw];rw[o,Amt this];omega
   .have:=AuL v;simp only[Agp];rw[o,Aiv this];omega
  cases v:decide (b<1)
  all_goals simp only[v,Agp,AfT,Agw] at H
  all_goals simp only[push_cast,seval,rq,v,c,g,B,C,Aul,AfJ,An6]
  all_goals repeat' (first|(((first|apply Ac|apply Af|apply Ag)<;>intro _h)<;>simp only[push_cast,seval,rq,_h,c,g,B,C,Aul,AfJ,An6,v])|(refine As (by simp only[Aaf,Aa8,Adu,Am]<;>omega) ?_;simp only[push_cast,seval,rq,c,g,B,C,Aul,AfJ,An6,v])|intro _)
  all_goals refine UC O _ f _ _ _ H t F [d.drop (d.length-p)] _ _ (by simp;omega) (by simp;omega) (by simp only;omega) (by simp only;omega) _ (λq n V i2=>?_)
  all_goals generalize[d.drop (d.length-p)]++Bf f (d.take (d.length-p)).length (d.take (d.length-p))=G at *
  all_goals have E:=Jg e 64 (2^22) X G.reverse (λl h=>L l (by simpa using h))
  all_goals rw[<-w] at E
  all_goals have U:=xQ O G.reverse e (by rw[<-w];simp only[A0p] at E;have:G.length*(64+2^22)<=65*(64+2^22):=Ay5 _ K;omega)
  all_goals rw[<-w] at U
  all_goals have T:=aN O G q N (by omega)
  all_goals have A:∀j,((n0,j)=q)=False:=λj=>Amp λD=>by have:=Ayb Prod.fst D;simp only at this;omega
  all_goals have u:∀j,(q=(n0,j))=False:=λj=>Amp λD=>Axj (A j) D.symm
  all_goals simp only[push_cast,seval,rq,A,u]
  all_goals refine Nz T (by simp;exact λD=>Axj (A 2) D) ?_
  all_goals simp only[push_cast,seval,rq,A,u]
  all_goals intro k
  all_goals refine GZ (Aj.frzAt (s:=7) (id:=q) rfl (by simp only[lk,A,AfT]) (λy Z=>by obtain⟨z,_,rfl⟩:=Awt.1 Z;rfl) (AfJ _)) ?_
  all_goals simp only[push_cast,seval,rq,A,u]
  all_goals repeat' (first|(((first|apply Ac|apply Af|apply Ag)<;>intro _h)<;>simp only[push_cast,seval,rq,_h,c,g,B,C,Aul,AfJ,An6])|((first|refine Ab (by exact U) ?_|refine As (by simp only[Aaf,Aa8,Adu,Am]<;>omega) ?_);simp only[push_cast,seval,rq,c,g,B,C,Aul,AfJ,An6])|intro _)
  all_goals exact Ae (by simp[get])
structure Lp (L:Ce):Prop where
 dec:L.dec.length<=2^16
 grp:L.grp.length<=2^16
 minus:L.minus.length<=2^16
 perc:L.perc.length<=2^16
 prim:-9223372036854775808<=L.prim
 sec:L.sec<9223372036854775808
theorem OO L (c:Lp L) d (e:d.length<=64):(EO L.prim L.sec L.grp d).length<=2^23:=by
 unfold EO;split
 .omega
 .have a:∀(b n:Nat) (r:Ad),(Bf b n r).length<=n/\∀l∈Bf b n r,l.length<=r.length:=by
   intro b n
   induction n with
   | zero=>intro r;simp[Bf]
   | succ n g=>intro r;rw[Bf];grind
  have ⟨c1,c2⟩:=a (if L.sec<1 then L.prim else L.sec).toNat d.length (d.take (d.length-L.prim.toNat));refine AvD (Jg L.grp 64 (2^16) c.grp _ λl f=>?_) ?_
  .grind
  grind
theorem Ew L (a:Lp L) n (g:n.length<=64):(Ek L n).length<=2^23+2^18:=by have b:=K1 n;have c:=Sl n;have d:=OO L a (AI n) (by omega);have e:=a.dec;have f:=a.minus;unfold Ek;grind
theorem Nf L (a:Lp L)(n:Ad)(o:n.length<=64):An π O 100 [.agg [.s L.dec,.s L.grp,.s L.minus,.s L.perc,.i .i64 L.prim,.i .i64 L.sec],.s n] [] (.s (Ek L n)) []:=by
 have h:=K1 n;have j:=Sl n;have k:=OO L a (AI n) (by omega);have l:=a.dec;have m:=a.minus;have b:=EI O n [45];rw[CA,CT] at b;have d:=Vp O n (by omega);have g:=AbN O L.dec L.grp L.minus L.perc L.prim L.sec (AI n) (by omega) (by have:=a.grp;omega) a.prim a.sec;generalize hS:Ek L n=S;unfold Ek at hS;generalize EO L.prim L.sec L.grp (AI n)=G at *;generalize AI n=W at *;generalize Ba n=F at *;generalize Fi n=R at *;generalize L.dec=D at *;generalize L.minus=M at *;refine Ah (vs:=[.s S]) Ah0 (by simp) (by simp) λn0 c=>?_;clear c;simp only[push_cast,seval,rq];cases e:Jw n<;>cases f:(NW n).isEmpty
 all_goals simp only[e,f,bq,Agp,AfT,rb,reduceCtorEq,Amo,Ain] at hS b d
 all_goals subst hS
 all_goals repeat' (first|(((first|apply Ac|apply Af|apply Ag)<;>intro _h)<;>simp only[push_cast,seval,rq,_h])|((first|refine Ab (by exact b) ?_|refine Ab (by exact d) ?_|refine Ab (by exact g) ?_|refine As (by simp only[Aaf,Aa8,Adu,Am]<;>omega) ?_);simp only[push_cast,seval,rq])|intro _)
 all_goals exact Ae (by simp[get])
theorem Ma a w f:(E0 a w f).1.length<=64:=by
 unfold E0;split
 .simp
 .rename_i h;simp only[AyS,Avx,not_or] at h;unfold F6;split<;>split<;>simp only[Aa8,Aaf]<;>omega
theorem Ko s:(CU s).1.length<=64:=by
 unfold CU;split
 .exact Ma _ _ _
 .simp
theorem Kw s:(CZ s).1.length<=64:=by
 unfold CZ;split
 .exact Ma _ _ _
 .simp
theorem P0{n}(h:DA n=true):n.length<=64:=by
 have ⟨_,_,h1,h2⟩:=GN h;have a:n.length<=(Fi n).length+1:=by unfold Fi;grind
 rw[Gh,Aaf] at a;have b:(NW n).length<=(Ba n).length+1:=by unfold Ba;grind
 omega
theorem MQ L (a:Lp L)(n st:Ad)(v:n.length<=2^30):An π O 70 [L.enc,.s n,.s st] [] (.tup [.s (Cw L n st).1,.i .i64 (Cw L n st).2]) []:=by
 have b:=HD O n (by omega);have l:=Aa0 O n (by omega);have m:=AcT O n (by omega);have l1:=Ew L a (CU n).1 (Ko n);have x:=Ew L a (CZ n).1 (Kw n);have q:=Nf O L a (CU n).1 (Ko n);have t2:=Nf O L a (CZ n).1 (Kw n);have k:=a.perc;generalize hS:Cw L n st=S;unfold Cw Mw MZ at hS;rw[Ce.enc_eq];generalize Ek L (CU n).1=t at *;generalize Ek L (CZ n).1=u at *;generalize(CU n).1=y at *;generalize(CU n).2=o at *;generalize(CZ n).1=z at *;generalize(CZ n).2=p at *;refine Ah (vs:=[.s S.1,.i .i64 S.2]) AmB (by simp) (by simp) λn0 j=>?_;clear j;simp only[push_cast,seval,rq];cases hB:DA n with
 | false=>
  rw[hB] at b hS;simp only[bq,Agp,AfT,rb,reduceCtorEq] at hS;subst hS
  repeat' (first|(((first|apply Ac|apply Af|apply Ag)<;>intro _h)<;>simp only[push_cast,seval,rq,_h])|((first|refine Ab (by exact b) ?_|refine As (by simp only[Aaf,Aa8,Adu,Am]<;>omega) ?_);simp only[push_cast,seval,rq])|intro _)
  refine Ai ?_;simp[push_cast,get]
 | true=>
  have t0:=Nf O L a n (P0 hB);have w:=Ew L a n (P0 hB);generalize Ek L n=r at *;rw[hB] at b hS;cases c:(st==([]:Ad))<;>cases d:(st==([105,110,116,101,103,101,114]:Ad))<;>cases e:(st==([112,101,114,99,101,110,116]:Ad))<;>cases f:(L.dec==([]:Ad))<;>cases g:(o==0)<;>cases h:(p==0)
  all_goals (try simp only[c,d,e,f,g,h,bq,Agp,AfT,rb,reduceCtorEq,Amo,Ain,AmS,Am0,AsM,Atc,bne] at hS;subst hS)
  all_goals repeat' (first|(((first|apply Ac|apply Af|apply Ag)<;>intro _h)<;>simp only[push_cast,seval,rq,_h,c,d,e,f,g,h,bne])|((first|refine Ab (by exact b) ?_|refine Ab (by exact l) ?_|refine Ab (by exact m) ?_|refine Ab (by exact t0) ?_|refine Ab (by exact q) ?_|refine Ab (by exact t2) ?_|refine As (by simp only[Aaf,Aa8,Adu,Am]<;>omega) ?_);simp only[push_cast,seval,rq,c,d,e,f,g,h,bne])|intro _)
  all_goals (refine Ai ?_;simp[push_cast,get])
end Go.Ir

namespace Go.Ir
open Go.Proofs
variable{P:Program}{O:World}{nt n:Nat}{Q:Exit→St→Prop}{env:Bm}{σ:Au}
def t7:IC:=oR [o1 3 (.msl false 9 1 [.c (.s [121]),.c (.s [77]),.c (.s [77,77]),.c (.s [77,77,77]),.c (.s [69]),.c (.s [100]),.c (.s [100,100])]),m1 4 0,q2 5 175 3 4,m1 2 5] [2]
def mE:IC:=oS [mC 2 (.b false)] [0] t7
def Ap8:List R:=[.t 2]
def Ax7:=Ao t7.eq_1<|AJ mE.eq_1
theorem AlK:Ar π 243 6 mE Ap8=true:=by kernel_rfl
def Xk:IC:=sQ (oS [m1 29 9,q1 30 243 29,nT 31 30] [4,8,9,11,12,13,31] (cD 31 (oR [mC 2 .nil,mZ 3 3] [2,3]) .skip)) (oP [m1 32 4,m1 33 9,o1 34 (.msl false 9 1 [.t 33]),o1 35 (.app (.t 32) (.t 34) 9 1),m1 36 8,m1 4 35,m1 5 36] [4,5,11,12,13])
def VA:IC:=oS [m1 20 5,m1 21 5,nS 22 21,m1 23 8,nS 24 23,bT 25 .sub 22 24,o1 26 (.slS (.t 20) none (some (.t 25))),m1 9 26] [4,5,8,9,11,12,13] (sQ (oS [m1 27 9,bC 28 .eql 27 (.s [])] [4,5,8,9,11,12,13,28] (cD 28 (.exit 1) .skip)) Xk)
def XG:IC:=sQ (.block 1 (oS [iA 15 11 13 9 1,l1 16 15,m1 7 16] [4,5,7,11,12,13] (oS [m1 17 5,m1 18 7,q2 19 169 17 18,m1 8 19] [4,5,8,11,12,13] VA))) (oP [bZ 37 .add 13 1,m1 13 37] [4,5,11,12,13])
def Xb:IC:=sQ (oS [m1 38 5,bC 39 .neq 38 (.s []),m1 40 39,Bn 41 40 4,gF 42 40 (.lenL (.t 41)),Dv 43 40 .eql 42 0,pO 44 40 43] [4,44] (cD 44 (oR [mC 2 .nil,mZ 3 3] [2,3]) .skip)) (sQ (.wk (oP [m1 45 4,m1 2 45,mZ 3 0] [2,3])) .ret)
def iT:IC:=sQ (oS [o1 11 (.msl false 9 1 [.c (.s [121]),.c (.s [77]),.c (.s [69]),.c (.s [100])]),nL 12 11,mZ 13 0] [4,5,11,12,13] (.block 0 (.loop (oS [bT 14 .lss 13 12] [4,5,11,12,13,14] (sQ (cD 14 .skip (.exit 0)) XG))))) Xb
def kY:IC:=oS [mC 2 .nil,mZ 3 0] [0] (oS [mC 4 .nil] [0,4] (oS [m1 10 0,m1 5 10] [4,5] iT))
def ArC:List R:=[.t 2,.t 3]
def Axu:=Ao Xk.eq_1<|Ao VA.eq_1<|Ao XG.eq_1<|Ao Xb.eq_1<|Ao iT.eq_1<|AJ kY.eq_1
theorem AhG:Ar π 221 46 kY ArC=true:=by kernel_rfl
def Xp:IC:=sQ (oS [m1 20 6,q1 21 243 20,nT 22 21] [4,5,6,22] (cD 22 (oR [mC 2 .nil,mC 3 (.b false)] [2,3]) .skip)) (oS [m1 23 4,m1 24 6,o1 25 (.msl false 9 1 [.t 24]),o1 26 (.app (.t 23) (.t 25) 9 1),m1 27 5,m1 4 26,m1 0 27] [0,4] (.exit 1))
def X9:IC:=sQ (oS [m1 11 0,m1 12 0,nS 13 12,m1 14 5,nS 15 14,bT 16 .sub 13 15,o1 17 (.slS (.t 11) none (some (.t 16))),m1 6 17] [0,4,5,6] (oS [m1 18 6,bC 19 .neq 18 (.s [])] [0,4,5,6,19] (cD 19 Xp .skip))) (oP [m1 28 0,o1 29 (.slS (.t 28) (some (ci 1)) none),m1 0 29] [0,4])
def WH:IC:=.block 1 (oS [m1 9 0,o1 10 (.call 169 [.t 9,.c (.s [65,66,67,68,69,70,71,72,73,74,75,76,77,78,79,80,81,82,83,84,85,86,87,88,89,90,97,98,99,100,101,102,103,104,105,106,107,108,109,110,111,112,113,114,115,116,117,118,119,120,121,122])]),m1 5 10] [0,4,5] X9)
def rM:IC:=oS [mC 4 .nil] [0,4] (sQ (.block 0 (.loop (sQ (oS [m1 7 0,bC 8 .neq 7 (.s [])] [0,4,8] (cD 8 .skip (.exit 0))) WH))) (sQ (.wk (oP [m1 30 4,m1 2 30,mC 3 (.b true)] [2,3])) .ret))
def gS:IC:=oS [mC 2 .nil,mC 3 (.b false)] [0] rM
def AmK:List R:=[.t 2,.t 3]
def Awx:=Ao Xp.eq_1<|Ao X9.eq_1<|Ao WH.eq_1<|Ao rM.eq_1<|AJ gS.eq_1
theorem Akk:Ar π 222 31 gS AmK=true:=by kernel_rfl
def Xq:IC:=oP [m1 14 4,m1 15 6,o1 16 (.slS (.t 15) none (some (ci 1))),o1 17 (.msl false 9 1 [.t 16]),o1 18 (.app (.t 14) (.t 17) 9 1),m1 4 18] [4,8,9,10]
def kJ:IC:=oS [bT 11 .lss 10 9] [4,8,9,10,11] (sQ (cD 11 .skip (.exit 0)) (sQ (.block 1 (oS [iA 12 8 10 9 1,l1 13 12,m1 6 13] [4,6,8,9,10] Xq)) (oP [bZ 19 .add 10 1,m1 10 19] [4,8,9,10])))
def XJ:IC:=sQ (.opx [m1 22 4,o1 23 (.calln 107 [.t 22])] [4,23] 24 245 [.t 23] [m1 7 24] [4,7]) (sQ (.wk (oP [m1 25 7,o1 26 (.call 173 [.t 25,.c (.s [])]),m1 27 7,nL 28 27,m1 29 4,nL 30 29,bT 31 .eql 28 30,m1 2 26,m1 3 31] [2,3])) .ret)
def iG:IC:=oS [mC 2 (.s []),mC 3 (.b false)] [0] (oS [mC 4 .nil] [0,4] (sQ (oS [m1 8 0,nL 9 8,mZ 10 0] [4,8,9,10] (.block 0 (.loop kJ))) (oS [m1 20 4,o1 21 (.calls 244 [.t 20])] [4] XJ)))
def Ap4:List R:=[.t 2,.t 3]
def AwL:=Ao Xq.eq_1<|Ao kJ.eq_1<|Ao XJ.eq_1<|AJ iG.eq_1
theorem Akm:Ar π 223 32 iG Ap4=true:=by kernel_rfl
def XY:IC:=oS [m1 40 7,q1 41 223 40,m1 39 41,xT 42 39 0,xT 43 39 1,m1 11 42,m1 12 43] [9,11,12] (oR [m1 44 12,m1 45 44,B0 46 45 9,B0 47 45 11,gT 48 45 (.bin .eql (.t 46) (.t 47)),pA 49 45 48,m1 4 49] [4])
def fD:IC:=sQ (oS [m1 23 6,bZ 24 .neq 23 0,m1 25 24,Bn 26 25 8,gF 27 25 (.not (.t 26)),pO 28 25 27,m1 29 28,Bn 30 29 7,gF 31 29 (.lenL (.t 30)),Dv 32 29 .eql 31 0,pO 33 29 32] [5,7,33] (cD 33 (oR [mC 4 (.b false)] [4]) .skip)) (oS [m1 35 5,q1 36 223 35,m1 34 36,xT 37 34 0,xT 38 34 1,m1 9 37,m1 10 38] [7,9] XY)
def nX:IC:=oS [m1 14 0,q1 15 221 14,m1 13 15,xT 16 13 0,xT 17 13 1,m1 5 16,m1 6 17] [1,5,6] (oS [m1 19 1,q1 20 222 19,m1 18 20,xT 21 18 0,xT 22 18 1,m1 7 21,m1 8 22] [5,6,7,8] fD)
def l9:IC:=oS [mC 4 (.b false)] [0,1] nX
def ApM:List R:=[.t 4]
def Axv:=Ao XY.eq_1<|Ao fD.eq_1<|Ao nX.eq_1<|AJ l9.eq_1
theorem PS:Ar π 190 50 l9 ApM=true:=by kernel_rfl
def VM:IC:=sQ (oS [m1 21 0,m1 22 6,q2 23 182 21 22,bZ 24 .neq 23 1] [0,6,13,14,24] (cD 24 (oR [mC 4 (.b false)] [4]) .skip)) (oP [m1 25 0,m1 26 6,o1 27 (.call 148 [.t 25,.t 26,.c (.s [0]),ci 1]),m1 0 27] [0,13,14])
def Ye:IC:=sQ (.block 1 (oS [m1 16 14,m1 5 16] [0,5,13,14] (oS [m1 17 5,q1 18 156 17,o1 19 (.bin .add (.c (.s [123])) (.t 18)),bC 20 .add 19 (.s [125]),m1 6 20] [0,6,13,14] VM))) (oP [bZ 28 .add 14 1,m1 14 28] [0,13,14])
def nE:IC:=sQ (oS [m1 13 1,mZ 14 0] [0,13,14] (.block 0 (.loop (oS [bT 15 .lss 14 13] [0,13,14,15] (sQ (cD 15 .skip (.exit 0)) Ye))))) (oR [m1 29 0,o1 30 (.call 183 [.t 29,.c (.s [123,125])]),nT 31 30,m1 4 31] [4])
def sW:IC:=oS [mC 4 (.b false)] [0,1] (sQ (oS [m1 7 1,bZ 8 .lss 7 1,m1 9 8,Bn 10 9 1,Dv 11 9 .gtr 10 9,pO 12 9 11] [0,1,12] (cD 12 (oR [mC 4 (.b false)] [4]) .skip)) nE)
def ArL:List R:=[.t 4]
def Axt:=Ao VM.eq_1<|Ao Ye.eq_1<|Ao nE.eq_1<|AJ sW.eq_1
theorem Aig:Ar π 147 32 sW ArL=true:=by kernel_rfl
def oO:IC:=oR [m1 3 0,bZ 4 .rem 3 4,bZ 5 .eql 4 0,m1 6 5,B0 7 6 0,Dn 8 6 .rem 7 100,Dn 9 6 .neq 8 0,pA 10 6 9,m1 11 10,Bn 12 11 0,Dv 13 11 .rem 12 400,Dv 14 11 .eql 13 0,pO 15 11 14,m1 2 15] [2]
def lH:IC:=oS [mC 2 (.b false)] [0] oO
def ApW:List R:=[.t 2]
def Awr:=Ao oO.eq_1<|AJ lH.eq_1
theorem Akf:Ar π 220 16 lH ApW=true:=by kernel_rfl
def wO:IC:=oR [o1 11 (.build [.i .i64 0,.i .i64 0,.i .i64 0,.i .i64 0,.i .i64 0,.i .i64 0,.i .i64 0,.i .i64 0,.i .i64 0,.i .i64 0,.i .i64 0,.i .i64 0] [(0,1,ci 31),(1,1,ci 28),(2,1,ci 31),(3,1,ci 30),(4,1,ci 31),(5,1,ci 30),(6,1,ci 31),(7,1,ci 31),(8,1,ci 30),(9,1,ci 31),(10,1,ci 30),(11,1,ci 31)]),m1 12 1,bZ 13 .sub 12 1,o1 14 (.pu (.aget 12 1 false) [.t 11,.t 13]),m1 4 14] [4]
def gU:IC:=oS [mZ 4 0] [0,1] (sQ (oS [m1 5 1,bZ 6 .eql 5 2,m1 7 6,B0 8 7 0,gT 9 7 (.call 220 [.t 8]),pA 10 7 9] [1,10] (cD 10 (oR [mZ 4 29] [4]) .skip)) wO)
def AoU:List R:=[.t 4]
def Axi:=Ao wO.eq_1<|AJ gU.eq_1
theorem Ajy:Ar π 187 15 gU AoU=true:=by kernel_rfl
def xX:IC:=oS [mZ 2 0] [0] (sQ (oS [m1 3 0,q1 4 220 3] [4] (cD 4 (oR [mZ 2 366] [2]) .skip)) (oR [mZ 2 365] [2]))
def AqX:List R:=[.t 2]
def Awm:=AJ xX.eq_1
theorem AiI:Ar π 186 5 xX AqX=true:=by kernel_rfl
def WK:IC:=sQ (oS [m1 14 4,m1 15 2,q1 16 186 15,bT 17 .geq 14 16] [2,3,4,17] (cD 17 .skip (.exit 0))) (.block 1 (oS [m1 18 4,m1 19 2,q1 20 186 19,bT 21 .sub 18 20,m1 4 21] [2,3,4] (oP [m1 22 2,bZ 23 .add 22 1,m1 2 23] [2,3,4])))
def XE:IC:=sQ (oS [m1 24 4,m1 25 2,m1 26 3,q2 27 187 25 26,bT 28 .geq 24 27] [2,3,4,28] (cD 28 .skip (.exit 2))) (.block 3 (oS [m1 29 4,m1 30 2,m1 31 3,q2 32 187 30 31,bT 33 .sub 29 32,m1 4 33] [2,3,4] (oP [m1 34 3,bZ 35 .add 34 1,m1 3 35] [2,3,4])))
def gG:IC:=oS [m1 12 0,bZ 13 .sub 12 (-25567),mZ 2 1900,mZ 3 1,m1 4 13] [2,3,4] (sQ (.block 0 (.loop WK)) (sQ (.block 2 (.loop XE)) (oR [m1 36 2,m1 37 3,m1 38 4,bZ 39 .add 38 1,m1 2 36,m1 3 37,m1 4 39,mZ 5 0] [2,3,4,5])))
def e9:IC:=sQ (oS [m1 6 0,bZ 7 .lss 6 (-25567),m1 8 7,Bn 9 8 0,Dv 10 8 .gtr 9 84005,pO 11 8 10] [0,11] (cD 11 (oR [mZ 2 0,mZ 3 0,mZ 4 0,mZ 5 2] [2,3,4,5]) .skip)) gG
def fJ:IC:=oS [mZ 2 0,mZ 3 0,mZ 4 0,mZ 5 0] [0] e9
def Ao6:List R:=[.t 2,.t 3,.t 4,.t 5]
def Axr:=Ao WK.eq_1<|Ao XE.eq_1<|Ao gG.eq_1<|Ao e9.eq_1<|AJ fJ.eq_1
theorem eU:Ar π 149 40 fJ Ao6=true:=by kernel_rfl
def fZ:IC:=sQ (oS [m1 4 0,bZ 5 .lss 4 (-25567),m1 6 5,Bn 7 6 0,Dv 8 6 .gtr 7 84005,pO 9 6 8] [0,9] (cD 9 (oR [mZ 2 0,mZ 3 2] [2,3]) .skip)) (oR [m1 10 0,bZ 11 .sub 10 (-25567),bZ 12 .rem 11 7,m1 2 12,mZ 3 0] [2,3])
def iL:IC:=oS [mZ 2 0,mZ 3 0] [0] fZ
def ApB:List R:=[.t 2,.t 3]
def Awl:=Ao fZ.eq_1<|AJ iL.eq_1
theorem Ais:Ar π 152 13 iL ApB=true:=by kernel_rfl
def uI:IC:=sQ (oS [m1 3 0,bZ 4 .lss 3 10] [0,4] (cD 4 (oR [m1 5 0,q1 6 156 5,o1 7 (.bin .add (.c (.s [48])) (.t 6)),m1 2 7] [2]) .skip)) (oR [m1 8 0,q1 9 156 8,m1 2 9] [2])
def fI:IC:=oS [mC 2 (.s [])] [0] uI
def Ash:List R:=[.t 2]
def AwO:=Ao uI.eq_1<|AJ fI.eq_1
theorem Al1:Ar π 157 10 fI Ash=true:=by kernel_rfl
def XQ:IC:=oR [m1 16 3,q1 17 156 16,bC 18 .add 17 (.s [45]),m1 19 4,q1 20 157 19,bT 21 .add 18 20,bC 22 .add 21 (.s [45]),m1 23 5,q1 24 157 23,bT 25 .add 22 24,m1 2 25] [2]
def uF:IC:=oS [m1 8 0,q1 9 149 8,m1 7 9,xT 10 7 0,xT 11 7 1,xT 12 7 2,xT 13 7 3,m1 3 10,m1 4 11,m1 5 12,m1 6 13] [3,4,5,6] (sQ (oS [m1 14 6,bZ 15 .neq 14 0] [3,4,5,15] (cD 15 (oR [mC 2 (.s [])] [2]) .skip)) XQ)
def rL:IC:=oS [mC 2 (.s [])] [0] uF
def AqC:List R:=[.t 2]
def AwA:=Ao XQ.eq_1<|Ao uF.eq_1<|AJ rL.eq_1
theorem iP:Ar π 113 26 rL AqC=true:=by kernel_rfl
def XB:IC:=sQ (.block 1 (oS [iA 21 17 19 9 1,l1 22 21,m1 8 22] [6,8,17,18,19] (oP [m1 23 6,m1 24 8,o1 25 (.slS (.t 24) none (some (ci 1))),m1 26 8,nS 27 26,o0 (.wrm (.mput .str) (.t 23) [.t 25,.t 27])] [6,17,18,19]))) (oP [bZ 28 .add 19 1,m1 19 28] [6,17,18,19])
def Wk:IC:=sQ (oS [m1 17 4,nL 18 17,mZ 19 0] [6,17,18,19] (.block 0 (.loop (oS [bT 20 .lss 19 18] [6,17,18,19,20] (sQ (cD 20 .skip (.exit 0)) XB))))) (oR [m1 29 6,m1 2 29,mC 3 (.b true)] [2,3])
def qN:IC:=sQ (oS [m1 14 5,bZ 15 .neq 14 0] [4,15] (cD 15 (oR [mC 2 .nm,mC 3 (.b false)] [2,3]) .skip)) (oS [o1 16 (.mkm .mkmap []),m1 6 16] [4,6] Wk)
def fY:IC:=oS [mC 2 .nm,mC 3 (.b false)] [0] (oS [m1 10 0,q1 11 221 10,m1 9 11,xT 12 9 0,xT 13 9 1,m1 4 12,m1 5 13] [4,5] qN)
def Asu:List R:=[.t 2,.t 3]
def Axb:=Ao XB.eq_1<|Ao Wk.eq_1<|Ao qN.eq_1<|AJ fY.eq_1
theorem pG:Ar π 188 30 fY Asu=true:=by kernel_rfl
def Yk:IC:=oP [m1 26 6,m1 27 8,m1 28 9,bT 29 .sub 27 28,m1 30 9,m1 31 8,bT 32 .sub 30 31,o1 33 (.mx false (.t 29) [.t 32]),bT 34 .add 26 33,m1 6 34] [0,1,6,12]
def VY:IC:=oS [m1 19 1,m1 20 7,o1 21 (.rdm (.mget .str (.i .i64 0) true) (.t 19) [.t 20]),m1 18 21,xT 22 18 0,xT 23 18 1,m1 9 22,m1 10 23] [0,1,6,8,9,10,12] (sQ (oS [m1 24 10,nT 25 24] [0,1,6,8,9,12,25] (cD 25 (oR [mZ 4 0,mC 5 (.b false)] [4,5]) .skip)) Yk)
def eK:IC:=sQ (.mnext 13 14 (.t 12) [0,1,6,12,14]) (sQ (cD 14 .skip (.exit 0)) (.block 1 (oS [o1 15 (.mentry (.t 12)),xT 16 15 0,xT 17 15 1,m1 7 16,m1 8 17] [0,1,6,7,8,12] VY)))
def gP:IC:=sQ (oS [m1 11 0,o1 12 (.mrange (.t 11))] [0,1,6,12] (.block 0 (.loop eK))) (oR [m1 35 6,m1 36 0,o1 37 (.rdm .mlen (.t 36) []),m1 38 1,o1 39 (.rdm .mlen (.t 38) []),bT 40 .eql 37 39,m1 4 35,m1 5 40] [4,5])
def oV:IC:=oS [mZ 4 0,mC 5 (.b false)] [0,1] (oS [mZ 6 0] [0,1,6] gP)
def AqS:List R:=[.t 4,.t 5]
def Ax3:=Ao Yk.eq_1<|Ao VY.eq_1<|Ao eK.eq_1<|Ao gP.eq_1<|AJ oV.eq_1
theorem Aj7:Ar π 189 41 oV AqS=true:=by kernel_rfl
def WC:IC:=oS [m1 44 15,m1 45 44,B0 46 45 8,Dn 47 45 .lss 46 0,B0 48 45 47,Bn 49 48 14,Bn 50 48 9,gF 51 48 (.bin .lss (.t 49) (.t 50)),gT 52 45 (.pick (.t 48) (.c (.b true)) (.t 51)),pA 53 45 52] [6,8,9,10,14,23,24,25,53] (cD 53 (oP [m1 54 10,m1 55 14,m1 8 54,m1 9 55] [6,8,9,23,24,25]) .skip)
def Ys:IC:=sQ (oS [m1 36 13,nT 37 36] [6,8,9,10,12,23,24,25,37] (cD 37 (.exit 1) .skip)) (oS [m1 39 6,m1 40 12,o1 41 (.callr 189 [.t 39,.t 40]),m1 38 41,xT 42 38 0,xT 43 38 1,m1 14 42,m1 15 43] [6,8,9,10,14,15,23,24,25] WC)
def Yr:IC:=sQ (.opx [fA 31 11 0,l1 32 31] [6,8,9,10,23,24,25,32] 33 188 [.t 32] [m1 30 33,xT 34 30 0,xT 35 30 1,m1 12 34,m1 13 35] [6,8,9,10,12,13,23,24,25]) Ys
def Yh:IC:=sQ (.block 1 (oS [m1 27 25,iA 28 23 25 129 2,lA 29 28 2,o1 11 (.alloc (.agg [.s [],.s []])),m1 10 27,sT 11 29 2] [6,8,9,10,11,23,24,25] Yr)) (oP [bZ 56 .add 25 1,m1 25 56] [6,8,9,23,24,25])
def Wl:IC:=sQ (oS [m1 23 0,nL 24 23,mZ 25 0] [6,8,9,23,24,25] (.block 0 (.loop (oS [bT 26 .lss 25 24] [6,8,9,23,24,25,26] (sQ (cD 26 .skip (.exit 0)) Yh))))) (sQ (oS [m1 57 8,bZ 58 .lss 57 0] [8,58] (cD 58 (oR [mZ 4 0,mZ 5 8] [4,5]) .skip)) (oR [m1 59 8,m1 4 59,mZ 5 0] [4,5]))
def gE:IC:=sQ (.opx [m1 17 1] [0,17] 18 188 [.t 17] [m1 16 18,xT 19 16 0,xT 20 16 1,m1 6 19,m1 7 20] [0,6,7]) (sQ (oS [m1 21 7,nT 22 21] [0,6,22] (cD 22 (oR [mZ 4 0,mZ 5 3] [4,5]) .skip)) (oS [mZ 8 (-1),mZ 9 0] [0,6,8,9] Wl))
def iU:IC:=oS [mZ 4 0,mZ 5 0] [0,1] gE
def Aqe:List R:=[.t 4,.t 5]
def Axq:=Ao WC.eq_1<|Ao Ys.eq_1<|Ao Yr.eq_1<|Ao Yh.eq_1<|Ao Wl.eq_1<|Ao gE.eq_1<|AJ iU.eq_1
theorem gH:Ar π 150 60 iU Aqe=true:=by kernel_rfl
def qL:IC:=oR [m1 3 0,bC 4 .geq 3 (.i .u8 65),m1 5 4,B0 6 5 0,gT 7 5 (.bin .leq (.t 6) (.c (.i .u8 90))),pA 8 5 7,m1 9 8,Bn 10 9 0,gF 11 9 (.bin .geq (.t 10) (.c (.i .u8 97))),Bn 12 9 11,B0 13 12 0,gT 14 12 (.bin .leq (.t 13) (.c (.i .u8 122))),gF 15 9 (.pick (.t 12) (.t 14) (.c (.b false))),pO 16 9 15,m1 2 16] [2]
def lQ:IC:=oS [mC 2 (.b false)] [0] qL
def Ass:List R:=[.t 2]
def Ax0:=Ao qL.eq_1<|AJ lQ.eq_1
theorem Ajj:Ar π 191 17 lQ Ass=true:=by kernel_rfl
def Xz:IC:=oS [m1 35 4,m1 36 6,bT 37 .add 35 36,m1 38 8,bT 39 .add 37 38,m1 40 10,bT 41 .add 39 40,m1 42 0,q2 43 190 41 42] [0,4,6,8,11,12,13,17,18,19,23,24,25,29,30,31,43] (cD 43 (oR [mC 2 (.b true)] [2]) .skip)
def X4:IC:=sQ (.block 7 (oS [iA 33 29 31 9 1,l1 34 33,m1 10 34] [0,4,6,8,10,11,12,13,17,18,19,23,24,25,29,30,31] Xz)) (oP [bZ 44 .add 31 1,m1 31 44] [0,4,6,8,11,12,13,17,18,19,23,24,25,29,30,31])
def XM:IC:=oS [o1 29 (.msl false 9 1 [.c (.s []),.c (.s [100])]),nL 30 29,mZ 31 0] [0,4,6,8,11,12,13,17,18,19,23,24,25,29,30,31] (.block 6 (.loop (oS [bT 32 .lss 31 30] [0,4,6,8,11,12,13,17,18,19,23,24,25,29,30,31,32] (sQ (cD 32 .skip (.exit 6)) X4))))
def Y1:IC:=sQ (.block 5 (oS [iA 27 23 25 9 1,l1 28 27,m1 8 28] [0,4,6,8,11,12,13,17,18,19,23,24,25] XM)) (oP [bZ 45 .add 25 1,m1 25 45] [0,4,6,11,12,13,17,18,19,23,24,25])
def VD:IC:=oS [o1 23 (.msl false 9 1 [.c (.s []),.c (.s [69])]),nL 24 23,mZ 25 0] [0,4,6,11,12,13,17,18,19,23,24,25] (.block 4 (.loop (oS [bT 26 .lss 25 24] [0,4,6,11,12,13,17,18,19,23,24,25,26] (sQ (cD 26 .skip (.exit 4)) Y1))))
def Y0:IC:=sQ (.block 3 (oS [iA 21 17 19 9 1,l1 22 21,m1 6 22] [0,4,6,11,12,13,17,18,19] VD)) (oP [bZ 46 .add 19 1,m1 19 46] [0,4,11,12,13,17,18,19])
def WM:IC:=oS [o1 17 (.msl false 9 1 [.c (.s []),.c (.s [77])]),nL 18 17,mZ 19 0] [0,4,11,12,13,17,18,19] (.block 2 (.loop (oS [bT 20 .lss 19 18] [0,4,11,12,13,17,18,19,20] (sQ (cD 20 .skip (.exit 2)) Y0))))
def dF:IC:=oS [bT 14 .lss 13 12] [0,11,12,13,14] (sQ (cD 14 .skip (.exit 0)) (sQ (.block 1 (oS [iA 15 11 13 9 1,l1 16 15,m1 4 16] [0,4,11,12,13] WM)) (oP [bZ 47 .add 13 1,m1 13 47] [0,11,12,13])))
def xY:IC:=sQ (oS [o1 11 (.msl false 9 1 [.c (.s []),.c (.s [121])]),nL 12 11,mZ 13 0] [0,11,12,13] (.block 0 (.loop dF))) (oR [mC 2 (.b false)] [2])
def qE:IC:=oS [mC 2 (.b false)] [0] xY
def Arw:List R:=[.t 2]
def Axo:=Ao Xz.eq_1<|Ao X4.eq_1<|Ao XM.eq_1<|Ao Y1.eq_1<|Ao VD.eq_1<|Ao Y0.eq_1<|Ao WM.eq_1<|Ao dF.eq_1<|Ao xY.eq_1<|AJ qE.eq_1
theorem Ajz:Ar π 151 48 qE Arw=true:=by kernel_rfl
def Yf:IC:=sQ (oS [fA 24 2 0,fA 25 24 14,l1 26 25,nL 27 26,bZ 28 .neq 27 12] [2,28] (cD 28 (oR [mC 4 (.s []),mZ 5 18] [4,5]) .skip)) (oR [fA 29 2 0,fA 30 29 14,l1 31 30,fA 32 2 17,l1 33 32,bZ 34 .sub 33 1,iA 35 31 34 9 1,l1 36 35,m1 4 36,mZ 5 0] [4,5])
def Wp:IC:=sQ (oS [fA 39 2 0,fA 40 39 15,l1 41 40,nL 42 41,bZ 43 .neq 42 7] [2,43] (cD 43 (oR [mC 4 (.s []),mZ 5 18] [4,5]) .skip)) (oR [fA 44 2 0,fA 45 44 15,l1 46 45,fA 47 2 19,l1 48 47,iA 49 46 48 9 1,l1 50 49,m1 4 50,mZ 5 0] [4,5])
def Xj:IC:=oS [bC 38 .eql 6 (.s [69]),m1 37 38] [2,6,37] (cD 37 Wp (oS [bC 52 .eql 6 (.s [100]),m1 51 52] [2,51] (cD 51 (oR [fA 53 2 18,l1 54 53,q1 55 156 54,m1 4 55,mZ 5 0] [4,5]) .skip)))
def Xt:IC:=oS [bC 18 .eql 6 (.s [77,77]),m1 17 18] [2,6,17] (cD 17 (oR [fA 19 2 17,l1 20 19,q1 21 157 20,m1 4 21,mZ 5 0] [4,5]) (oS [bC 23 .eql 6 (.s [77,77,77]),m1 22 23] [2,6,22] (cD 22 Yf Xj)))
def rK:IC:=.block 0 (oS [bC 8 .eql 6 (.s [121]),m1 7 8] [2,6,7] (cD 7 (oR [fA 9 2 16,l1 10 9,q1 11 156 10,m1 4 11,mZ 5 0] [4,5]) (oS [bC 13 .eql 6 (.s [77]),m1 12 13] [2,6,12] (cD 12 (oR [fA 14 2 17,l1 15 14,q1 16 156 15,m1 4 16,mZ 5 0] [4,5]) Xt))))
def gL:IC:=oS [bX 2 0,mC 4 (.s []),mZ 5 0] [1,2] (sQ (oS [m1 6 1] [2,6] rK) (oR [fA 56 2 18,l1 57 56,q1 58 157 57,m1 4 58,mZ 5 0] [4,5]))
def AqN:List R:=[.t 4,.t 5]
def AwQ:=Ao Yf.eq_1<|Ao Wp.eq_1<|Ao Xj.eq_1<|Ao Xt.eq_1<|Ao rK.eq_1<|AJ gL.eq_1
theorem Ajc:Ar π 192 59 gL AqN=true:=by kernel_rfl
def Q5:IC:=sQ (oS [m1 12 7,m1 13 1,nS 14 13,bT 15 .lss 12 14,m1 16 15,B0 17 16 1,B0 18 16 7,gT 19 16 (.idx (.t 17) (.t 18)),gT 20 16 (.call 191 [.t 19]),pA 21 16 20] [1,2,6,7,21] (cD 21 .skip (.exit 2))) (.block 3 (oP [m1 22 7,bZ 23 .add 22 1,m1 7 23] [1,2,6,7]))
def W8:IC:=sQ (.opx [m1 26 1,o1 27 (.idx (.t 26) (ci 0))] [1,2,6,27] 28 117 [.t 6,.t 27] [] [1,2,6]) (oS [m1 29 1,o1 30 (.slS (.t 29) (some (ci 1)) none),m1 1 30] [1,2,6] (.exit 1))
def Yc:IC:=sQ (.opx [m1 42 8] [1,2,6,7,42] 43 94 [.t 6,.t 42] [] [1,2,6,7]) (oP [m1 44 1,m1 45 7,o1 46 (.slS (.t 44) (some (.t 45)) none),m1 1 46] [1,2,6])
def XH:IC:=sQ (.ops [lA 32 2 20,m1 33 1,m1 34 7,o1 35 (.slS (.t 33) none (some (.t 34))),q2 36 192 32 35,m1 31 36,xT 37 31 0,xT 38 31 1,m1 8 37,m1 9 38] [1,2,6,7,8,9] [[1,3],[2,3],[0,4],[3,4],[4,5],[5,6],[5,7],[6,8],[7,9]]) (sQ (oS [m1 39 9,bZ 40 .neq 39 0] [1,2,6,7,8,9,40] (cD 40 (oR [m1 41 9,mC 4 (.s []),m1 5 41] [4,5]) .skip)) Yc)
def Xa:IC:=.block 1 (oS [mZ 7 0] [1,2,6,7] (sQ (.block 2 (.loop Q5)) (sQ (oS [m1 24 7,bZ 25 .eql 24 0] [1,2,6,7,25] (cD 25 W8 .skip)) XH)))
def xN:IC:=sQ (.block 0 (.loop (sQ (oS [m1 10 1,bC 11 .neq 10 (.s [])] [1,2,6,11] (cD 11 .skip (.exit 0))) Xa))) (oR [o1 47 (.calls 33 [.t 6]),m1 4 47,mZ 5 0] [4,5])
def lG:IC:=oS [bX 2 0,mC 4 (.s []),mZ 5 0] [1,2] (oS [o1 6 (.mkm (.tnew 81 (.agg [.np,.nil])) [])] [1,2,6] xN)
def Aqs:List R:=[.t 4,.t 5]
def Axk:=Ao Q5.eq_1<|Ao W8.eq_1<|Ao Yc.eq_1<|Ao XH.eq_1<|Ao Xa.eq_1<|Ao xN.eq_1<|AJ lG.eq_1
theorem AiE:Ar π 153 48 lG Aqs=true:=by kernel_rfl
def Xr:IC:=oS [fA 40 3 13,l1 41 40,m1 42 12,iA 43 41 42 129 2,fA 44 43 1,l1 45 44,q1 46 151 45,nT 47 46,m1 39 47] [2,3,8,9,10,12,39] (cD 39 (oR [mC 6 (.s []),mZ 7 4] [6,7]) .skip)
def Xn:IC:=cD 32 (oR [mC 6 (.s []),mZ 7 18] [6,7]) (oS [m1 36 11,bZ 37 .neq 36 0,m1 35 37] [2,3,8,9,10,11,12,35] (cD 35 (oR [m1 38 11,mC 6 (.s []),m1 7 38] [6,7]) Xr))
def VC:IC:=sQ (.ops [lA 53 3 16,m1 54 8,m1 55 9,m1 56 10,m1 57 13,o1 58 (.build [.s [],.s [],.s [],.nil,.nil,.s [],.s [],.s [],.s [],.i .i64 0,.i .i64 0,.nil,.nil,.nil,.nil,.nil,.i .i64 0,.i .i64 0,.i .i64 0,.i .i64 0] [(0,16,.t 53),(16,1,.t 54),(17,1,.t 55),(18,1,.t 56),(19,1,.t 57)]),fA 59 3 13,l1 60 59,m1 61 12,iA 62 60 61 129 2,fA 63 62 1,l1 64 63,q2 65 153 58 64,xT 66 65 0,xT 67 65 1,m1 6 66,m1 7 67] [6,7] [[0,5],[1,5],[2,5],[3,5],[4,5],[6,7],[7,9],[8,9],[9,10],[10,11],[5,12],[11,12],[12,13],[12,14],[13,15],[14,16]]) .ret
def Ym:IC:=sQ (.block 0 (oS [m1 33 11,bZ 34 .eql 33 8,m1 32 34] [2,3,8,9,10,11,12,32] Xn)) (oS [m1 49 2,q1 50 152 49,m1 48 50,xT 51 48 0,xT 52 48 1,m1 13 51,m1 14 52] [3,8,9,10,12,13] VC)
def v8:IC:=sQ (oS [m1 22 11,bZ 23 .neq 22 0] [1,2,3,8,9,10,11,23] (cD 23 (oR [m1 24 11,mC 6 (.s []),m1 7 24] [6,7]) .skip)) (oS [fA 26 3 13,l1 27 26,m1 28 1,q2 29 150 27 28,m1 25 29,xT 30 25 0,xT 31 25 1,m1 12 30,m1 11 31] [2,3,8,9,10,11,12] Ym)
def oG:IC:=oS [bX 3 0,mC 6 (.s []),mZ 7 0] [1,2,3] (oS [m1 16 2,q1 17 149 16,m1 15 17,xT 18 15 0,xT 19 15 1,xT 20 15 2,xT 21 15 3,m1 8 18,m1 9 19,m1 10 20,m1 11 21] [1,2,3,8,9,10,11] v8)
def AqW:List R:=[.t 6,.t 7]
def Axm:=Ao Xr.eq_1<|Ao Xn.eq_1<|Ao VC.eq_1<|Ao Ym.eq_1<|Ao v8.eq_1<|AJ oG.eq_1
theorem M4:Ar π 111 68 oG AqW=true:=by kernel_rfl
def Y4:IC:=sQ (.block 1 (oS [iA 13 9 11 125 5,lA 14 13 5,o1 7 (.alloc (.agg [.s [],.s [],.s [],.s [],.s []])),sT 7 14 5] [1,4,7,9,10,11] (oS [fA 15 7 0,l1 16 15,m1 17 1,bT 18 .eql 16 17] [1,4,7,9,10,11,18] (cD 18 (oR [lA 19 7 5,sT 4 19 5,mC 5 (.b true)] [4,5]) .skip)))) (oP [bZ 20 .add 11 1,m1 11 20] [1,4,9,10,11])
def yF:IC:=sQ (oS [fA 8 2 11,l1 9 8,nL 10 9,mZ 11 0] [1,4,9,10,11] (.block 0 (.loop (oS [bT 12 .lss 11 10] [1,4,9,10,11,12] (sQ (cD 12 .skip (.exit 0)) Y4))))) (oR [o1 21 (.build [.s [],.s [],.s [],.s [],.s []] []),sT 4 21 5,mC 5 (.b false)] [4,5])
def l6:IC:=oS [bX 2 0,o1 4 (.alloc (.agg [.s [],.s [],.s [],.s [],.s []])),mC 5 (.b false)] [1,2,4] yF
def AqV:List R:=[.c 4 5 true,.t 5]
def AxC:=Ao Y4.eq_1<|Ao yF.eq_1<|AJ l6.eq_1
theorem Ah9:Ar π 154 22 l6 AqV=true:=by kernel_rfl
def VE:IC:=oS [m1 39 8,o1 40 (.call 137 [.t 39,.c (.s [123,49,125])]),m1 38 40,xT 41 38 0,xT 42 38 1,xT 43 38 2,m1 13 41,m1 14 42,m1 15 43] [1,2,7,13,14] (oR [m1 44 7,m1 45 1,bT 46 .add 44 45,m1 47 13,bT 48 .add 46 47,m1 49 2,bT 50 .add 48 49,m1 51 14,bT 52 .add 50 51,m1 6 52] [6])
def rZ:IC:=sQ (oS [m1 23 7,o1 24 (.call 137 [.t 23,.c (.s [123,49,125])]),m1 22 24,xT 25 22 0,xT 26 22 1,xT 27 22 2,m1 10 25,m1 11 26,m1 12 27] [1,2,7,8,10,11,12] (oS [m1 28 12] [1,2,7,8,10,11,28] (cD 28 (oR [m1 29 10,m1 30 2,bT 31 .add 29 30,m1 32 11,bT 33 .add 31 32,m1 34 1,bT 35 .add 33 34,m1 36 8,bT 37 .add 35 36,m1 6 37] [6]) .skip))) VE
def yK:IC:=oS [m1 17 0,o1 18 (.call 137 [.t 17,.c (.s [123,48,125])]),m1 16 18,xT 19 16 0,xT 20 16 1,xT 21 16 2,m1 7 19,m1 8 20,m1 9 21] [1,2,7,8] rZ
def eF:IC:=oS [mC 6 (.s [])] [0,1,2] yK
def AqF:List R:=[.t 6]
def AxB:=Ao VE.eq_1<|Ao rZ.eq_1<|Ao yK.eq_1<|AJ eF.eq_1
theorem xS:Ar π 193 53 eF AqF=true:=by kernel_rfl
def VB:IC:=sQ (.block 1 (oS [iA 33 29 31 9 1,l1 34 33,m1 11 34] [2,8,11,29,30,31] (oS [m1 35 11,o1 36 (.call 147 [.t 35,ci 2]),nT 37 36] [2,8,29,30,31,37] (cD 37 (oR [mC 6 (.s []),mZ 7 4] [6,7]) .skip)))) (oP [bZ 38 .add 31 1,m1 31 38] [2,8,29,30,31])
def Yw:IC:=oS [lA 42 8 5,m1 43 2,q2 44 155 42 43,m1 12 44] [12] (sQ (oS [m1 45 12,nS 46 45,bZ 47 .gtr 46 20000] [12,47] (cD 47 (oR [mC 6 (.s []),mZ 7 6] [6,7]) .skip)) (oR [m1 48 12,m1 6 48,mZ 7 0] [6,7]))
def Xg:IC:=sQ (oS [fA 21 8 1,l1 22 21,fA 23 8 2,l1 24 23,fA 25 8 3,l1 26 25,fA 27 8 4,l1 28 27,o1 29 (.msl false 9 1 [.t 22,.t 24,.t 26,.t 28]),nL 30 29,mZ 31 0] [2,8,29,30,31] (.block 0 (.loop (oS [bT 32 .lss 31 30] [2,8,29,30,31,32] (sQ (cD 32 .skip (.exit 0)) VB))))) (sQ (oS [m1 39 2,nL 40 39,bZ 41 .gtr 40 1000] [2,8,41] (cD 41 (oR [mC 6 (.s []),mZ 7 6] [6,7]) .skip)) Yw)
def rB:IC:=oS [lA 14 3 16,m1 15 1,q2 16 154 14 15,m1 13 16,xT 17 13 0,xT 18 13 1,o1 8 (.alloc (.agg [.s [],.s [],.s [],.s [],.s []])),sT 8 17 5,m1 9 18] [2,8,9] (sQ (oS [m1 19 9,nT 20 19] [2,8,20] (cD 20 (oR [mC 6 (.s []),mZ 7 18] [6,7]) .skip)) Xg)
def dZ:IC:=oS [bX 3 0,mC 6 (.s []),mZ 7 0] [1,2,3] rB
def Am6:List R:=[.t 6,.t 7]
def AwU:=Ao VB.eq_1<|Ao Yw.eq_1<|Ao Xg.eq_1<|Ao rB.eq_1<|AJ dZ.eq_1
theorem yT:Ar π 112 49 dZ Am6=true:=by kernel_rfl
def Yb:IC:=oS [m1 28 8,nT 29 28] [3,5,6,11,12,13,29] (cD 29 (oP [m1 30 3,lA 31 6 2,fA 32 5 2,l1 33 32,o0 (.wrm (.mput (.st [(0,.str),(1,.str)])) (.t 30) [.t 31,.t 33])] [3,11,12,13]) .skip)
def Yp:IC:=oS [m1 23 3,lA 24 6 2,o1 25 (.rdm (.mget (.st [(0,.str),(1,.str)]) (.s []) true) (.t 23) [.t 24]),m1 22 25,xT 26 22 0,xT 27 22 1,m1 7 26,m1 8 27] [3,5,6,8,11,12,13] Yb
def VR:IC:=oS [fA 17 5 0,l1 18 17,fA 19 5 1,l1 20 19,o1 21 (.build [.s [],.s []] [(0,1,.t 18),(1,1,.t 20)]),o1 6 (.alloc (.agg [.s [],.s []])),sT 6 21 2] [3,5,6,11,12,13] Yp
def Wb:IC:=sQ (.block 1 (oS [iA 15 11 13 127 3,lA 16 15 3,o1 5 (.alloc (.agg [.s [],.s [],.s []])),sT 5 16 3] [3,5,11,12,13] VR)) (oP [bZ 34 .add 13 1,m1 13 34] [3,11,12,13])
def vS:IC:=sQ (oS [fA 10 1 12,l1 11 10,nL 12 11,mZ 13 0] [3,11,12,13] (.block 0 (.loop (oS [bT 14 .lss 13 12] [3,11,12,13,14] (sQ (cD 14 .skip (.exit 0)) Wb))))) (oR [m1 35 3,m1 2 35] [2])
def jJ:IC:=oS [bX 1 0,mC 2 .nm] [1] (oS [o1 9 (.mkm .mkmap []),m1 3 9] [1,3] vS)
def As5:List R:=[.t 2]
def Aw3:=Ao Yb.eq_1<|Ao Yp.eq_1<|Ao VR.eq_1<|Ao Wb.eq_1<|Ao vS.eq_1<|AJ jJ.eq_1
theorem Aio:Ar π 181 36 jJ As5=true:=by kernel_rfl
def Wh:IC:=oS [m1 26 8,m1 27 1,o1 28 (.build [.s [],.s []] [(0,1,.t 27),(1,1,.c (.s [111,116,104,101,114]))]),o1 29 (.rdm (.mget (.st [(0,.str),(1,.str)]) (.s []) true) (.t 26) [.t 28]),m1 25 29,xT 30 25 0,xT 31 25 1,m1 11 30,m1 12 31] [11,12] (oR [m1 32 11,m1 33 12,m1 6 32,m1 7 33] [6,7])
def qU:IC:=sQ (oS [m1 16 8,m1 17 1,m1 18 2,o1 19 (.build [.s [],.s []] [(0,1,.t 17),(1,1,.t 18)]),o1 20 (.rdm (.mget (.st [(0,.str),(1,.str)]) (.s []) true) (.t 16) [.t 19]),m1 15 20,xT 21 15 0,xT 22 15 1,m1 9 21,m1 10 22] [1,8,9,10] (oS [m1 23 10] [1,8,9,23] (cD 23 (oR [m1 24 9,m1 6 24,mC 7 (.b true)] [6,7]) .skip))) Wh
def wW:IC:=oS [bX 3 0,mC 6 (.s []),mC 7 (.b false)] [1,2,3] (oS [lA 13 3 16,o1 14 (.calln 181 [.t 13]),m1 8 14] [1,2,8] qU)
def ApX:List R:=[.t 6,.t 7]
def Aw8:=Ao Wh.eq_1<|Ao qU.eq_1<|AJ wW.eq_1
theorem Ajg:Ar π 146 34 wW ApX=true:=by kernel_rfl
def WL:IC:=cD 30 (oR [mC 6 (.s []),mZ 7 18] [6,7]) (oS [m1 34 10,o1 35 (.call 147 [.t 34,ci 1]),nT 36 35,m1 33 36] [2,3,10,33] (cD 33 (oR [mC 6 (.s []),mZ 7 4] [6,7]) .skip))
def VI:IC:=sQ (oS [m1 43 9,bZ 44 .neq 43 0] [9,10,12,44] (cD 44 (oR [m1 45 9,mC 6 (.s []),m1 7 45] [6,7]) .skip)) (oR [m1 46 10,m1 47 12,o1 48 (.call 148 [.t 46,.c (.s [123,48,125]),.t 47,ci 1]),m1 6 48,mZ 7 0] [6,7])
def VO:IC:=sQ (.block 0 (oS [m1 31 11,nT 32 31,m1 30 32] [2,3,10,30] WL)) (oS [lA 38 3 16,m1 39 2,o1 40 (.call 70 [.t 38,.t 39,.c (.s [])]),m1 37 40,xT 41 37 0,xT 42 37 1,m1 12 41,m1 9 42] [9,10,12] VI)
def o3:IC:=sQ (oS [m1 20 9,bZ 21 .neq 20 0] [1,2,3,8,9,21] (cD 21 (oR [m1 22 9,mC 6 (.s []),m1 7 22] [6,7]) .skip)) (oS [lA 24 3 16,m1 25 1,m1 26 8,q3 27 146 24 25 26,m1 23 27,xT 28 23 0,xT 29 23 1,m1 10 28,m1 11 29] [2,3,10,11] VO)
def rD:IC:=oS [bX 3 0,mC 6 (.s []),mZ 7 0] [1,2,3] (oS [fA 14 3 3,l1 15 14,m1 16 2,q2 17 145 15 16,m1 13 17,xT 18 13 0,xT 19 13 1,m1 8 18,m1 9 19] [1,2,3,8,9] o3)
def AmC:List R:=[.t 6,.t 7]
def AwY:=Ao WL.eq_1<|Ao VI.eq_1<|Ao VO.eq_1<|Ao o3.eq_1<|AJ rD.eq_1
theorem N5:Ar π 110 49 rD AmC=true:=by kernel_rfl
def Afo:IC:=oR [m1 3 0,bZ 4 .geq 3 0,m1 5 4,B0 6 5 0,Dn 7 5 .leq 6 1114111,pA 8 5 7,m1 9 8,B0 10 9 0,Dn 11 9 .lss 10 55296,B0 12 9 11,Bn 13 12 0,Dv 14 12 .gtr 13 57343,gT 15 9 (.pick (.t 12) (.c (.b true)) (.t 14)),pA 16 9 15,m1 2 16] [2]
def AgV:IC:=oS [mC 2 (.b false)] [0] Afo
def Aty:List R:=[.t 2]
def Ayw:=Ao Afo.eq_1<|AJ AgV.eq_1
theorem AmZ:Ar π 34 17 AgV Aty=true:=by kernel_rfl
def wM:IC:=sQ (cD 9 .skip (.exit 0)) (.block 1 (oS [xT 10 8 2,m1 5 10] [3,5,7] (oP [m1 11 3,m1 12 5,o1 13 (.cvi .i64 (.t 12)),o1 14 (.msl false 3 1 [.t 13]),o1 15 (.app (.t 11) (.t 14) 3 1),m1 3 15] [3,7])))
def AfR:IC:=sQ (oS [m1 6 0,o1 7 (.mkm .strit [.t 6])] [3,7] (.block 0 (.loop (oS [o1 8 (.wrm .next (.t 7) []),xT 9 8 0] [3,7,8,9] wM)))) (sQ (.wk (oP [m1 16 3,m1 2 16] [2])) .ret)
def AgR:IC:=oS [mC 2 .nil] [0] (oS [mC 3 .nil] [0,3] AfR)
def Auj:List R:=[.t 2]
def Azt:=Ao wM.eq_1<|Ao AfR.eq_1<|AJ AgR.eq_1
theorem Ap2:Ar π 16 17 AgR Auj=true:=by kernel_rfl
def iC:IC:=sQ (oS [m1 12 5,q1 13 34 12,nT 14 13] [3,5,6,7,8,14] (cD 14 (oP [mZ 5 65533] [3,5,6,7,8]) .skip)) (.opx [m1 15 5,o1 16 (.cvi .i32 (.t 15))] [3,6,7,8,16] 17 35 [.t 3,.t 16] [] [3,6,7,8])
def AgJ:IC:=oS [bT 9 .lss 8 7] [3,6,7,8,9] (sQ (cD 9 .skip (.exit 0)) (sQ (.block 1 (oS [iA 10 6 8 3 1,l1 11 10,m1 5 11] [3,5,6,7,8] iC)) (oP [bZ 18 .add 8 1,m1 8 18] [3,6,7,8])))
def Afy:IC:=oS [mC 2 (.s [])] [0] (oS [o1 3 (.mkm (.tnew 81 (.agg [.np,.nil])) [])] [0,3] (sQ (oS [m1 6 0,nL 7 6,mZ 8 0] [3,6,7,8] (.block 0 (.loop AgJ))) (oR [o1 19 (.calls 33 [.t 3]),m1 2 19] [2])))
def AvB:List R:=[.t 2]
def Ayc:=Ao iC.eq_1<|Ao AgJ.eq_1<|AJ Afy.eq_1
theorem Ask:Ar π 18 20 Afy AvB=true:=by kernel_rfl
def AeH:IC:=oS [mC 2 (.b false)] [0] (oR [m1 3 0,bZ 4 .geq 3 8294,m1 5 4,B0 6 5 0,Dn 7 5 .leq 6 8296,pA 8 5 7,m1 2 8] [2])
def Awe:List R:=[.t 2]
def Azq:=AJ AeH.eq_1
theorem Ao7:Ar π 17 9 AeH Awe=true:=by kernel_rfl
def Xh:IC:=oS [m1 22 4,m1 23 8,o1 24 (.msl false 4 1 [.t 23]),o1 25 (.app (.t 22) (.t 24) 4 1),m1 4 25] [3,4,5,7,8,11,12,13] (sQ (oS [m1 26 8,nT 27 26] [3,4,5,7,11,12,13,27] (cD 27 (.exit 1) .skip)) (oP [m1 28 5,bZ 29 .add 28 1,m1 5 29] [3,4,5,7,11,12,13]))
def Yz:IC:=oS [m1 42 4,m1 43 4,nL 44 43,bZ 45 .sub 44 1,o1 46 (.slT (.t 42) (.t 45) 1),m1 4 46] [3,4,5,7,9,11,12,13] (sQ (oS [m1 47 9,nT 48 47] [3,4,5,7,11,12,13,48] (cD 48 (.exit 1) .skip)) (oP [m1 49 5,bZ 50 .sub 49 1,m1 5 50] [3,4,5,7,11,12,13]))
def X1:IC:=sQ (oS [m1 33 4,nL 34 33,bZ 35 .eql 34 0] [3,4,5,7,11,12,13,35] (cD 35 (.exit 1) .skip)) (oS [m1 36 4,m1 37 4,nL 38 37,bZ 39 .sub 38 1,iA 40 36 39 4 1,l1 41 40,m1 9 41] [3,4,5,7,9,11,12,13] Yz)
def Yo:IC:=sQ (.block 2 (oS [m1 18 7,q1 19 17 18,m1 17 19] [3,4,5,7,11,12,13,17] (cD 17 (oS [m1 20 5,bZ 21 .lss 20 8,m1 8 21] [3,4,5,7,8,11,12,13] Xh) (oS [m1 31 7,bZ 32 .eql 31 8297,m1 30 32] [3,4,5,7,11,12,13,30] (cD 30 X1 .skip))))) (.opx [m1 51 7,o1 52 (.msl false 3 1 [.t 51]),q1 53 18 52] [3,4,5,11,12,13,53] 54 94 [.t 3,.t 53] [] [3,4,5,11,12,13])
def Wz:IC:=oS [bT 14 .lss 13 12] [3,4,5,11,12,13,14] (sQ (cD 14 .skip (.exit 0)) (sQ (.block 1 (oS [iA 15 11 13 3 1,l1 16 15,m1 7 16] [3,4,5,7,11,12,13] Yo)) (oP [bZ 55 .add 13 1,m1 13 55] [3,4,5,11,12,13])))
def XO:IC:=sQ (.block 4 (.opx [o1 59 (.msl false 3 1 [ci 8297]),q1 60 18 59] [3,56,57,60] 61 94 [.t 3,.t 60] [] [3,56,57])) (oP [bZ 62 .add 57 1,m1 57 62] [3,56,57])
def Xu:IC:=sQ (oS [m1 56 5,mZ 57 0] [3,56,57] (.block 3 (.loop (oS [bT 58 .lss 57 56] [3,56,57,58] (sQ (cD 58 .skip (.exit 3)) XO))))) (oR [o1 63 (.calls 33 [.t 3]),m1 2 63] [2])
def iO:IC:=oS [mC 4 .nil] [0,3,4] (oS [mZ 5 0] [0,3,4,5] (sQ (oS [m1 10 0,q1 11 16 10,nL 12 11,mZ 13 0] [3,4,5,11,12,13] (.block 0 (.loop Wz))) Xu))
def mR:IC:=oS [mC 2 (.s [])] [0] (oS [o1 3 (.mkm (.tnew 81 (.agg [.np,.nil])) [])] [0,3] iO)
def Aol:List R:=[.t 2]
def AwJ:=Ao Xh.eq_1<|Ao Yz.eq_1<|Ao X1.eq_1<|Ao Yo.eq_1<|Ao Wz.eq_1<|Ao XO.eq_1<|Ao Xu.eq_1<|Ao iO.eq_1<|AJ mR.eq_1
theorem AlP:Ar π 130 64 mR Aol=true:=by kernel_rfl
def Afx:IC:=oR [o1 3 (.msl false 3 1 [ci 8296]),q1 4 18 3,m1 5 0,q1 6 130 5,bT 7 .add 4 6,o1 8 (.msl false 3 1 [ci 8297]),q1 9 18 8,bT 10 .add 7 9,m1 2 10] [2]
def Agr:IC:=oS [mC 2 (.s [])] [0] Afx
def Au4:List R:=[.t 2]
def Aye:=Ao Afx.eq_1<|AJ Agr.eq_1
theorem Ars:Ar π 96 11 Agr Au4=true:=by kernel_rfl
def WP:IC:=oS [bZ 12 .eql 5 5,m1 11 12] [3,5,11] (cD 11 (oR [fA 13 3 1,l1 14 13,bZ 15 .eql 14 3,m1 4 15] [4]) (oS [bZ 17 .eql 5 6,m1 16 17] [3,16] (cD 16 (oR [fA 18 3 1,l1 19 18,bZ 20 .eql 19 4,m1 4 20] [4]) .skip)))
def oE:IC:=oS [bX 3 1,mC 4 (.b false)] [0,3] (sQ (oS [m1 5 0] [3,5] (.block 0 (oS [bZ 7 .eql 5 2,m1 6 7] [3,5,6] (cD 6 (oR [fA 8 3 1,l1 9 8,bZ 10 .neq 9 4,m1 4 10] [4]) WP)))) (oR [fA 21 3 1,l1 22 21,bZ 23 .eql 22 2,m1 4 23] [4]))
def AoV:List R:=[.t 4]
def Axe:=Ao WP.eq_1<|AJ oE.eq_1
theorem AlQ:Ar π 109 24 oE AoV=true:=by kernel_rfl
def uV:IC:=oS [bZ 60 .eql 28 6,m1 59 60] [3,4,5,59] (cD 59 (oR [lA 61 3 16,fA 62 4 3,l1 63 62,fA 64 5 4,l1 65 64,q3 66 112 61 63 65,xT 67 66 0,xT 68 66 1,m1 6 67,m1 7 68] [6,7]) .skip)
def xR:IC:=oS [bZ 50 .eql 28 5,m1 49 50] [3,4,5,28,49] (cD 49 (oR [lA 51 3 16,fA 52 4 3,l1 53 52,fA 54 5 3,l1 55 54,q3 56 111 51 53 55,xT 57 56 0,xT 58 56 1,m1 6 57,m1 7 58] [6,7]) uV)
def lL:IC:=oS [bZ 40 .eql 28 4,m1 39 40] [3,4,5,28,39] (cD 39 (oR [lA 41 3 16,fA 42 4 3,l1 43 42,fA 44 5 2,l1 45 44,q3 46 110 41 43 45,xT 47 46 0,xT 48 46 1,m1 6 47,m1 7 48] [6,7]) xR)
def tI:IC:=.block 0 (oS [bZ 30 .eql 28 3,m1 29 30] [3,4,5,28,29] (cD 29 (oR [lA 31 3 16,fA 32 5 2,l1 33 32,fA 34 4 3,l1 35 34,q3 36 70 31 33 35,xT 37 36 0,xT 38 36 1,m1 6 37,m1 7 38] [6,7]) lL))
def yW:IC:=oS [fA 74 5 3,l1 75 74,q1 76 113 75,m1 8 76] [8] (sQ (oS [m1 77 8,bC 78 .eql 77 (.s [])] [8,78] (cD 78 (oR [mC 6 (.s []),mZ 7 2] [6,7]) .skip)) (oR [m1 79 8,m1 6 79,mZ 7 0] [6,7]))
def tP:IC:=sQ (oS [fA 27 4 0,l1 28 27] [3,4,5,28] tI) (sQ (oS [fA 69 5 1,l1 70 69,bZ 71 .neq 70 3] [5,71] (cD 71 (oR [fA 72 5 2,l1 73 72,m1 6 73,mZ 7 0] [6,7]) .skip)) yW)
def Aef:IC:=sQ (oS [lA 17 5 5,q1 18 108 17,nT 19 18,m1 20 19,CG 21 20 4 0,CM 22 20 21,gF 23 20 (.load (.t 5) 5 true),gF 24 20 (.call 109 [.t 22,.t 23]),gF 25 20 (.not (.t 24)),pO 26 20 25] [3,4,5,26] (cD 26 (oR [mC 6 (.s []),mZ 7 11] [6,7]) .skip)) tP
def AfK:IC:=sQ (oS [fA 9 4 0,l1 10 9,bZ 11 .lss 10 2,m1 12 11,CG 13 12 4 0,CM 14 12 13,Dv 15 12 .gtr 14 6,pO 16 12 15] [3,4,5,16] (cD 16 (oR [mC 6 (.s []),mZ 7 1] [6,7]) .skip)) Aef
def AfU:IC:=oS [bX 3 0,bX 4 1,bX 5 2,mC 6 (.s []),mZ 7 0] [3,4,5] AfK
def AtP:List R:=[.t 6,.t 7]
def Azh:=Ao uV.eq_1<|Ao xR.eq_1<|Ao lL.eq_1<|Ao tI.eq_1<|Ao yW.eq_1<|Ao tP.eq_1<|Ao Aef.eq_1<|Ao AfK.eq_1<|AJ AfU.eq_1
theorem Rn:Ar π 74 80 AfU AtP=true:=by kernel_rfl
def yP:IC:=oS [m1 7 0,m1 8 0,nC 9 8,fA 10 9 1,l1 11 10,m1 12 1,o1 13 (.msl false 5 1 [.t 12]),o1 14 (.app (.t 11) (.t 13) 5 1),nC 15 7,fA 16 15 1,sT 16 14 1] [] (oR [mC 4 .ni] [4])
def iM:IC:=oS [mC 4 .ni] [0,1] (oS [m1 5 0,o1 6 (.calls 53 [.t 5])] [0,1] yP)
def Anw:List R:=[.t 4]
def Ax2:=Ao yP.eq_1<|AJ iM.eq_1
theorem AlF:Ar π 117 17 iM Anw=true:=by kernel_rfl
def AfQ:IC:=sQ (.opx [m1 14 0,m1 15 0,nC 16 15,fA 17 16 1,l1 18 17,m1 19 1] [0,6,14,18,19] 20 54 [.t 18,.t 19] [nC 21 14,fA 22 21 1,sT 22 20 1] [0,6]) (oR [m1 23 0,nC 24 23,fA 25 24 1,l1 26 25,nL 27 26,m1 28 6,bT 29 .sub 27 28,m1 4 29,mC 5 .ni] [4,5])
def Aei:IC:=oS [mZ 4 0,mC 5 .ni] [0,1] (oS [m1 7 0,o1 8 (.calls 53 [.t 7])] [0,1] (oS [m1 9 0,nC 10 9,fA 11 10 1,l1 12 11,nL 13 12,m1 6 13] [0,1,6] AfQ))
def AtA:List R:=[.t 4,.t 5]
def Ayv:=Ao AfQ.eq_1<|AJ Aei.eq_1
theorem Ao1:Ar π 35 30 Aei AtA=true:=by kernel_rfl
def Afb:IC:=sQ (oS [m1 5 1,o1 6 (.cvi .u32 (.t 5)),bC 7 .leq 6 (.i .u32 127)] [0,1,7] (cD 7 (oR [m1 8 0,m1 9 1,o1 10 (.cvi .u8 (.t 9)),o1 11 (.msl false 5 1 [.t 10]),o1 12 (.app (.t 8) (.t 11) 5 1),m1 4 12] [4]) .skip)) (sQ (.opx [m1 13 0,m1 14 1] [13,14] 15 76 [.t 13,.t 14] [m1 4 15] [4]) .ret)
def AfO:IC:=oS [mC 4 .nil] [0,1] Afb
def Awj:List R:=[.t 4]
def Ay3:=Ao Afb.eq_1<|AJ AfO.eq_1
theorem Afg:Ar π 54 16 AfO Awj=true:=by kernel_rfl
def AdY:IC:=oR [m1 14 0,m1 15 1,o1 16 (.pu (.shf .shr) [.t 15,.c (.i .u64 6)]),o1 17 (.cvi .u8 (.t 16)),o1 18 (.pu (.bit .or) [.c (.i .u8 192),.t 17]),m1 19 1,o1 20 (.cvi .u8 (.t 19)),o1 21 (.pu (.bit .and) [.t 20,.c (.i .u8 63)]),o1 22 (.pu (.bit .or) [.c (.i .u8 128),.t 21]),o1 23 (.msl false 5 1 [.t 18,.t 22]),o1 24 (.app (.t 14) (.t 23) 5 1),m1 4 24] [4]
def lV:IC:=oP [m1 28 5,o1 29 (.bin .lss (.c (.i .u32 57343)) (.t 28)),m1 30 29,B0 31 30 5,gT 32 30 (.bin .leq (.t 31) (.c (.i .u32 65535))),pA 33 30 32,m1 25 33] [0,1,5,25]
def mY:IC:=oR [m1 34 0,m1 35 1,o1 36 (.pu (.shf .shr) [.t 35,.c (.i .u64 12)]),o1 37 (.cvi .u8 (.t 36)),o1 38 (.pu (.bit .or) [.c (.i .u8 224),.t 37]),m1 39 1,o1 40 (.pu (.shf .shr) [.t 39,.c (.i .u64 6)]),o1 41 (.cvi .u8 (.t 40)),o1 42 (.pu (.bit .and) [.t 41,.c (.i .u8 63)]),o1 43 (.pu (.bit .or) [.c (.i .u8 128),.t 42]),m1 44 1,o1 45 (.cvi .u8 (.t 44)),o1 46 (.pu (.bit .and) [.t 45,.c (.i .u8 63)]),o1 47 (.pu (.bit .or) [.c (.i .u8 128),.t 46]),o1 48 (.msl false 5 1 [.t 38,.t 43,.t 47]),o1 49 (.app (.t 34) (.t 48) 5 1),m1 4 49] [4]
def lU:IC:=oR [m1 57 0,m1 58 1,o1 59 (.pu (.shf .shr) [.t 58,.c (.i .u64 18)]),o1 60 (.cvi .u8 (.t 59)),o1 61 (.pu (.bit .or) [.c (.i .u8 240),.t 60]),m1 62 1,o1 63 (.pu (.shf .shr) [.t 62,.c (.i .u64 12)]),o1 64 (.cvi .u8 (.t 63)),o1 65 (.pu (.bit .and) [.t 64,.c (.i .u8 63)]),o1 66 (.pu (.bit .or) [.c (.i .u8 128),.t 65]),m1 67 1,o1 68 (.pu (.shf .shr) [.t 67,.c (.i .u64 6)]),o1 69 (.cvi .u8 (.t 68)),o1 70 (.pu (.bit .and) [.t 69,.c (.i .u8 63)]),o1 71 (.pu (.bit .or) [.c (.i .u8 128),.t 70]),m1 72 1,o1 73 (.cvi .u8 (.t 72)),o1 74 (.pu (.bit .and) [.t 73,.c (.i .u8 63)]),o1 75 (.pu (.bit .or) [.c (.i .u8 128),.t 74]),o1 76 (.msl false 5 1 [.t 61,.t 66,.t 71,.t 75]),o1 77 (.app (.t 57) (.t 76) 5 1),m1 4 77] [4]
def pY:IC:=oS [m1 51 5,bC 52 .gtr 51 (.i .u32 65535),m1 53 52,B0 54 53 5,gT 55 53 (.bin .leq (.t 54) (.c (.i .u32 1114111))),pA 56 53 55,m1 50 56] [0,1,50] (cD 50 lU (oR [m1 8 0,o1 9 (.msl false 5 1 [.c (.i .u8 239),.c (.i .u8 191),.c (.i .u8 189)]),o1 10 (.app (.t 8) (.t 9) 5 1),m1 4 10] [4]))
def AeQ:IC:=.block 0 (oS [m1 12 5,bC 13 .leq 12 (.i .u32 2047),m1 11 13] [0,1,5,11] (cD 11 AdY (sQ (oS [m1 26 5,bC 27 .lss 26 (.i .u32 55296),m1 25 27] [0,1,5,25] (cD 25 .skip lV)) (cD 25 mY pY))))
def AdE:IC:=oS [mC 4 .nil] [0,1] (oS [m1 6 1,o1 7 (.cvi .u32 (.t 6)),m1 5 7] [0,1,5] AeQ)
def Avu:List R:=[.t 4]
def AyE:=Ao AdY.eq_1<|Ao lV.eq_1<|Ao mY.eq_1<|Ao lU.eq_1<|Ao pY.eq_1<|Ao AeQ.eq_1<|AJ AdE.eq_1
theorem Aqt:Ar π 76 78 AdE Avu=true:=by kernel_rfl
attribute[push_cast]Ap8 Ax7 ArC Axu AmK Awx Ap4 AwL ApM Axv ArL Axt ApW Awr AoU Axi AqX Awm Ao6 Axr ApB Awl Ash AwO AqC AwA Asu Axb AqS Ax3 Aqe Axq Ass Ax0 Arw Axo AqN AwQ Aqs Axk AqW Axm AqV AxC AqF AxB Am6 AwU As5 Aw3 ApX Aw8 AmC AwY Aty Ayw Auj Azt AvB Ayc Awe Azq Aol AwJ Au4 Aye AoV Axe AtP Azh Anw Ax2 AtA Ayv Awj Ay3 Avu AyE
end Go.Ir

namespace Go.Ir
open Go.Proofs
variable(O:World)
theorem RH(s:Ad):An π O 243 [.s s] [] (.b (FO s)) []:=by
 have a:=Lq O fieldNames s (by decide);unfold FO;generalize d:fieldNames.contains s=K at *;unfold fieldNames at a;simp only[Am1,Asz] at a;refine Ah (vs:=[.b K]) AlK (by simp) (by simp) λn0 c=>?_;clear c;simp only[push_cast,seval,rq]
 repeat' (first|(((first|apply Ac|apply Af|apply Ag)<;>intro _h)<;>simp only[push_cast,seval,rq,_h])|(refine Ab (by exact a) ?_;simp only[push_cast,seval,rq])|intro _)
 exact Ae (by simp[get])
theorem DO{a β:Type}(f:a->β) l x:List.map f l++[f x]=List.map f (l++[x]):=by simp
def HM(o:Option (List Ad)):V:=match o with
 | some l=>.sl (l.map V.s)
 | none=>.nil
def Py(o:Option (List Ad))(e:Int):Int:=if o.isSome then 0 else e
theorem Nm(s:Ad)(B:s.length<=2^30):An π O 221 [.s s] [] (.tup [HM (Cx s),.i .i64 (Py (Cx s) 3)]) []:=by
 generalize hS:Cx s=S;unfold Cx at hS;refine Ah (vs:=[HM S,.i .i64 (Py S 3)]) AhG (by simp) (by simp) λn0 w=>?_;clear w;simp only[push_cast,seval,rq]
 repeat' (first|(((first|apply Ac|apply Af|apply Ag)<;>intro _h)<;>simp only[push_cast,seval,rq,_h])|(refine As (by simp only[Aaf,Aa8,Adu,Am]<;>omega) ?_;simp only[push_cast,seval,rq])|intro _)
 rename_i k1 k2 k3 G;generalize n0+1+k1+1+k2+1+k3+1+G=C;have H:kinds4.length=4:=rfl;refine Ak 4 (Inv:=λm st=>∃dn a n id r out,kinds4=dn++a/\m=a.length/\C4 a r out=S/\r.length<=2^30/\out.length+a.length<=4/\id.1<n/\st=⟨[(4,.arr id),(5,.s r),(11,.sl (kinds4.map V.s)),(12,.i .i64 kinds4.length),(13,.i .i64 dn.length)],[(id,.arr 9 1 (out.map V.s))],n⟩) ⟨_,(Aj.own (s:=4) (e:=9) (sz:=1) (k:=0) rfl).trans (Aj.envD (env':=[(4,.arr (C,0)),(5,.s s),(11,.sl (kinds4.map V.s)),(12,.i .i64 4),(13,.i .i64 0)]) (λt=>?_) (AfJ _)),[],kinds4,_,(C,0),s,[],rfl,rfl,hS,B,by decide,Adx _,rfl⟩ ?_
 .left;simp only[get];by_cases h:4=t
  .subst h;simp
  .simp[h,kinds4]
 clear hS B;rintro m _ ⟨dn,a,n,id,r,out,l,rfl,d,J,p,I,rfl⟩;cases a with
 | nil=>
  have f:decide ((dn.length:Int)<(kinds4.length:Int))=false:=by rw[l];simp
  rw[C4] at d;have g:((out.length:Int)==0)=(out.length==0):=by cases out<;>simp<;>omega
  cases c:(r==([]:Ad))<;>cases j:(out.length==0)
  all_goals simp only[c,j,bq,Agp,AfT,rb,reduceCtorEq,Amo,Ain] at d
  all_goals subst d
  all_goals simp only[push_cast,seval,rq,f,g,c,j]
  all_goals repeat' (first|(((first|apply Ac|apply Af|apply Ag)<;>intro _h)<;>simp only[push_cast,seval,rq,_h,f,g,c,j])|(refine As (by simp only[Aaf,Aa8,Adu,Am]<;>omega) ?_;simp only[push_cast,seval,rq,f,g,c,j])|intro _)
  all_goals (first|(refine Ai ?_;simp[push_cast,get,HM,Py];done)|skip)
  refine GZ (Aj.frzAt (s:=4) (id:=id) rfl (by simp[lk]) (iI out) (AfJ _)) ?_;simp only[push_cast,seval,rq,f,g];intros;refine Ai ?_;simp[push_cast,get,HM,Py]
 | cons k a=>
  have D:=Ay l;have u:k∈kinds4:=by rw[l];simp
  have v:k.length=1/\∀b∈k,b.toNat<128:=by unfold kinds4 at u;simp at u;rcases u with rfl|rfl|rfl|rfl<;>simp
  have x:=Qy O r k (by omega) v.2;have E:=Fv r k;rw[C4] at d;have o:=RH O (r.take (r.length-(Lib.trimLeftS r k).length));generalize Lib.trimLeftS r k=T at *;have y:IntKind.i64.wrap ((r.length:Int)-(T.length:Int))=((r.length-T.length:Nat):Int):=by rw[wrap64 (by omega) (by omega)];omega
  have z:(r.length-T.length<=r.length)=True:=Amy (by omega);have A:(out.length+1<=AM)=True:=Amy (by simp at p;unfold AM;omega);generalize q:r.take (r.length-T.length)=F at *;cases c:(F==([]:Ad))<;>cases j:FO F
  all_goals simp only[c,j,bq,Agp,AfT,rb,reduceCtorEq] at d o
  all_goals simp only[push_cast,seval,rq,l,Aa k (dn:=dn) (by omega),y,z,A,q,Aul,AfJ,An6,AaT,c]
  all_goals repeat' (first|(((first|apply Ac|apply Af|apply Ag)<;>intro _h)<;>simp only[push_cast,seval,rq,_h,l,Aa k (dn:=dn) (by omega),y,z,A,q,Aul,AfJ,An6,AaT,c])|((first|refine Ab (by exact x) ?_|refine Ab (by exact o) ?_|refine As (by simp only[Aaf,Aa8,Adu,Am]<;>omega) ?_);simp only[push_cast,seval,rq,l,Aa k (dn:=dn) (by omega),y,z,A,q,Aul,AfJ,An6,AaT,c])|intro _)
  .subst d;refine Ai ?_;simp[push_cast,get,HM,Py]
  .rw[DO];exact⟨_,_,Adx _,Aj.refl,dn++[k],a,_,_,T,out++[F],by simp,rfl,d,by omega,by simp at p⊢;omega,by simp only;omega,rfl⟩
  .exact⟨_,_,Adx _,Aj.refl,dn++[k],a,_,id,r,out,by simp,rfl,d,by omega,by simp at p⊢;omega,by omega,rfl⟩
  .exact⟨_,_,Adx _,Aj.refl,dn++[k],a,_,id,r,out,by simp,rfl,d,by omega,by simp at p⊢;omega,by omega,rfl⟩
theorem KE:∀(n m) (p) (out),p.length<n->p.length<m->CF n p out=CF m p out:=by
 intro n
 induction n with
 | zero=>intro m p out h;omega
 | succ n f=>
  intro m p out c d;cases m with
  | zero=>omega
  | succ m=>
   have a:=Fv p letters52;rw[CF,CF];split
   .rfl
   .rename_i hp;have b:1<=p.length:=by grind
    split
    .grind
    .rename_i e;have:(Lib.trimLeftS p letters52).length<p.length:=by
      rcases AxT (Lib.trimLeftS p letters52).length p.length with h|h
      .exact h
      simp_all
     grind
theorem AiT(s:Ad)(u:s.length<=2^30):An π O 222 [.s s] [] (.tup [HM (H4 s),.b (H4 s).isSome]) []:=by
 generalize hS:H4 s=S;unfold H4 at hS;refine Ah (vs:=[HM S,.b S.isSome]) Akk (by simp) (by simp) λn0 r=>?_;clear r;simp only[push_cast,seval,rq]
 repeat' (first|(((first|apply Ac|apply Af|apply Ag)<;>intro _h)<;>simp only[push_cast,seval,rq,_h])|(refine As (by simp only[Aaf,Aa8,Adu,Am]<;>omega) ?_;simp only[push_cast,seval,rq])|intro _)
 rename_i k1 k2;generalize n0+1+k1+1+k2=A;refine Ak s.length (Inv:=λm st=>∃n id p out,m=p.length/\CF (p.length+1) p out=S/\p.length<=2^30/\out.length+p.length<=2^30/\id.1<n/\st=⟨[(0,.s p),(4,.arr id)],[(id,.arr 9 1 (out.map V.s))],n⟩) ⟨_,(Aj.own (s:=4) (e:=9) (sz:=1) (k:=0) rfl).trans (Aj.envD (env':=[(0,.s s),(4,.arr (A,0))]) (λt=>?_) (AfJ _)),_,(A,0),s,[],rfl,hS,u,by simpa using u,Adx _,rfl⟩ ?_
 .left;simp only[get];by_cases h:4=t
  .subst h;simp
  .simp[h]
 clear hS u;rintro m _ ⟨n,id,p,out,rfl,d,hp,E,G,rfl⟩;cases p with
 | nil=>rw[CF] at d;simp only[bq,Agp,AfT,rb,reduceCtorEq,A03] at d;subst d;simp only[push_cast,seval,rq];intros;refine GZ (Aj.frzAt (s:=4) (id:=id) rfl (by simp[lk]) (iI out) (AfJ _)) ?_;simp only[push_cast,seval,rq];intros;refine Ai ?_;simp[push_cast,get,HM]
 | cons c p=>
  obtain⟨R,g⟩:∃R,R=c::p:=⟨_,rfl⟩;have a:R.drop 1=p:=by rw[g];rfl
  have C:R.length=p.length+1:=by rw[g];simp
  rw[<-g] at d hp E⊢;have l:(R==([]:Ad))=false:=by rw[g];rfl
  clear g;have z:=Qy O R letters52 (by decide) (by decide);have D:=Fv R letters52;rw[CF,l] at d;have i:=RH O (R.take (R.length-(Lib.trimLeftS R letters52).length));generalize Lib.trimLeftS R letters52=T at *;unfold letters52 at z;have v:IntKind.i64.wrap ((R.length:Int)-(T.length:Int))=((R.length-T.length:Nat):Int):=by rw[wrap64 (by omega) (by omega)];omega
  have w:(R.length-T.length<=R.length)=True:=Amy (by omega);have x:(out.length+1<=AM)=True:=Amy (by unfold AM;omega);have y:(1<=R.length)=True:=Amy (by omega);have q:T.length=R.length->R.take (R.length-T.length)=[]:=λh=>by rw[h];simp
  generalize o:R.take (R.length-T.length)=F at *;cases f:(F==([]:Ad))<;>cases B:FO F
  all_goals simp only[f,B,bq,Agp,AfT,rb,reduceCtorEq] at d i
  all_goals simp only[push_cast,seval,rq,l,v,w,x,y,o,a,Aul,AfJ,An6,AaT,f]
  all_goals repeat' (first|(((first|apply Ac|apply Af|apply Ag)<;>intro _h)<;>simp only[push_cast,seval,rq,_h,l,v,w,x,y,o,a,Aul,AfJ,An6,AaT,f])|((first|refine Ab (by exact z) ?_|refine Ab (by exact i) ?_|refine As (by simp only[Aaf,Aa8,Adu,Am]<;>omega) ?_);simp only[push_cast,seval,rq,l,v,w,x,y,o,a,Aul,AfJ,An6,AaT,f])|intro _)
  .subst d;refine Ai ?_;simp[push_cast,get,HM]
  .rw[DO];have j:T.length<R.length:=by
    rcases AxT T.length R.length with h|h
    .exact h
    .exact absurd (show F=[] from q (by omega)) (by simpa using f)
   exact⟨_,_,j,Aj.refl,_,_,T,out++[F],rfl,by rw[KE _ R.length T _ (by omega) j];exact d,by omega,by simp;omega,by simp only;omega,rfl⟩
  .exact⟨_,_,show p.length<R.length by omega,Aj.refl,_,id,p,out,rfl,by rw[KE _ R.length p _ (by omega) (by omega),<-a];exact d,by omega,by omega,by omega,rfl⟩
  .exact⟨_,_,show p.length<R.length by omega,Aj.refl,_,id,p,out,rfl,by rw[KE _ R.length p _ (by omega) (by omega),<-a];exact d,by omega,by omega,by omega,rfl⟩
theorem Xe(l:List Ad)(T:l≠[])(H:l.length<=2^20)(h1:∀f∈l,1<=f.length):An π O 223 [.sl (l.map V.s)] [] (.tup [.s (G5 l).1,.b (G5 l).2]) []:=by
 generalize hS:G5 l=S;unfold G5 Lr at hS;refine Ah (vs:=[.s S.1,.b S.2]) Akm (by simp) (by simp) λn0 N=>?_;clear N;simp only[push_cast,seval,rq]
 repeat' (first|(((first|apply Ac|apply Af|apply Ag)<;>intro _h)<;>simp only[push_cast,seval,rq,_h])|(refine As (by simp only[Aaf,Aa8,Adu,Am]<;>omega) ?_;simp only[push_cast,seval,rq])|intro _)
 rename_i k1 k2 k3;generalize n0+1+k1+1+k2+1+k3=W;refine Ak l.length (Inv:=λm st=>∃dn a n id,l=dn++a/\m=a.length/\W<=n/\id.1<n/\st=⟨[(4,.arr id),(8,.sl (l.map V.s)),(9,.i .i64 l.length),(10,.i .i64 dn.length)],[(id,.arr 9 1 ((dn.map λf=>f.take 1).map V.s))],n⟩) ⟨_,(Aj.own (s:=4) (e:=9) (sz:=1) (k:=0) rfl).trans (Aj.envD (env':=[(4,.arr (W,0)),(8,.sl (l.map V.s)),(9,.i .i64 l.length),(10,.i .i64 0)]) (λt=>?_) (AfJ _)),[],l,_,(W,0),rfl,rfl,Aw0 _,Adx _,rfl⟩ ?_
 .left;simp only[get];by_cases h:4=t
  .subst h;simp
  .simp[h]
 rintro m _ ⟨dn,a,n,id,u,rfl,hn,F,rfl⟩;cases a with
 | nil=>
  have ag:decide ((dn.length:Int)<(l.length:Int))=false:=by rw[u];simp
  have L:dn=l:=by rw[u];simp
  rw[L];clear u;have D:(l.map λf=>f.take 1).length=l.length:=by simp
  have o:(l.map λf=>f.take 1)≠[]:=by simpa using T
  have z:decide ((l.length:Int)<(l.length:Int))=false:=by simp
  rw[<-D] at hS⊢;obtain⟨G,w⟩:∃G,G=l.map λf=>f.take 1:=⟨_,rfl⟩
  rw[<-w] at hS D o⊢;have I:=AbR O G id o (by omega);have j:(G.mergeSort λx y=>decide (x<=y)).length=G.length:=List.length_mergeSort ..;have r:(G.mergeSort λx y=>decide (x<=y))≠[]:=by intro h;rw[h] at j;simp at j;exact o (by simpa using j.symm)
  have A:∀l∈(G.mergeSort λx y=>decide (x<=y)),l∈G:=λl H=>by simpa using H
  generalize(G.mergeSort λx y=>decide (x<=y))=Q at *;have K:=Ld Q;rw[j] at K;have B:∀l∈Lib.compact Q,l.length<=1:=by intro l H;have:=A l (Lg H);rw[w] at this;obtain⟨f,_,rfl⟩:=Awt.1 this;simp;omega
  have hj:=xQ O (Lib.compact Q) [] (by have:=Jg [] 1 0 (by simp) (Lib.compact Q) B;omega);clear A w B;have hc:=jV O Q id r (by omega);have hx:=NA O Q;simp only[push_cast,seval,rq,z];intro k;refine Nz I (λp hp=>by cases hp) ?_;simp only[push_cast,seval,rq,z];intro k2;refine PX hc (λ_ _ h=>h) ?_;rw[Db];simp only[push_cast,seval,rq,z];intro k3;have E:((n+1+k+1+k2,23):Id)≠id:=λC=>by rw[<-C] at F;simp only at F;omega
  refine AY (NA O Q _ r (by omega)) (λi e h=>by
   simp only[lk] at h⊢;split at h
   .rename_i Z;rw[Aiv Z];exact h
   .cases h) (λn2 v σo af hR=>?_)
  obtain⟨g,i1,i2,rfl,rfl⟩:=hR;have U:over [((n+1+k+1+k2,23),Be.arr 9 1 (List.map V.s Q))] [(g,Be.arr 9 1 (List.map V.s (Lib.compact Q)))] [((n+1+k+1+k2,23),Be.arr 9 1 (List.map V.s Q)),(id,Be.arr 9 1 (List.map V.s Q))]=[(g,Be.arr 9 1 (List.map V.s (Lib.compact Q))),(id,Be.arr 9 1 (List.map V.s Q))]:=by have:=Jz (σi:=[((n+1+k+1+k2,23),Be.arr 9 1 (List.map V.s Q))]) (σo:=[(g,Be.arr 9 1 (List.map V.s (Lib.compact Q)))]) (pre:=[]) (post:=[(id,Be.arr 9 1 (List.map V.s Q))]) (λp hp=>by cases hp) (λp hp q I=>by simp at hp I;subst hp I;exact AsR E);simpa using this
  rw[U];have c:(id=g)=False:=Amp λC=>by rw[C] at F;omega
  have d:(g=id)=False:=Amp λC=>by rw[<-C] at F;omega
  simp only[push_cast,seval,rq,c,d];intro k4;refine GZ (Aj.frzAt (s:=7) (id:=g) rfl (by simp only[lk,c,AfT]) (iI (Lib.compact Q)) (AfJ _)) ?_;simp only[push_cast,seval,rq,c,d]
  repeat' (first|(((first|apply Ac|apply Af|apply Ag)<;>intro _h)<;>simp only[push_cast,seval,rq,_h,c,d])|((first|refine Ab (by exact hj) ?_|refine As (by simp only[Aaf,Aa8,Adu,Am]<;>omega) ?_);simp only[push_cast,seval,rq,c,d])|intro _)
  have J:(((Lib.compact Q).length:Int)==(Q.length:Int))=((Lib.compact Q).length==G.length):=by rw[j,Axn];simp;omega
  subst hS;refine Ai ?_;simp[push_cast,get,J]
 | cons f a=>
  have ac:=Ay u;have M:=h1 f (by rw[u];simp);have X:(dn.length+1<=AM)=True:=Amy (by unfold AM;omega);have Y:(1<=f.length)=True:=Amy M;simp only[push_cast,seval,rq,u,Aa f (dn:=dn) (by omega),X,Y,Aul,AfJ,An6,AaT]
  repeat' (first|(((first|apply Ac|apply Af|apply Ag)<;>intro _h)<;>simp only[push_cast,seval,rq,_h,u,Aa f (dn:=dn) (by omega),X,Y,Aul,AfJ,An6,AaT])|(refine As (by simp only[Aaf,Aa8,Adu,Am]<;>omega) ?_;simp only[push_cast,seval,rq,u,Aa f (dn:=dn) (by omega),X,Y,Aul,AfJ,An6,AaT])|intro _)
  rw[DO,DO (λf:Ad=>List.take 1 f)];exact⟨_,_,Adx _,Aj.refl,dn++[f],a,_,_,by simp,rfl,by omega,by simp only;omega,rfl⟩
theorem Rp:∀(a) (r) (out w),C4 a r out=some w->(∀f∈out,1<=f.length)->w≠[]/\w.length<=out.length+a.length/\∀f∈w,1<=f.length:=by
 intro a
 induction a with
 | nil=>intro r out w h b;rw[C4] at h;grind
 | cons k a c=>
  intro r out w h b;rw[C4] at h;split at h
  .grind
  .rename_i i;split at h
   .obtain⟨d,e,g⟩:=c _ _ _ h (λf j=>by grind
)
    grind
   .cases h
theorem GQ{s w}(h:Cx s=some w):w≠[]/\w.length<=4/\∀f∈w,1<=f.length:=by have:=Rp kinds4 s [] w h (by simp);simpa[kinds4] using this
theorem ZW:∀(n) (p) (out g),CF n p out=some g->(∀f∈out,1<=f.length)->g.length<=out.length+p.length/\∀f∈g,1<=f.length:=by
 intro n
 induction n with
 | zero=>intro p out g h;cases h
 | succ n e=>
  intro p out g h d;have a:=Fv p letters52;rw[CF] at h;split at h
  .grind
  .split at h
   .grind
   .rename_i c;split at h
    .have b:(Lib.trimLeftS p letters52).length<p.length:=by
      rcases AxT (Lib.trimLeftS p letters52).length p.length with h|h
      .exact h
      simp_all
     grind
    .cases h
theorem lS{s g}(h:H4 s=some g):g.length<=s.length/\∀f∈g,1<=f.length:=by have:=ZW _ s [] g h (by simp);simpa using this
theorem AbH(h p:Ad)(j:h.length<=2^30)(r:p.length<=2^20):An π O 190 [.s h,.s p] [] (.b (Ec h p)) []:=by
 have d:=Nm O h j;have c:=AiT O p (by omega);generalize hS:Ec h p=S;unfold Ec at hS;cases k:Cx h with
 | none=>
  rw[k] at d hS;simp only[HM,Py,Aya,Agw,AfT] at d;refine Ah (vs:=[.b S]) PS (by simp) (by simp) λn0 a=>?_;clear a;simp only[push_cast,seval,rq];cases f:H4 p with
  | none=>
   rw[f] at c hS;simp only[HM,Aya] at c
   all_goals ((try simp only[bq,Agp,AfT,rb,reduceCtorEq] at hS);subst hS)
   all_goals (try simp only[push_cast,seval,rq])
   all_goals (repeat' (first|((first|refine Ab (by exact d) ?_|refine Ab (by exact c) ?_|refine As (by simp only[Aaf,Aa8,Adu,Am]<;>omega) ?_);(try simp only[push_cast,seval,rq]))|intro _))
   all_goals (first|(refine Ae ?_;simp[get];done)|(refine Ai ?_;simp[push_cast,get];done)|skip)
  | some g=>
   rw[f] at c hS;simp only[HM,AvN] at c
   all_goals ((try simp only[bq,Agp,AfT,rb,reduceCtorEq] at hS);subst hS)
   all_goals (try simp only[push_cast,seval,rq])
   all_goals (repeat' (first|((first|refine Ab (by exact d) ?_|refine Ab (by exact c) ?_|refine As (by simp only[Aaf,Aa8,Adu,Am]<;>omega) ?_);(try simp only[push_cast,seval,rq]))|intro _))
   all_goals (first|(refine Ae ?_;simp[get];done)|(refine Ai ?_;simp[push_cast,get];done)|skip)
 | some w=>
  rw[k] at d hS;simp only[HM,Py,AvN,Agp] at d;obtain⟨m,a2,a3⟩:=GQ k;have k1:=Xe O w m (by omega) a3;cases f:H4 p with
  | none=>
   rw[f] at c hS;simp only[HM,Aya] at c;refine Ah (vs:=[.b S]) PS (by simp) (by simp) λn0 a=>?_;clear a;simp only[push_cast,seval,rq]
   all_goals ((try simp only[bq,Agp,AfT,rb,reduceCtorEq] at hS);subst hS)
   all_goals (try simp only[push_cast,seval,rq])
   all_goals (repeat' (first|((first|refine Ab (by exact d) ?_|refine Ab (by exact c) ?_|refine As (by simp only[Aaf,Aa8,Adu,Am]<;>omega) ?_);(try simp only[push_cast,seval,rq]))|intro _))
   all_goals (first|(refine Ae ?_;simp[get];done)|(refine Ai ?_;simp[push_cast,get];done)|skip)
  | some g=>
   rw[f] at c hS;simp only[HM,AvN] at c;obtain⟨q,o⟩:=lS f;by_cases i:g=[]
   .subst i;simp only[Asz] at c;refine Ah (vs:=[.b S]) PS (by simp) (by simp) λn0 a=>?_;clear a;simp only[push_cast,seval,rq]
    all_goals ((try simp only[bq,Agp,AfT,rb,reduceCtorEq] at hS);subst hS)
    all_goals (try simp only[push_cast,seval,rq])
    all_goals (repeat' (first|((first|refine Ab (by exact d) ?_|refine Ab (by exact c) ?_|refine As (by simp only[Aaf,Aa8,Adu,Am]<;>omega) ?_);(try simp only[push_cast,seval,rq]))|intro _))
    all_goals (first|(refine Ae ?_;simp[get];done)|(refine Ai ?_;simp[push_cast,get];done)|skip)
   .have k2:=Xe O g i (by omega) o;have e:((g.length:Int)==0)=false:=by cases g with|nil=>exact absurd rfl i|cons=>simp;omega
    have l:(g.length==0)=false:=by cases g with|nil=>exact absurd rfl i|cons=>simp
    simp only[l] at hS;refine Ah (vs:=[.b S]) PS (by simp) (by simp) λn0 a=>?_;clear a;simp only[push_cast,seval,rq,e];cases j:(G5 g).2
    all_goals simp only[j] at k2 hS
    all_goals ((try simp only[bq,Agp,AfT,rb,reduceCtorEq] at hS);subst hS)
    all_goals (try simp only[push_cast,seval,rq,e])
    all_goals (repeat' (first|((first|refine Ab (by exact d) ?_|refine Ab (by exact c) ?_|refine Ab (by exact k1) ?_|refine Ab (by exact k2) ?_|refine As (by simp only[Aaf,Aa8,Adu,Am]<;>omega) ?_);(try simp only[push_cast,seval,rq,e]))|intro _))
    all_goals (first|(refine Ae ?_;simp[get];done)|(refine Ai ?_;simp[push_cast,get];done)|skip)
end Go.Ir
section
namespace Go.Ir
section tree
variable{P:Al→Prop}{Q:List Al→Prop}{R:List AR→Prop}
theorem vV(hp:∀p:Al,R p.cases->Q p.parts->P p)(e:Q [])(q1:∀p ps,P p->Q ps->Q (p::ps))(f:R [])(i:∀(c) (cs),Q c.2->R cs->R (c::cs)) :
  ∀N,(∀p:Al,p.wt<N->P p)/\(∀ps,AV ps<N->Q ps)/\(∀cs,DY cs<N->R cs):=by
 intro N
 induction N with
 | zero=>grind
 | succ N g=>
  have b:∀p:Al,p.wt<N+1->P p:=λp h=>by rw[p.wt_eq] at h;grind
  have d:∀ps,AV ps<N+1->Q ps:=by
   intro ps
   induction ps with
   | nil=>intro _;exact e
   | cons p ps a=>intro h;rw[Bw] at h;grind
  refine⟨b,d,λcs=>?_⟩
  induction cs with
  | nil=>intro _;exact f
  | cons c cs a=>intro h;rw[B8] at h;grind
theorem Nn(hp:∀p:Al,R p.cases->Q p.parts->P p)(a:Q [])(q1:∀p ps,P p->Q ps->Q (p::ps))(b:R [])(d:∀(c) (cs),Q c.2->R cs->R (c::cs)) ps:Q ps:=
 (vV hp a q1 b d _).2.1 ps (Adx _)
end tree
theorem EK k:Bk k=true↔k=7\/k=8\/k=9:=by unfold Bk;simp;omega
theorem Av5{a:Type}{l:List a}(h:((l.length:Int)==0)=true):l=[]:=by simp_all
theorem Jh p c (b:(p.kind==11)=false)(d:Bk p.kind=false):Nw p c=(p.fieldsB&&!(p.kind==10&&!c)):=by
 have ⟨k,t,nm,st,cs,ps⟩:=p;simp only at b d;have f:(k==7)=false/\(k==8)=false/\(k==9)=false:=by
  have:¬(k=7\/k=8\/k=9):=λh=>by rw[(EK k).2 h] at d;cases d
  simp;omega
 have ⟨f,h8,h9⟩:=f;unfold Nw jL wT wN wS Al.fieldsB AG;simp only;have r:(t==t)=true:=by simp
 have q:(nm==nm)=true:=by simp
 have e:(st==st)=true:=by simp
 by_cases g:k=1
 .subst g;grind
 by_cases a:k=10
 .subst a;grind
 by_cases i:k=2
 .subst i;grind
 by_cases j:k=3
 .subst j;simp only[bq,Agp,AfT,rb,q,e,Gu];grind
 by_cases l:k=4
 .subst l;grind
 by_cases m:k=5
 .subst m;grind
 by_cases o:k=6
 .subst o;grind
 grind
theorem WZ(n:Nat):decide ((n:Int)>0)=!((n:Int)==0):=by grind
theorem Adm{k}(h:Bk k=true):AhK k=(k !=9):=by rcases(EK k).1 h with rfl|rfl|rfl<;>rfl
theorem RE ps:∀d c a l,(Ch ps d c a l).1=B3 ps (d+1) c a:=by
 refine Nn (P:=λp=>∀d c l,((p.fieldsB&&!(p.kind==10&&!c))&&(p.chk d c l).1)=p.formedB (d+1) c)
  (Q:=λps=>∀d c a l,(Ch ps d c a l).1=B3 ps (d+1) c a)
  (R:=λcs=>∀k d c n seen l,Bk k=true->(Fj cs k d c n seen l).1=(decide ((n:Int)<=20)&&BX cs k d c seen)) ?_ ?_ ?_ ?_ ?_ ps
 .intro p v o d c l;rw[p.chk_eq,p.formedB_eq];by_cases g:p.kind=11
  .have i:Bk p.kind=false:=by rw[g];rfl
   have f:(p.kind==11)=true:=by simpa using g
   have h:=o (d+1) c false l;simp only[f,i,Agp,AfT,Agw];have u:p.fieldsB=(BN p.name&&(p.text==[]&&(p.style==[]&&((p.cases.length:Int)==0)))):=by unfold Al.fieldsB AG;rw[g];simp
   have j:(p.kind==10)=false:=by rw[g];rfl
   have t:decide (d+1>8)=decide (d>=8):=by simp;omega
   have s:=WZ p.cases.length;rw[u,j];unfold QR;rw[t,s,<-h];generalize BN p.name=m;generalize(p.text==[])=a2;generalize(p.style==[])=a3;generalize((p.cases.length:Int)==0)=a4;cases decide (d>=8) with
   | true=>cases m<;>cases a2<;>cases a3<;>cases a4<;>rfl
   | false=>simp only[Agw,AfT];generalize Ch p.parts (d+1) c false l=r;grind
  .have f:(p.kind==11)=false:=by simpa using g
   simp only[f,AfT,Agw];cases i:Bk p.kind with
   | true=>
    have h:=v p.kind (d+1) c p.cases.length [] l i;have u:p.fieldsB=(BN p.name&&(p.text==[]&&(p.style==[]&&((p.parts.length:Int)==0)))):=by unfold Al.fieldsB AG;rcases(EK _).1 i with e|e|e<;>(rw[e];simp)
    have j:(p.kind==10)=false:=by rcases(EK _).1 i with e|e|e<;>(rw[e];rfl)
    have t:decide (d+1>8)=decide (d>=8):=by simp;omega
    have s:=WZ p.parts.length;have q:decide ((p.cases.length:Int)>20)=!decide ((p.cases.length:Int)<=20):=by grind
    have z:decide ((p.cases.length:Int)<1)=true->BX p.cases p.kind (d+1) c []=false:=by intro y;have:p.cases=[]:=List.length_eq_zero_iff.1 (by simp at y;omega);rw[this];simp[BX]
    rw[u,j];unfold LU;rw[t,s,q];simp only[Agp];generalize BN p.name=m;generalize(p.text==[])=a2;generalize(p.style==[])=a3;generalize((p.parts.length:Int)==0)=a4;generalize decide ((p.cases.length:Int)<1)=a5 at *;generalize BX p.cases p.kind (d+1) c []=F at *;generalize decide ((p.cases.length:Int)<=20)=w at *;cases decide (d>=8) with
    | true=>cases m<;>cases a2<;>cases a3<;>cases a4<;>rfl
    | false=>
     simp only[Agw,AfT];generalize Fj p.cases p.kind (d+1) c p.cases.length [] l=r at *;have ⟨b,l1⟩:=r;simp only at h;subst h;cases a5 with
     | true=>grind
     | false=>cases F<;>cases m<;>cases a2<;>cases a3<;>cases a4<;>cases w<;>rfl
   | false=>simp only[AfT,Agw];rw[Jh p c f i];simp
 .intro d c a l;rfl
 .intro p ps hp o d c a l;rw[Nb,BO,<-hp d c l];grind
 .intro k d c n seen l _;simp[Fj,BX]
 .intro x cs o v k d c n seen l i;rw[Mv,E5,Adm i,<-o d (c||(k !=9)) false l];generalize(!Lx k x.1||seen.contains x.1)=m;generalize Ch x.2 d (c||(k !=9)) false l=r;grind
def P9(l a m:List Ad):Prop:=(∀x,x∈a↔x∈l\/x∈m)/\(l.Nodup->a.Nodup)
theorem P9.refl l:P9 l l []:=⟨λx=>by simp,λh=>h⟩
theorem P9.trans{a b c m n}(h:P9 a b m)(k:P9 b c n):P9 a c (m++n):=
 ⟨λx=>by rw[k.1,h.1];simp[or_assoc],λd=>k.2 (h.2 d)⟩
theorem P9.same{a b m n}(h:P9 a b m)(c:∀x,x∈m↔x∈n):P9 a b n:=⟨λx=>by rw[h.1,c],h.2⟩
theorem Qv{p:Al}(h:p.fieldsB=true):(Bk p.kind=false->p.cases=[])/\((p.kind==11)=false->p.parts=[])/\(p.kind==11||Bk p.kind->p.text=[]/\p.style=[]):=by
 have ⟨k,t,nm,st,cs,ps⟩:=p;unfold Al.fieldsB AG at h;simp only at h⊢;have e:∀j:Int,k≠j->(k==j)=false:=λj h=>by simpa using h
 have nil:∀{f:Type} (l:List f),((l.length:Int)==0)=true->l=[]:=λl h=>Av5 h;by_cases k1:k=1
 .subst k1;simp only[rb,Agp,AcR] at h;exact⟨λ_=>nil _ h.2.2.2.1,λ_=>nil _ h.2.2.2.2,λc=>by cases c⟩
 by_cases k10:k=10
 .grind
 rw[e 1 k1,e 10 k10] at h;simp only[Agw,AfT,AcR] at h;have ⟨hn,ht,h⟩:=h;by_cases k2:k=2
 .grind
 by_cases QA:k=11
 .grind
 rw[e 2 k2,e 11 QA] at h;simp only[Agw,AfT] at h;by_cases a:Bk k=true
 .have b:(k==7||k==8||k==9)=true:=by rcases(EK k).1 a with rfl|rfl|rfl<;>rfl
  grind
 .have d:Bk k=false:=by simpa using a
  have g:k≠7/\k≠8/\k≠9:=⟨λe=>a ((EK k).2 (.inl e)),λe=>a ((EK k).2 (.inr (.inl e))),λe=>a ((EK k).2 (.inr (.inr e)))⟩
  grind
theorem YJ{a b:List Ad}(c:a.Nodup)(h:∀x∈a,x∈b):a.length<=b.length:=by
 induction a generalizing b with
 | nil=>simp
 | cons x a d=>
  rw[Ayl] at c;have e:x∈b:=h x (by simp);have:=d (b:=b.erase x) c.2 λy f=>by grind
  grind
end Go.Ir
end
namespace Go.Ir
structure WfP (p:Al):Prop where
 keys:Bk p.kind=true->∀c∈p.cases,Lx p.kind c.1=true
 other:Bk p.kind=true->∃c∈p.cases,c.1=Cb
 cases0:Bk p.kind=false->p.cases=[]
 parts0:(p.kind==11)=false->p.parts=[]
 elem:(p.kind==11)=true->p.text=[]/\p.style=[]
 name:Bk p.kind=true->p.name.length<=40
theorem Z7{s}(h:BN s=true):s.length<=40:=by
 cases s with
 | nil=>simp
 | cons c r=>unfold BN at h;grind
theorem Kj{p c}(a:(p.kind==11)=false)(b:Bk p.kind=false)(h:Nw p c=true):p.fieldsB=true:=by rw[Jh p c a b,AcR] at h;exact h.1
theorem O1 ps:∀d c b,B3 ps d c b=true->Cs WfP ps:=by
 refine Nn (P:=λp=>∀d c,p.formedB d c=true->p.all WfP)
  (Q:=λps=>∀d c b,B3 ps d c b=true->Cs WfP ps)
  (R:=λcs=>∀k d c a,BX cs k d c a=true->DH WfP cs/\(∀x∈cs,Lx k x.1=true)/\(a.contains Cb=true\/∃x∈cs,x.1=Cb)) ?_ ?_ ?_ ?_ ?_ ps
 .intro p j i d c h;rw[p.formedB_eq] at h;rw[p.all_eq];cases e:p.kind==11 with
  | true=>
   have g:Bk p.kind=false:=by
    have:p.kind=11:=by simpa using e
    rw[this];rfl
   rw[e,Aiv rfl,AcR] at h;have ⟨h1,h2⟩:=h;unfold QR at h1;simp at h1;have m:p.cases=[]:=by simpa using h1.2
   refine⟨⟨λf=>(by grind),λf=>(by grind),λ_=>m,λf=>(by grind),λ_=>⟨h1.1.1.2,h1.1.2⟩,λf=>(by grind)⟩,?_,i _ _ _ h2⟩;rw[m];simp only[DH]
  | false=>
   rw[e,Amt (by simp)] at h;cases g:Bk p.kind with
   | true=>
    rw[g,Aiv rfl,AcR] at h;have ⟨h1,h2⟩:=h;unfold LU at h1;simp at h1;have hp:p.parts=[]:=by simpa using h1.1.1.2
    have ⟨a1,a2,a3⟩:=j _ _ _ _ h2;refine⟨⟨λ_=>a2,λ_=>?_,λf=>(by grind),λ_=>hp,λf=>(by grind),λ_=>Z7 h1.1.1.1.1.1.2⟩,a1,?_⟩
    .grind
    .rw[hp];simp only[Cs]
   | false=>
    rw[g,Amt (by simp)] at h;have ⟨f1,f2,f3⟩:=Qv (Kj e g h);refine⟨⟨λf=>(by grind),λf=>(by grind),f1,f2,λf=>(by grind),λf=>(by grind)⟩,?_,?_⟩
    .rw[f1 g];simp only[DH]
    .rw[f2 e];simp only[Cs]
 .intro d c b _;simp only[Cs]
 .intro p ps hp i d c b h;rw[BO,AcR,AcR] at h;rw[CV];grind
 .intro k d c a h;refine⟨by simp only[DH],λx q=>(by cases q),.inl ?_⟩;simpa only[BX] using h
 .intro x cs i j k d c a h;rw[E5,AcR,AcR] at h;have ⟨h0,h1,h2⟩:=h;have ⟨a1,a2,a3⟩:=j _ _ _ _ h2;have r:Lx k x.1=true:=by grind
  rw[GI];refine⟨⟨i _ _ _ h1,a1⟩,λy o=>?_,?_⟩
  .grind
  .rcases a3 with a3|⟨y,o,l⟩
   .have:Cb∈a\/Cb=x.1:=by simpa using a3
    rcases this with h|h
    .left;simpa using h
    .right;exact⟨x,by simp,h.symm⟩
   .right;exact⟨y,by simp[o],l⟩
def Uk(L:List GW)(p:Al):Prop:=Bk p.kind=true->¬Iz L p.kind p.name<0
theorem Uk.mono{L a}(h:Ez L a){p}(hp:Uk L p):Uk a p:=λb=>by have:=hp b;rw[Zt h _ _ this];exact this
def KS(G:Int->Ad->Prop)(l:List GW):Prop:=∀s∈l,∀k∈s.keys,G s.kind k
theorem KS.mod{G l}(h:KS G l){j key s}(d:l[j]?=some s)(g:G s.kind key):KS G (l.modify j (G6 key)):=by
 intro t m k a;have ⟨i,hi⟩:=List.getElem?_of_mem m;rw[AzL] at hi;by_cases f:j=i
 .subst f;rw[d] at hi;have e:G6 key s=t:=by simpa using hi
  subst e;have c:=Au8 d;unfold G6 at a⊢;split at a
  .rename_i b;rw[Aiv b];exact h s c k a
  .rename_i b;rw[Amt b];simp only[Am5,Az7] at a;rcases a with a|rfl
   .exact h s c k a
   .exact g
 .have:l[i]?=some t:=by
   grind
  exact h t (Au8 this) k a
theorem KS.add{G l}(h:KS G l) k n:KS G (Vt l k n):=by
 unfold Vt;split
 .intro s a k b;rcases Am5.1 a with a|a
  .exact h s a k b
  grind
 .exact h
theorem KS.nil G:KS G []:=λs a=>by cases a

structure Au6 (p:Al):Prop where
 sel:Bk p.kind=false
 ten:(p.kind==10)=false
 cs:p.cases=[]
structure AwR (l:List GW):Prop where
 nm:∀s∈l,Bk s.kind=true/\BN s.name=true
 nd:(l.map fun s=>(s.kind,s.name)).Nodup
 ks:∀s∈l,s.keys.Nodup

structure AuR (l:Loc) (ps:List Al) (F:cW):Prop where
 sound:AjC F=true
 some:0<F.2.length
 bare:∀v∈F.2,Cs Au6 v/\AV v<=2^19/\(Fs v=true->Arn l v=(([],[v]),0))
 only:LC ps=true->F.2=[ps]
 nm:∀s∈F.1,s.name.length<=40

end Go.Ir

namespace Go.Ir
open Go.Proofs
variable{P:Program}{O:World}{nt n:Nat}{Q:Exit→St→Prop}{env:Bm}{σ:Au}
end Go.Ir

namespace Go.Ir
open Go.Proofs
variable(O:World)

abbrev Ast:=Ad×List Al
def Asr(l:Ast):V:=.agg [.s l.1,.sl (l.2.map Al.enc)]
def Aax(n:Nat):Ad:=Lib.decDigits n

end Go.Ir

namespace Go.Ir
open Go.Proofs
variable{P:Program}{O:World}{nt n:Nat}{Q:Exit→St→Prop}{env:Bm}{σ:Au}
end Go.Ir

namespace Go.Ir
open Go.Proofs
variable(O:World)
end Go.Ir
section
namespace Go.Ir
abbrev Zv:=List (List Al)
mutual
def Al.bld:Al->Zv->Al×Zv
 | ⟨k,t,n,s,cs,ps⟩,l=>if Bk k then(⟨k,t,n,s,(Yx cs l).1,ps⟩,(Yx cs l).2) else(⟨k,t,n,s,cs,l.headD []++(TI ps l.tail).1⟩,(TI ps l.tail).2)
def TI:List Al->Zv->List Al×Zv
 | [],l=>([],l)
 | p::ps,l=>((p.bld l).1::((p.bld l).2.headD []++(TI ps (p.bld l).2.tail).1),(TI ps (p.bld l).2.tail).2)
def Yx:List (Ad×List Al)->Zv->List (Ad×List Al)×Zv
 | [],l=>([],l)
 | (k,ps)::cs,l=>((k,l.headD []++(TI ps l.tail).1)::(Yx cs (TI ps l.tail).2).1,(Yx cs (TI ps l.tail).2).2)
end
end Go.Ir
end
namespace Go.Ir
end Go.Ir
section
namespace Go.Ir
structure WfK (p:Al):Prop where
 bare:Bk p.kind=true->p.text=[]/\p.style=[]
 nodup:Bk p.kind=true->(p.cases.map (·.1)).Nodup
theorem ofNat_toNat{n:Nat}(h:n<256):(UInt8.ofNat n).toNat=n:=by simp_all
mutual
def Al.fil(A:Ad->List Al):Al->Ad->Al
 | ⟨k,_,n,_,cs,ps⟩,a=>⟨k,[],n,[],Ahf A cs a,if k==11 then A (a++[47]++Aax 0)++AlE A ps (a++[47]) 0 else[]⟩
def AlE(A:Ad->List Al):List Al->Ad->Nat->List Al
 | [],_,_=>[]
 | p::ps,a,n=>p.fil A (a++Aax (n+1))::(A (a++Aax (n+1))++AlE A ps a (n+1))
def Ahf(A:Ad->List Al):List (Ad×List Al)->Ad->List (Ad×List Al)
 | [],_=>[]
 | (k,ps)::cs,a=>(k,A (a++[47]++k++[47]++Aax 0)++AlE A ps (a++[47]++k++[47]) 0)::Ahf A cs a
end
end Go.Ir
end
section
namespace Go.Ir
mutual
def Al.cnt:Al->Nat
 | ⟨k,_,_,_,cs,ps⟩=>if Bk k then AdM cs else 1+AhH ps
def AhH:List Al->Nat
 | []=>0
 | p::ps=>p.cnt+(1+AhH ps)
def AdM:List (Ad×List Al)->Nat
 | []=>0
 | (_,ps)::cs=>1+AhH ps+AdM cs
end
end Go.Ir
end
namespace Go.Ir
open Go.Proofs
variable{P:Program}{O:World}{nt n:Nat}{Q:Exit→St→Prop}{env:Bm}{σ:Au}
end Go.Ir

namespace Go.Ir
open Go.Proofs
variable(O:World)
def bx(l:List Ast):Be:=.box (.agg [.sl (l.map Asr)])
theorem Yi{b E e i}(h:lk [(b,E)] i=some e):i=b/\e=E:=by simp only[lk] at h;grind
def Iu(m:T9):List (V×V):=m.map λe=>(.s e.1,.i .i64 e.2)
theorem Rj k m:∀n,(∃i v,DE m k=some v/\Bp .str (.s k) (Iu m) n=some (some (n+i,.i .i64 v))/\∀x:Int,(Iu m).modify i (λe=>(e.1,.i .i64 x))=Iu (Lz m k x))\/(DE m k=none/\Bp .str (.s k) (Iu m) n=some none/\∀x:Int,Iu m++[(.s k,.i .i64 x)]=Iu (Lz m k x)):=by
 induction m with
 | nil=>intro n;exact .inr ⟨rfl,rfl,λx=>rfl⟩
 | cons e m f=>
  intro n;have d:Bp .str (.s k) (Iu (e::m)) n=(match EH .str (.s k) (.s e.1) with
   | some true=>some (some (n,.i .i64 e.2))
   | some false=>Bp .str (.s k) (Iu m) (n+1)
   | none=>none):=rfl
  have c:EH .str (.s k) (.s e.1)=some (k==e.1):=rfl;rw[d,c];simp only[DE,Lz];by_cases h:e.1=k
  .subst h;refine .inl ⟨0,e.2,by simp,by simp,λx=>by simp[Iu]⟩
  .have b:(k==e.1)=false:=by simpa using AsR h
   have a:(e.1==k)=false:=by simpa using h
   rw[b,a];rcases f (n+1) with⟨i,v,h1,h2,h3⟩|⟨h1,h2,h3⟩
   .refine .inl ⟨i+1,v,by simpa using h1,?_,λx=>?_⟩
    .grind
    .have:=h3 x;show(Iu (e::m)).modify (i+1) _=_;simp only[Iu,Am1,List.modify_succ_cons,Agw,AfT] at this⊢;rw[this]
   .refine .inr ⟨by simpa using h1,by simpa using h2,λx=>?_⟩;have:=h3 x;simp only[Iu,Am1,AsT,Agw,AfT] at this⊢;rw[this]
theorem vX y:An π O 220 [.i .i64 y] [] (.b (Ki y)) []:=by
 generalize hS:Ki y=S;unfold Ki at hS;refine Ah (vs:=[.b S]) Akf (by simp) (by simp) λn0 e=>?_;clear e;simp only[push_cast,seval,rq];cases a:(y.tmod 4==0)<;>cases c:(y.tmod 100==0)<;>cases d:(y.tmod 400==0)
 all_goals simp only[a,c,d,bne,bq,Agp,AfT,rb,reduceCtorEq,Amo,Ain,AmS,Am0,Atc,AsM] at hS
 all_goals subst hS
 all_goals simp only[push_cast,seval,rq,a,c,d,bne]
 all_goals repeat' (first|(((first|apply Ac|apply Af|apply Ag)<;>intro _h)<;>simp only[push_cast,seval,rq,_h,a,c,d,bne])|(refine As (by simp only[Aaf,Aa8,Adu,Am]<;>omega) ?_;simp only[push_cast,seval,rq,a,c,d,bne])|intro _)
 all_goals exact Ae (by simp[get])
theorem Ac8 y:An π O 186 [.i .i64 y] [] (.i .i64 (Ee y)) []:=by
 have h:=vX O y;generalize hS:Ee y=S;unfold Ee at hS;generalize Ki y=B at *;refine Ah (vs:=[.i .i64 S]) AiI (by simp) (by simp) λn0 a=>?_;clear a;simp only[push_cast,seval,rq];cases B
 all_goals ((try simp only[bq,Agp,AfT,rb,reduceCtorEq] at hS);subst hS)
 all_goals (try simp only[push_cast,seval,rq])
 all_goals (repeat' (first|((first|refine Ab (by exact h) ?_|refine As (by simp only[Aaf,Aa8,Adu,Am]<;>omega) ?_);(try simp only[push_cast,seval,rq]))|intro _))
 all_goals (first|(refine Ae ?_;simp[get];done)|(refine Ai ?_;simp[push_cast,get];done)|skip)
theorem Alj y (m:Nat)(f:1<=m)(a:m<=12):An π O 187 [.i .i64 y,.i .i64 m] [] (.i .i64 (Ii y m)) []:=by
 have h:=vX O y;generalize hS:Ii y m=S;unfold Ii at hS;generalize Ki y=B at *;have c:((m:Int)==2)=(m==2):=by rw[Axn];simp;omega
 have d:IntKind.i64.wrap ((m:Int)-1)=((m-1:Nat):Int):=by rw[wrap64 (by omega) (by omega)];omega
 have b:FT (.aget 12 1 false) [.agg [.i .i64 31,.i .i64 28,.i .i64 31,.i .i64 30,.i .i64 31,.i .i64 30,.i .i64 31,.i .i64 31,.i .i64 30,.i .i64 31,.i .i64 30,.i .i64 31],.i .i64 ((m-1:Nat):Int)]=some (.i .i64 (monL.getD (m-1) 0)):=by
  have:m=1\/m=2\/m=3\/m=4\/m=5\/m=6\/m=7\/m=8\/m=9\/m=10\/m=11\/m=12:=by omega
  rcases this with rfl|rfl|rfl|rfl|rfl|rfl|rfl|rfl|rfl|rfl|rfl|rfl<;>rfl
 refine Ah (vs:=[.i .i64 S]) Ajy (by simp) (by simp) λn0 e=>?_;clear e;simp only[push_cast,seval,rq,c,d,b];cases a:(m==2)<;>cases B
 all_goals simp only[a,bq,Agp,AfT,rb,reduceCtorEq,AmS,Am0,Amq,Amr] at hS
 all_goals subst hS
 all_goals simp only[push_cast,seval,rq,c,d,b,a]
 all_goals repeat' (first|(((first|apply Ac|apply Af|apply Ag)<;>intro _h)<;>simp only[push_cast,seval,rq,_h,c,d,b,a])|((first|refine Ab (by exact h) ?_|refine As (by simp only[Aaf,Aa8,Adu,Am]<;>omega) ?_);simp only[push_cast,seval,rq,c,d,b,a])|intro _)
 all_goals exact Ae (by simp[get])
theorem ZZ d (c:Et d=true):An π O 152 [.i .i64 d] [] (.tup [.i .i64 (((d+25567).tmod 7).toNat:Nat),.i .i64 0]) []:=by
 unfold Et at c;simp only[AuH,AyC] at c;obtain⟨a,b⟩:=c;have g:¬d < -25567:=AuU a;have h:¬d>84005:=AuU b;have f:IntKind.i64.wrap (d-(-25567))=d+25567:=by rw[wrap64 (by omega) (by omega)];omega
 have j:(((d+25567).tmod 7).toNat:Int)=(d+25567).tmod 7:=by have:0<=(d+25567).tmod 7:=Int.tmod_nonneg _ (by omega);omega
 rw[j];refine Ah (vs:=[.i .i64 ((d+25567).tmod 7),.i .i64 0]) Ais (by simp) (by simp) λn0 e=>?_;clear e;simp only[push_cast,seval,rq,a,b,f]
 repeat' (first|(((first|apply Ac|apply Af|apply Ag)<;>intro _h)<;>simp only[push_cast,seval,rq,_h,a,b,f])|(refine As (by simp only[Aaf,Aa8,Adu,Am]<;>omega) ?_;simp only[push_cast,seval,rq,a,b,f])|intro _)
 all_goals (refine Ai ?_;simp[push_cast,get])
theorem iZ c:An π O 191 [.i .u8 c.toNat] [] (.b (Dj c)) []:=by
 generalize hS:Dj c=S;unfold Dj at hS;refine Ah (vs:=[.b S]) Ajj (by simp) (by simp) λn0 g=>?_;clear g;simp only[push_cast,seval,rq];cases a:decide ((c.toNat:Int)>=65)<;>cases d:decide ((c.toNat:Int)<=90)<;>cases e:decide ((c.toNat:Int)>=97)<;>cases f:decide ((c.toNat:Int)<=122)
 all_goals simp only[a,d,e,f,bq,Agp,AfT,rb,reduceCtorEq,AmS,Am0,Atc,AsM] at hS
 all_goals subst hS
 all_goals simp only[push_cast,seval,rq,a,d,e,f]
 all_goals repeat' (first|(((first|apply Ac|apply Af|apply Ag)<;>intro _h)<;>simp only[push_cast,seval,rq,_h,a,d,e,f])|(refine As (by simp only[Aaf,Aa8,Adu,Am]<;>omega) ?_;simp only[push_cast,seval,rq,a,d,e,f])|intro _)
 all_goals exact Ae (by simp[get])
theorem Hu y:365<=Ee y/\Ee y<=366:=by unfold Ee;split<;>omega
theorem XC y m (a:1<=m)(b:m<=12):28<=Ii y m/\Ii y m<=31:=by
 have:m=1\/m=2\/m=3\/m=4\/m=5\/m=6\/m=7\/m=8\/m=9\/m=10\/m=11\/m=12:=by omega
 unfold Ii monL;rcases this with rfl|rfl|rfl|rfl|rfl|rfl|rfl|rfl|rfl|rfl|rfl|rfl<;>cases Ki y<;>simp
theorem aY:∀(n m:Nat) (y d:Int),d<=n->d<=m->FY n y d=FY m y d:=by
 intro n
 induction n with
 | zero=>
  intro m y d a b;have c:=Hu y;cases m with
  | zero=>rfl
  | succ m=>rw[FY,FY,Amt (by omega)]
 | succ n e=>
  intro m y d a b;have c:=Hu y;cases m with
  | zero=>grind
  | succ m=>rw[FY,FY];grind
theorem Ack:∀(n:Nat) (y d:Int),0<=d->d<=n->y<=(FY n y d).1/\(FY n y d).1<=y+d/\0<=(FY n y d).2/\(FY n y d).2<Ee (FY n y d).1:=by
 intro n
 induction n with
 | zero=>intro y d f g;have h:=Hu y;rw[FY];grind
 | succ n i=>
  intro y d f g;have h:=Hu y;rw[FY];split
  .have ⟨a,b,c,e⟩:=i (y+1) (d-Ee y) (by omega) (by omega);omega
  .simp only;omega
def Fy(y:Int):Nat->Nat->Int
 | 0,_=>0
 | n+1,m=>Ii y m+Fy y n (m+1)
theorem Rv y:Fy y 12 1=Ee y:=by unfold Fy Fy Fy Fy Fy Fy Fy Fy Fy Fy Fy Fy Fy;unfold Ee Ii monL;cases Ki y<;>simp
theorem Aai y:∀(n m) (d),n+m=13->1<=m->0<=d->d<Fy y n m->m<=(NR y n m d).1/\(NR y n m d).1<=12/\0<=(NR y n m d).2/\(NR y n m d).2<31:=by
 intro n
 induction n with
 | zero=>intro m d c b e a;simp[Fy] at a;omega
 | succ n g=>
  intro m d c b e a;have f:=XC y m b (by omega);rw[Fy] at a;rw[NR];split
  .grind
  omega
theorem Qa{d}(f:Et d=true):1900<=(HC d).1/\(HC d).1<=120000/\1<=(FP d).1/\(FP d).1<=12/\0<=(FP d).2/\(FP d).2<31:=by unfold Et at f;simp only[AuH,AyC] at f;have g:¬d < -25567:=AuU f.1;have h:¬d>84005:=AuU f.2;have ⟨a,b,c,e⟩:=Ack (d+25567).toNat 1900 (d+25567) (by omega) (by omega);have i:HC d=FY (d+25567).toNat 1900 (d+25567):=rfl;rw[<-i] at a b c e;have ⟨a2,b2,c2,e2⟩:=Aai (HC d).1 12 1 (HC d).2 rfl (by omega) c (by rw[Rv];exact e);exact⟨a,by omega,a2,b2,c2,e2⟩
theorem V9 d (b:Et d=true):An π O 149 [.i .i64 d] [] (.tup [.i .i64 (HC d).1,.i .i64 (FP d).1,.i .i64 ((FP d).2+1),.i .i64 0]) []:=by
 have v:=b;obtain⟨q1,q2,q3,J,K,L⟩:=Qa v;unfold Et at b;simp only[AuH,AyC] at b;obtain⟨p,r⟩:=b;have E:¬d < -25567:=AuU p;have F:¬d>84005:=AuU r;have z:IntKind.i64.wrap (d-(-25567))=d+25567:=by rw[wrap64 (by omega) (by omega)];omega
 generalize t:HC d=Y at *;generalize hM:FP d=M at *;have o:FY (d+25567).toNat 1900 (d+25567)=Y:=t;have g:NR Y.1 12 1 Y.2=M:=by rw[<-hM];unfold FP;rw[t]
 refine Ah (vs:=[.i .i64 Y.1,.i .i64 M.1,.i .i64 (M.2+1),.i .i64 0]) eU (by simp) (by simp) λn0 w=>?_;clear w;simp only[push_cast,seval,rq,p,r,z]
 repeat' (first|(((first|apply Ac|apply Af|apply Ag)<;>intro _h)<;>simp only[push_cast,seval,rq,_h,p,r,z])|(refine As (by simp only[Aaf,Aa8,Adu,Am]<;>omega) ?_;simp only[push_cast,seval,rq,p,r,z])|intro _)
 refine Ak (d+25567).toNat (Inv:=λm st=>∃n y x,m=x.toNat/\0<=x/\x<=120000/\1900<=y/\y+x<=130000/\FY x.toNat y x=Y/\st=⟨[(2,.i .i64 y),(3,.i .i64 1),(4,.i .i64 x)],[],n⟩) ⟨_,Aj.refl,_,1900,d+25567,rfl,by omega,by omega,by omega,by omega,o,rfl⟩ ?_;rintro m _ ⟨n,y,x,rfl,A,B,N,S,b,rfl⟩;have u:=Ac8 O y;have C:=Hu y;by_cases f:x>=Ee y
 .have a:decide (x>=Ee y)=true:=by simpa using f
  have e:IntKind.i64.wrap (x-Ee y)=x-Ee y:=by rw[wrap64 (by omega) (by omega)]
  have j:IntKind.i64.wrap (y+1)=y+1:=by rw[wrap64 (by omega) (by omega)]
  simp only[push_cast,seval,rq,e,j]
  repeat' (first|(((first|apply Ac|apply Af|apply Ag)<;>intro _h)<;>simp only[push_cast,seval,rq,_h,e,j,a])|((first|refine Ab (by exact u) ?_|refine As (by simp only[Aaf,Aa8,Adu,Am]<;>omega) ?_);simp only[push_cast,seval,rq,e,j,a])|intro _)
  refine⟨_,_,?_,Aj.refl,_,y+1,x-Ee y,rfl,by omega,by omega,by omega,by omega,?_,rfl⟩
  .omega
  .rw[<-b];obtain⟨q,G⟩:∃q,x.toNat=q+1:=⟨x.toNat-1,by omega⟩
   rw[G,FY,Aiv f];exact aY _ _ _ _ (by omega) (by omega)
 .have a:decide (x>=Ee y)=false:=by simpa using f
  have h:Y=(y,x):=by
   rw[<-b];cases x.toNat with
   | zero=>rfl
   | succ q=>rw[FY,Amt f]
  rw[h] at g;simp only[push_cast,seval,rq,a]
  repeat' (first|(((first|apply Ac|apply Af|apply Ag)<;>intro _h)<;>simp only[push_cast,seval,rq,_h,a,a])|((first|refine Ab (by exact u) ?_|refine As (by simp only[Aaf,Aa8,Adu,Am]<;>omega) ?_);simp only[push_cast,seval,rq,a,a])|intro _)
  have c:x<Fy y 12 1:=by rw[Rv];omega
  rename_i k;generalize n+1+k=I;refine Ak 12 (Inv:=λk st=>∃n m x,k+m=13/\1<=m/\0<=x/\x<Fy y k m/\x<=120000/\NR y k m x=M/\st=⟨[(2,.i .i64 y),(3,.i .i64 (m:Nat)),(4,.i .i64 x)],[],n⟩) ⟨_,Aj.envD (env':=[(2,.i .i64 y),(3,.i .i64 (1:Nat)),(4,.i .i64 x)]) (λs=>?_) (AfJ _),_,1,x,rfl,AfJ _,A,c,B,g,rfl⟩ ?_
  .by_cases l:17=s
   .subst l;right;rfl
   .left;simp[get,l]
  rw[h];clear g c A B b a C u f h t o;rintro k _ ⟨n,m,x,H,m1,A,c,B,b,rfl⟩;cases k with
  | zero=>simp[Fy] at c;omega
  | succ k=>
   have D:=Alj O y m m1 (by omega);have C:=XC y m m1 (by omega);rw[Fy] at c;rw[NR] at b;by_cases f:x>=Ii y m
   .have a:decide (x>=Ii y m)=true:=by simpa using f
    have e:IntKind.i64.wrap (x-Ii y m)=x-Ii y m:=by rw[wrap64 (by omega) (by omega)]
    have j:IntKind.i64.wrap ((m:Int)+1)=((m+1:Nat):Int):=by rw[wrap64 (by omega) (by omega)];omega
    rw[Aiv f] at b;simp only[push_cast,seval,rq,e,j]
    repeat' (first|(((first|apply Ac|apply Af|apply Ag)<;>intro _h)<;>simp only[push_cast,seval,rq,_h,e,j,a])|((first|refine Ab (by exact D) ?_|refine As (by simp only[Aaf,Aa8,Adu,Am]<;>omega) ?_);simp only[push_cast,seval,rq,e,j,a])|intro _)
    exact⟨_,_,Adx _,Aj.refl,_,m+1,x-Ii y m,by omega,by omega,by omega,by omega,by omega,b,rfl⟩
   .have a:decide (x>=Ii y m)=false:=by simpa using f
    rw[Amt f] at b;subst b;have e:IntKind.i64.wrap (x+1)=x+1:=by rw[wrap64 (by omega) (by omega)]
    simp only[push_cast,seval,rq,e]
    repeat' (first|(((first|apply Ac|apply Af|apply Ag)<;>intro _h)<;>simp only[push_cast,seval,rq,_h,e,a])|((first|refine Ab (by exact D) ?_|refine As (by simp only[Aaf,Aa8,Adu,Am]<;>omega) ?_);simp only[push_cast,seval,rq,e,a])|intro _)
    refine Ai ?_;simp[push_cast,get]
theorem Gf(e:Ca O)(n:Nat)(g:n<2^40):An π O 157 [.i .i64 n] [] (.s (HF n)) []/\(HF n).length<=21:=by
 obtain⟨d,f⟩:=F0 O e n (by omega);refine⟨?_,by unfold HF;split<;>(try simp only[Aa8])<;>omega⟩;generalize hS:HF n=S;unfold HF at hS;generalize Lib.decDigits n=D at *;have b:decide ((n:Int)<10)=decide (n<10):=by rw[Axn];simp;omega
 refine Ah (vs:=[.s S]) Al1 (by simp) (by simp) λn0 c=>?_;clear c;simp only[push_cast,seval,rq,b];cases a:decide (n<10)
 .have:=AuU a;rw[Amt this] at hS;subst hS;simp only[push_cast,seval,rq,b,a]
  repeat' (first|(((first|apply Ac|apply Af|apply Ag)<;>intro _h)<;>simp only[push_cast,seval,rq,_h,b,a])|((first|refine Ab (by exact d) ?_|refine As (by simp only[Aaf,Aa8,Adu,Am]<;>omega) ?_);simp only[push_cast,seval,rq,b,a])|intro _)
  exact Ae (by simp[get])
 .have:=AuL a;rw[Aiv this] at hS;subst hS;simp only[push_cast,seval,rq,b,a]
  repeat' (first|(((first|apply Ac|apply Af|apply Ag)<;>intro _h)<;>simp only[push_cast,seval,rq,_h,b,a])|((first|refine Ab (by exact d) ?_|refine As (by simp only[Aaf,Aa8,Adu,Am]<;>omega) ?_);simp only[push_cast,seval,rq,b,a])|intro _)
  exact Ae (by simp[get])
theorem SL d (c:Et d=false):An π O 149 [.i .i64 d] [] (.tup [.i .i64 0,.i .i64 0,.i .i64 0,.i .i64 2]) []:=by
 unfold Et at c;simp only[Ay1] at c;refine Ah (vs:=[.i .i64 0,.i .i64 0,.i .i64 0,.i .i64 2]) eU (by simp) (by simp) λn0 e=>?_;clear e;simp only[push_cast,seval,rq];cases a:decide (d < -25567)<;>cases b:decide (d>84005)
 .rw[a,b] at c;cases c
 all_goals simp only[push_cast,seval,rq,a,b]
 all_goals repeat' (first|(((first|apply Ac|apply Af|apply Ag)<;>intro _h)<;>simp only[push_cast,seval,rq,_h,a,b])|(refine As (by simp only[Aaf,Aa8,Adu,Am]<;>omega) ?_;simp only[push_cast,seval,rq,a,b])|intro _)
 all_goals (refine Ai ?_;simp[push_cast,get])
theorem Mh(e:Ca O) d:An π O 113 [.i .i64 d] [] (.s (CR d)) []/\(CR d).length<=100:=by
 cases b:Et d with
 | false=>
  have c:=SL O d b;have hS:CR d=[]:=by unfold CR;rw[b];rfl
  rw[hS];refine⟨?_,by simp⟩;refine Ah (vs:=[.s []]) iP (by simp) (by simp) λn0 a=>?_;clear a;simp only[push_cast,seval,rq]
  repeat' (first|(((first|apply Ac|apply Af|apply Ag)<;>intro _h)<;>simp only[push_cast,seval,rq,_h])|((first|refine Ab (by exact c) ?_|refine As (by simp only[Aaf,Aa8,Adu,Am]<;>omega) ?_);simp only[push_cast,seval,rq])|intro _)
  exact Ae (by simp[get])
 | true=>
  obtain⟨q1,q2,q3,q,r,t⟩:=Qa b;have c:=V9 O d b;obtain⟨y,g⟩:∃y:Nat,(HC d).1=y:=⟨(HC d).1.toNat,by omega⟩;obtain⟨x,f⟩:∃x:Nat,(FP d).2+1=x:=⟨((FP d).2+1).toNat,by omega⟩;have hS:CR d=Lib.decDigits y++[45]++HF (FP d).1++[45]++HF x:=by unfold CR;rw[b,g,f];simp
  rw[g,f] at c;obtain⟨l,l1⟩:=F0 O e y (by omega);obtain⟨m,o⟩:=Gf O e (FP d).1 (by omega);obtain⟨c3,p⟩:=Gf O e x (by omega);rw[hS];generalize Lib.decDigits y=h at *;generalize HF (FP d).1=j at *;generalize HF x=k at *;refine⟨?_,by simp;omega⟩;refine Ah (vs:=[.s (h++[45]++j++[45]++k)]) iP (by simp) (by simp) λn0 a=>?_;clear a;simp only[push_cast,seval,rq]
  repeat' (first|(((first|apply Ac|apply Af|apply Ag)<;>intro _h)<;>simp only[push_cast,seval,rq,_h])|((first|refine Ab (by exact c) ?_|refine Ab (by exact l) ?_|refine Ab (by exact m) ?_|refine Ab (by exact c3) ?_|refine As (by simp only[Aaf,Aa8,Adu,Am]<;>omega) ?_);simp only[push_cast,seval,rq])|intro _)
  exact Ae (by simp[get])
def lY:List Ad:=[[],[121]]
def lM:List Ad:=[[],[77]]
def lE:List Ad:=[[],[69]]
def lD:List Ad:=[[],[100]]
theorem LS{l d:List Ad}(h:l=d++[])(a:l.length=2):decide ((d.length:Int)<2)=false:=by grind
theorem JA{l d r}{y:Ad}(h:l=d++y::r)(b:l.length=2):decide ((d.length:Int)<2)=true/\(l.map V.s)[d.length]?=some (.s y)/\IntKind.i64.wrap ((d.length:Int)+1)=((d++[y]).length:Int)/\y∈l:=by have a:=Ay h;refine⟨by simp;omega,by rw[h];simp,Aa y (by omega),by rw[h];simp⟩
theorem Apj(p:Ad)(hp:p.length<=2^20):An π O 151 [.s p] [] (.b (b9 p)) []:=by
 generalize hS:b9 p=S;have hS:lY.any (λy=>lM.any λm=>lE.any λe=>lD.any λd=>Ec (y++m++e++d) p)=S:=hS;have H:∀y∈lY,y.length<=1:=by decide
 have G:∀y∈lM,y.length<=1:=by decide
 have le:∀y∈lE,y.length<=1:=by decide
 have Y:∀y∈lD,y.length<=1:=by decide
 refine Ah (vs:=[.b S]) Ajz (by simp) (by simp) λn0 W=>?_;clear W;simp only[push_cast,seval,rq]
 repeat' (first|(((first|apply Ac|apply Af|apply Ag)<;>intro _h)<;>simp only[push_cast,seval,rq,_h])|(refine As (by simp only[Aaf,Aa8,Adu,Am]<;>omega) ?_;simp only[push_cast,seval,rq])|intro _)
 refine Ak 2 (Inv:=λk st=>∃v j n,lY=v++j/\k=j.length/\(j.any (λy=>lM.any λm=>lE.any λe=>lD.any λd=>Ec (y++m++e++d) p))=S/\st=⟨[(0,.s p),(11,.sl (lY.map V.s)),(12,.i .i64 2),(13,.i .i64 (v.length:Nat))],[],n⟩) ⟨_,Aj.refl,[],lY,_,rfl,rfl,hS,rfl⟩ ?_;clear hS;rintro _ _ ⟨v,j,Z,w,rfl,f,rfl⟩;rcases j with _|⟨y,j⟩
 .have q1:=LS w rfl;simp only[List.any_nil,Asc] at f;subst f;simp only[push_cast,seval,rq,q1];intros;exact Ae (by simp[get])
 obtain⟨I,J,K,l⟩:=JA w rfl;rw[A00] at f;simp only[push_cast,seval,rq,I,J];intros;refine Ak 2 (Inv:=λk st=>∃D r n,lM=D++r/\k=r.length/\(r.any (λm=>lE.any λe=>lD.any λd=>Ec (y++m++e++d) p)||j.any (λy=>lM.any λm=>lE.any λe=>lD.any λd=>Ec (y++m++e++d) p))=S/\st=⟨[(0,.s p),(4,.s y),(11,.sl (lY.map V.s)),(12,.i .i64 2),(13,.i .i64 (v.length:Nat)),(17,.sl (lM.map V.s)),(18,.i .i64 2),(19,.i .i64 (D.length:Nat))],[],n⟩) ⟨_,Aj.refl,[],lM,_,rfl,rfl,f,rfl⟩ ?_;clear f;rintro _ _ ⟨D,r,n2,x,rfl,g,rfl⟩;rcases r with _|⟨m,r⟩
 .have q1:=LS x rfl;simp only[List.any_nil,Asc] at g;simp only[push_cast,seval,rq,q1,K];intros;exact⟨_,_,Adx _,Aj.refl,v++[y],j,_,by rw[w];simp,rfl,g,rfl⟩
 obtain⟨L,M,N,o⟩:=JA x rfl;rw[A00] at g;simp only[push_cast,seval,rq,L,M];intros;refine Ak 2 (Inv:=λk st=>∃E t n,lE=E++t/\k=t.length/\(t.any (λe=>lD.any λd=>Ec (y++m++e++d) p)||r.any (λm=>lE.any λe=>lD.any λd=>Ec (y++m++e++d) p)||j.any (λy=>lM.any λm=>lE.any λe=>lD.any λd=>Ec (y++m++e++d) p))=S/\st=⟨[(0,.s p),(4,.s y),(6,.s m),(11,.sl (lY.map V.s)),(12,.i .i64 2),(13,.i .i64 (v.length:Nat)),(17,.sl (lM.map V.s)),(18,.i .i64 2),(19,.i .i64 (D.length:Nat)),(23,.sl (lE.map V.s)),(24,.i .i64 2),(25,.i .i64 (E.length:Nat))],[],n⟩) ⟨_,Aj.refl,[],lE,_,rfl,rfl,g,rfl⟩ ?_;clear g;rintro _ _ ⟨E,t,n3,z,rfl,h,rfl⟩;rcases t with _|⟨e,t⟩
 .have q1:=LS z rfl;simp only[List.any_nil,Asc] at h;simp only[push_cast,seval,rq,q1,N];intros;exact⟨_,_,Adx _,Aj.refl,D++[m],r,_,by rw[x];simp,rfl,h,rfl⟩
 obtain⟨T,a32,U,u⟩:=JA z rfl;rw[A00] at h;simp only[push_cast,seval,rq,T,a32];intros;refine Ak 2 (Inv:=λk st=>∃F C n,lD=F++C/\k=C.length/\(C.any (λd=>Ec (y++m++e++d) p)||t.any (λe=>lD.any λd=>Ec (y++m++e++d) p)||r.any (λm=>lE.any λe=>lD.any λd=>Ec (y++m++e++d) p)||j.any (λy=>lM.any λm=>lE.any λe=>lD.any λd=>Ec (y++m++e++d) p))=S/\st=⟨[(0,.s p),(4,.s y),(6,.s m),(8,.s e),(11,.sl (lY.map V.s)),(12,.i .i64 2),(13,.i .i64 (v.length:Nat)),(17,.sl (lM.map V.s)),(18,.i .i64 2),(19,.i .i64 (D.length:Nat)),(23,.sl (lE.map V.s)),(24,.i .i64 2),(25,.i .i64 (E.length:Nat)),(29,.sl (lD.map V.s)),(30,.i .i64 2),(31,.i .i64 (F.length:Nat))],[],n⟩) ⟨_,Aj.refl,[],lD,_,rfl,rfl,h,rfl⟩ ?_;clear h;rintro _ _ ⟨F,C,n4,A,rfl,a,rfl⟩;rcases C with _|⟨d,C⟩
 .have q1:=LS A rfl;simp only[List.any_nil,Asc] at a;simp only[push_cast,seval,rq,q1,U];intros;exact⟨_,_,Adx _,Aj.refl,E++[e],t,_,by rw[z];simp,rfl,a,rfl⟩
 obtain⟨a41,c,q,a44⟩:=JA A rfl;rw[A00] at a;have X:=AbH O (y++m++e++d) p (by have:=H y l;have:=G m o;have:=le e u;have:=Y d a44;simp;omega) hp;generalize Ec (y++m++e++d) p=B at *;have k1:(y.length+m.length<=Am)=True:=Amy (by have:=H y l;have:=G m o;unfold Am;omega);have k2:((y++m).length+e.length<=Am)=True:=Amy (by have:=H y l;have:=G m o;have:=le e u;unfold Am;simp;omega);have k3:((y++m++e).length+d.length<=Am)=True:=Amy (by have:=H y l;have:=G m o;have:=le e u;have:=Y d a44;unfold Am;simp;omega);cases B
 .simp only[Asc] at a;simp only[push_cast,seval,rq,a41,c,k1,k2,k3]
  repeat' (first|(((first|apply Ac|apply Af|apply Ag)<;>intro _h)<;>simp only[push_cast,seval,rq,_h,a41,c,q,k1,k2,k3])|((first|refine Ab (by exact X) ?_|refine As (by simp only[Aaf,Aa8,Adu,Am]<;>omega) ?_);simp only[push_cast,seval,rq,a41,c,q,k1,k2,k3])|intro _)
  exact⟨_,_,Adx _,Aj.refl,F++[d],C,_,by rw[A];simp,rfl,a,rfl⟩
 .simp only[Atd] at a;subst a;simp only[push_cast,seval,rq,a41,c,k1,k2,k3]
  repeat' (first|(((first|apply Ac|apply Af|apply Ag)<;>intro _h)<;>simp only[push_cast,seval,rq,_h,a41,c,q,k1,k2,k3])|((first|refine Ab (by exact X) ?_|refine As (by simp only[Aaf,Aa8,Adu,Am]<;>omega) ?_);simp only[push_cast,seval,rq,a41,c,q,k1,k2,k3])|intro _)
  exact Ae (by simp[get])
theorem nI(q:Ca O) x (f:Ad)(a:x.y<2^40)(b:1<=x.m/\x.m<=12)(e:x.d<2^40)(g:x.wd<7) :
  An π O 192 [.agg [.s x.L.tag,.s x.L.parent,.s x.L.dir,.sl (x.L.card.map AH.enc),.sl (x.L.ord.map AH.enc),.s x.L.dec,.s x.L.grp,.s x.L.minus,.s x.L.perc,.i .i64 x.L.prim,.i .i64 x.L.sec,.sl (x.L.lists.map Cp.enc),.sl (x.L.units.map De.enc),.sl (x.L.dates.map CJ.enc),.sl (x.L.months.map V.s),.sl (x.L.days.map V.s),.i .i64 x.y,.i .i64 x.m,.i .i64 x.d,.i .i64 x.wd],.s f] [] (.tup [.s (ES x f).1,.i .i64 (ES x f).2]) []:=by
 obtain⟨t,l1⟩:=F0 O q x.y (by omega);obtain⟨u,E⟩:=F0 O q x.m (by omega);obtain⟨c3,F⟩:=F0 O q x.d (by omega);obtain⟨v,G⟩:=Gf O q x.m (by omega);obtain⟨w,H⟩:=Gf O q x.d (by omega);generalize hS:ES x f=S;unfold ES at hS;have c:IntKind.i64.wrap ((x.m:Int)-1)=((x.m-1:Nat):Int):=by rw[wrap64 (by omega) (by omega)];omega
 have o:x.L.months.length=12->(x.L.months.map V.s)[x.m-1]?=some (.s (x.L.months.getD (x.m-1) [])):=λh=>by rw[AtX,Aqa (by omega)];simp[List.getD,Aqa (show x.m-1<x.L.months.length by omega)]
 have p:x.L.days.length=7->(x.L.days.map V.s)[x.wd]?=some (.s (x.L.days.getD x.wd [])):=λh=>by rw[AtX,Aqa (by omega)];simp[List.getD,Aqa (show x.wd<x.L.days.length by omega)]
 generalize Lib.decDigits x.y=z at *;generalize Lib.decDigits x.m=A at *;generalize Lib.decDigits x.d=B at *;generalize HF x.m=C at *;generalize HF x.d=D at *;refine Ah (vs:=[.s S.1,.i .i64 S.2]) Ajc (by simp) (by simp) λn0 r=>?_;clear r;simp only[push_cast,seval,rq,c,bne];cases a:(f==([121]:Ad)) with
 | true=>
  simp only[a,bq,Agp,AfT,rb,reduceCtorEq] at hS;subst hS;simp only[push_cast,seval,rq,c,bne,a]
  repeat' (first|(((first|apply Ac|apply Af|apply Ag)<;>intro _h)<;>simp only[push_cast,seval,rq,_h,c,bne,a])|((first|refine Ab (by exact t) ?_|refine As (by simp only[Aaf,Aa8,Adu,Am]<;>omega) ?_);simp only[push_cast,seval,rq,c,bne,a])|intro _)
  refine Ai ?_;simp[push_cast,get]
 | false=>
 cases b:(f==([77]:Ad)) with
 | true=>
  simp only[a,b,bq,Agp,AfT,rb,reduceCtorEq] at hS;subst hS;simp only[push_cast,seval,rq,c,bne,a,b]
  repeat' (first|(((first|apply Ac|apply Af|apply Ag)<;>intro _h)<;>simp only[push_cast,seval,rq,_h,c,bne,a,b])|((first|refine Ab (by exact u) ?_|refine As (by simp only[Aaf,Aa8,Adu,Am]<;>omega) ?_);simp only[push_cast,seval,rq,c,bne,a,b])|intro _)
  refine Ai ?_;simp[push_cast,get]
 | false=>
 cases e:(f==([77,77]:Ad)) with
 | true=>
  simp only[a,b,e,bq,Agp,AfT,rb,reduceCtorEq] at hS;subst hS;simp only[push_cast,seval,rq,c,bne,a,b,e]
  repeat' (first|(((first|apply Ac|apply Af|apply Ag)<;>intro _h)<;>simp only[push_cast,seval,rq,_h,c,bne,a,b,e])|((first|refine Ab (by exact v) ?_|refine As (by simp only[Aaf,Aa8,Adu,Am]<;>omega) ?_);simp only[push_cast,seval,rq,c,bne,a,b,e])|intro _)
  refine Ai ?_;simp[push_cast,get]
 | false=>
 cases g:(f==([77,77,77]:Ad)) with
 | true=>
  cases hM:((x.L.months.length:Int)==12) with
  | true=>
   have l:x.L.months.length=12:=by have:=AuL (by simpa using hM:decide ((x.L.months.length:Int)=12)=true);omega
   have o:=o l;simp only[a,b,e,g,hM,bne,bq,Agp,AfT,rb,reduceCtorEq,Amo] at hS;subst hS;simp only[push_cast,seval,rq,c,bne,a,b,e,g,hM]
   repeat' (first|(((first|apply Ac|apply Af|apply Ag)<;>intro _h)<;>simp only[push_cast,seval,rq,_h,c,bne,a,b,e,g,hM,o])|(refine As (by simp only[Aaf,Aa8,Adu,Am]<;>omega) ?_;simp only[push_cast,seval,rq,c,bne,a,b,e,g,hM,o])|intro _)
   simp only[push_cast,seval,rq,c,bne,o];intros;refine Ai ?_;simp[push_cast,get]
  | false=>
   simp only[a,b,e,g,hM,bne,bq,Agp,AfT,rb,reduceCtorEq,Ain] at hS;subst hS;simp only[push_cast,seval,rq,c,bne,a,b,e,g,hM]
   repeat' (first|(((first|apply Ac|apply Af|apply Ag)<;>intro _h)<;>simp only[push_cast,seval,rq,_h,c,bne,a,b,e,g,hM])|(refine As (by simp only[Aaf,Aa8,Adu,Am]<;>omega) ?_;simp only[push_cast,seval,rq,c,bne,a,b,e,g,hM])|intro _)
   refine Ai ?_;simp[push_cast,get]
 | false=>
 cases j:(f==([69]:Ad)) with
 | true=>
  cases hM:((x.L.days.length:Int)==7) with
  | true=>
   have l:x.L.days.length=7:=by have:=AuL (by simpa using hM:decide ((x.L.days.length:Int)=7)=true);omega
   have p:=p l;simp only[a,b,e,g,j,hM,bne,bq,Agp,AfT,rb,reduceCtorEq,Amo] at hS;subst hS;simp only[push_cast,seval,rq,c,bne,a,b,e,g,j,hM]
   repeat' (first|(((first|apply Ac|apply Af|apply Ag)<;>intro _h)<;>simp only[push_cast,seval,rq,_h,c,bne,a,b,e,g,j,hM,p])|(refine As (by simp only[Aaf,Aa8,Adu,Am]<;>omega) ?_;simp only[push_cast,seval,rq,c,bne,a,b,e,g,j,hM,p])|intro _)
   simp only[push_cast,seval,rq,c,bne,p];intros;refine Ai ?_;simp[push_cast,get]
  | false=>
   simp only[a,b,e,g,j,hM,bne,bq,Agp,AfT,rb,reduceCtorEq,Ain] at hS;subst hS;simp only[push_cast,seval,rq,c,bne,a,b,e,g,j,hM]
   repeat' (first|(((first|apply Ac|apply Af|apply Ag)<;>intro _h)<;>simp only[push_cast,seval,rq,_h,c,bne,a,b,e,g,j,hM])|(refine As (by simp only[Aaf,Aa8,Adu,Am]<;>omega) ?_;simp only[push_cast,seval,rq,c,bne,a,b,e,g,j,hM])|intro _)
   refine Ai ?_;simp[push_cast,get]
 | false=>
 cases k:(f==([100]:Ad)) with
 | true=>
  simp only[a,b,e,g,j,k,bq,Agp,AfT,rb,reduceCtorEq] at hS;subst hS;simp only[push_cast,seval,rq,c,bne,a,b,e,g,j,k]
  repeat' (first|(((first|apply Ac|apply Af|apply Ag)<;>intro _h)<;>simp only[push_cast,seval,rq,_h,c,bne,a,b,e,g,j,k])|((first|refine Ab (by exact c3) ?_|refine As (by simp only[Aaf,Aa8,Adu,Am]<;>omega) ?_);simp only[push_cast,seval,rq,c,bne,a,b,e,g,j,k])|intro _)
  refine Ai ?_;simp[push_cast,get]
 | false=>
  simp only[a,b,e,g,j,k,bq,Agp,AfT,rb,reduceCtorEq] at hS;subst hS;simp only[push_cast,seval,rq,c,bne,a,b,e,g,j,k]
  repeat' (first|(((first|apply Ac|apply Af|apply Ag)<;>intro _h)<;>simp only[push_cast,seval,rq,_h,c,bne,a,b,e,g,j,k])|((first|refine Ab (by exact w) ?_|refine As (by simp only[Aaf,Aa8,Adu,Am]<;>omega) ?_);simp only[push_cast,seval,rq,c,bne,a,b,e,g,j,k])|intro _)
  refine Ai ?_;simp[push_cast,get]
theorem Fu σ σo:over σ σo σ=σo:=by have:=Fl (σi:=σ) (σo:=σo) (pre:=[]) (λp hp=>by cases hp);simpa using this
theorem oQ σo σ:over [] σo σ=σo++σ:=by unfold over;congr 1;rw[A0o];intro p _;rfl
theorem Ji{P O f args v}(h:An P O f args [] v []):FQ P O f args [] (λn n' u σ'=>u=v/\σ'=[]) where
 callable:=h.callable
 run:=λn w μ H a hp m=>(h.run n w μ H a hp m).mono λe w' ⟨val,b,c,n',d,g,i,j,k,l⟩=>⟨val,b,c,n',v,[],d,⟨rfl,rfl⟩,g,i,j,k,l⟩
theorem Yu a (e:a.length<=2^30)(h:Cx a=none):An π O 188 [.s a] [] (.tup [.nm,.b false]) []:=by
 have c:=Nm O a e;rw[h] at c;simp only[HM,Py,Aya,Agw,AfT] at c;refine Ah (vs:=[.nm,.b false]) pG (by simp) (by simp) λn0 d=>?_;clear d;simp only[push_cast,seval,rq]
 repeat' (first|(((first|apply Ac|apply Af|apply Ag)<;>intro _h)<;>simp only[push_cast,seval,rq,_h])|((first|refine Ab (by exact c) ?_|refine As (by simp only[Aaf,Aa8,Adu,Am]<;>omega) ?_);simp only[push_cast,seval,rq])|intro _)
 refine Ai ?_;simp[push_cast,get]
def AeO(m:T9)(n n':Nat)(v:V)(σ':Au):Prop:=∃mid:Id,n<=mid.1/\mid.1<n'/\v=.tup [.arr mid,.b true]/\σ'=[(mid,.map (Iu m))]
theorem iF k l (z:k.length<=2^30)(h:Cx k=some l):FQ π O 188 [.s k] [] (AeO (Fm l)):=by
 have o:=Nm O k z;rw[h] at o;simp only[HM,Py,AvN,Agp] at o;obtain⟨_,x,p⟩:=GQ h;generalize hS:Fm l=S;unfold Fm at hS;generalize u:AeO S=R;refine Ct pG (by simp) λn0 q=>?_;clear q;simp only[push_cast,seval,rq]
 repeat' (first|(((first|apply Ac|apply Af|apply Ag)<;>intro _h)<;>simp only[push_cast,seval,rq,_h])|((first|refine Ab (by exact o) ?_|refine As (by simp only[Aaf,Aa8,Adu,Am]<;>omega) ?_);simp only[push_cast,seval,rq])|intro _)
 rename_i k1 k2 k3 r t;generalize d:((n0+1+k1+1+k2+1+k3,16):Id)=mid;have y:n0<=mid.1:=by rw[<-d];simp only;omega
 have j:mid.1<n0+1+k1+1+k2+1+k3+1+r+1+t:=by rw[<-d];simp only;omega
 generalize n0+1+k1+1+k2+1+k3+1+r+1+t=B at *;refine Ak l.length (Inv:=λm st=>∃dn a n M,l=dn++a/\m=a.length/\a.foldl (λm f=>Lz m (f.take 1) f.length) M=S/\mid.1<n/\st=⟨[(6,.arr mid),(17,.sl (l.map V.s)),(18,.i .i64 l.length),(19,.i .i64 dn.length)],[(mid,.map (Iu M))],n⟩) ⟨_,Aj.refl,[],l,_,[],rfl,rfl,hS,j,rfl⟩ ?_;clear hS j;rintro m _ ⟨dn,a,n,M,c,rfl,g,A,rfl⟩;cases a with
 | nil=>simp only[List.foldl_nil] at g;subst g;simp only[push_cast,seval,rq,c];intros;subst u;exact⟨_,Aj.refl,[.arr mid,.b true],_,⟨rfl,rfl,trivial⟩,λ_ _ h=>h,mid,by omega,by simp only;omega,rfl,rfl⟩
 | cons f a=>
  have w:=Ay c;have e:(1<=f.length)=True:=Amy (p f (by rw[c];simp));rw[AzY] at g;rcases Rj (f.take 1) M 0 with⟨i,v,h1,h2,h3⟩|⟨h1,h2,h3⟩
  .simp only[AxV] at h2;simp only[push_cast,seval,rq,c,Aa f (dn:=dn) (by omega),e,h2,h3]
   repeat' (first|(((first|apply Ac|apply Af|apply Ag)<;>intro _h)<;>simp only[push_cast,seval,rq,_h,c,Aa f (dn:=dn) (by omega),e,h2,h3])|(refine As (by simp only[Aaf,Aa8,Adu,Am]<;>omega) ?_;simp only[push_cast,seval,rq,c,Aa f (dn:=dn) (by omega),e,h2,h3])|intro _)
   exact⟨_,_,Adx _,Aj.refl,dn++[f],a,_,_,by simp,rfl,g,by omega,rfl⟩
  .skip;simp only[push_cast,seval,rq,c,Aa f (dn:=dn) (by omega),e,h2,h3]
   repeat' (first|(((first|apply Ac|apply Af|apply Ag)<;>intro _h)<;>simp only[push_cast,seval,rq,_h,c,Aa f (dn:=dn) (by omega),e,h2,h3])|(refine As (by simp only[Aaf,Aa8,Adu,Am]<;>omega) ?_;simp only[push_cast,seval,rq,c,Aa f (dn:=dn) (by omega),e,h2,h3])|intro _)
   exact⟨_,_,Adx _,Aj.refl,dn++[f],a,_,_,by simp,rfl,g,by omega,rfl⟩
def GU(f:Nat->Int):List Nat->Int
 | []=>0
 | i::l=>f i+GU f l
theorem Mx f:∀(l) (i),i∈l->GU f l=f i+GU f (l.erase i)
 | [],i,h=>by cases h
 | x::l,i,h=>by
  by_cases a:x=i
  .subst a;simp[GU]
  .have:i∈l:=by grind
   rw[List.erase_cons_tail (by simpa using a),GU,GU,Mx f l i this];omega
theorem ML f:∀(l) (i),GU f (l++[i])=GU f l+f i
 | [],i=>by simp[GU]
 | x::l,i=>by rw[AsT,GU,GU,ML f l i];omega
theorem J3:∀(n) (l:List Nat),l.Nodup->(∀i∈l,i<n)->l.length<=n
 | 0,l,_,h=>by
  cases l with
  | nil=>simp
  | cons x l=>exact absurd (h x (by simp)) (by omega)
 | n+1,l,a,h=>by
  by_cases c:n∈l
  .have:=J3 n (l.erase n) (a.erase n) λi b=>by
    grind
   grind
  .have:=J3 n l a λi b=>by
    grind
   omega
theorem SG f:∀(n) (l),l.Nodup->(∀i∈l,i<n)->(∀i,i<n->i∈l)->GU f l=GU f (List.range n)
 | 0,l,_,h,_=>by
  cases l with
  | nil=>rfl
  | cons x l=>exact absurd (h x (by simp)) (by omega)
 | n+1,l,c,h,b=>by
  rw[List.range_succ,ML,Mx f l n (b n (by omega))];have:=SG f n (l.erase n) (c.erase n) (λi a=>by
    have e:=h i (List.mem_of_mem_erase a);have g:i≠n:=λd=>by rw[d] at a;exact(List.Nodup.not_mem_erase c) a
    omega) (λi a=>(List.mem_erase_of_ne (by omega)).2 (b i (by omega)))
  omega
theorem U0 g:∀(a:T9),GU (λi=>match a[i]? with|some e=>g e|none=>0) (List.range a.length)=(a.map g).sum:=by
 have key:∀(a b:T9),GU (λi=>match(b++a)[i]? with|some e=>g e|none=>0) ((List.range a.length).map (· + b.length))=(a.map g).sum:=by
  intro a
  induction a with
  | nil=>intro b;rfl
  | cons e a d=>
   intro b;rw[Aa8,List.range_succ_eq_map,Am1,GU,Am1,List.sum_cons];have c:(b++e::a)[0+b.length]?=some e:=by simp
   rw[c];simp only[A0F];have:=d (b++[e]);simp only[Awz,A05,Aaf,Aa8,Adu] at this;rw[<-this];congr 2;apply Ayp;grind
 intro a;simpa using key a []
def wtE(b:T9)(e:Ad×Int):Int:=max (e.2-(DE b e.1).getD 0) ((DE b e.1).getD 0-e.2)
theorem Akd{b}(a:∀e∈b,0<=e.2/\e.2<=2^30){e:Ad×Int}(c:0<=e.2/\e.2<=2^30):0<=(DE b e.1).getD 0/\(DE b e.1).getD 0<=2^30:=by
 have:∀(b:T9),(∀e∈b,0<=e.2/\e.2<=2^30)->0<=(DE b e.1).getD 0/\(DE b e.1).getD 0<=2^30:=by
  intro b
  induction b with
  | nil=>intro _;simp[DE]
  | cons x b d=>intro h;rw[DE];grind
 exact this b a
theorem nW(a b:T9):(a.map λe=>max (e.2-(DE b e.1).getD 0) ((DE b e.1).getD 0-e.2)).sum=GU (λi=>match a[i]? with|some e=>wtE b e|none=>0) (List.range a.length):=(U0 (wtE b) a).symm
theorem Ahi a b c bid (F:c≠bid)(ha:∀e∈a,0<=e.2/\e.2<=2^30)(hb:∀e∈b,0<=e.2/\e.2<=2^30)(ah:a.length<=2^20) :
  An π O 189 [.arr c,.arr bid] [(c,.map (Iu a)),(bid,.map (Iu b))] (.tup [.i .i64 (KV a b).1,.b (KV a b).2]) [(c,.map (Iu a)),(bid,.map (Iu b))]:=by
 have q:(Iu a).length=a.length:=by simp[Iu]
 have B:(Iu b).length=b.length:=by simp[Iu]
 have k:(c=bid)=False:=Amp F;have o:(bid=c)=False:=Amp (AsR F);generalize hS:KV a b=S;unfold KV at hS;rw[nW] at hS;refine Ah (vs:=[.i .i64 S.1,.b S.2]) Aj7 (by simp) (λ_ h=>h) λn0 D=>?_;have U:c.1<n0:=D c _ (by simp[lk];rfl);have V:bid.1<n0:=D bid _ (by simp[lk,F];rfl);clear D;simp only[push_cast,seval,rq,k,o];intros;rename_i k1 k2 k3;generalize u:((n0+1+k1+1+k2,12):Id)=mid;have K:mid≠c:=λr=>by rw[<-r,<-u] at U;simp only at U;omega
 have L:mid≠bid:=λr=>by rw[<-r,<-u] at V;simp only at V;omega
 have l:(mid=c)=False:=Amp K;have p:(mid=bid)=False:=Amp L;have t:(c=mid)=False:=Amp (AsR K);have f6:(bid=mid)=False:=Amp (AsR L);refine Ak a.length (Inv:=λm st=>∃seen n x,m+seen.length=a.length/\seen.Nodup/\(∀i∈seen,i<a.length)/\(∀i e,i∈seen->a[i]?=some e->(DE b e.1).isSome=true)/\x=GU (λi=>match a[i]? with|some e=>wtE b e|none=>0) seen/\0<=x/\x<=seen.length*2^30/\st=⟨[(0,.arr c),(1,.arr bid),(6,.i .i64 x),(12,.arr mid)],[(mid,.mit c (Iu a).length seen (Iu a).length),(c,.map (Iu a)),(bid,.map (Iu b))],n⟩) ⟨_,Aj.refl,[],_,0,rfl,List.nodup_nil,(by simp),(by simp),rfl,(by omega),(by simp),rfl⟩ ?_;rintro m _ ⟨seen,n,x,hm,E,G,N,W,x1,x2,rfl⟩;have ai:=J3 _ _ E G;simp only[push_cast,seval,rq,k,o];refine W6 (id:=mid) (mid:=c) (es:=Iu a) (seen:=seen) rfl (by simp[lk]) (by simp[lk,l]) (by simp) (by simp) (λi kv g Z=>?_) (λf=>?_)
 .obtain⟨e,r,rfl⟩:∃e,a[i]?=some e/\kv=(.s e.1,.i .i64 e.2):=by
   unfold Iu at g;rw[AtX] at g;obtain⟨e,U,V⟩:=Amd.1 g;exact⟨e,U,V.symm⟩
  have ag:i<a.length:=(Ath.1 r).1;have X:=ha e (Au8 r);have d:(seen++[i]).getLast?=some i:=by simp
  have w:(seen++[i]).Nodup:=by rw[List.nodup_append];exact⟨E,by simp,λx W y hy=>by simp at hy;subst hy;rintro rfl;exact Z W⟩
  have z:∀j∈seen++[i],j<a.length:=by
   intro j Y;rcases Am5.1 Y with h|h
   .exact G j h
   .simp at h;omega
  have M:=J3 _ _ w z;rw[Aaf,Aa8,Adu] at M;rcases Rj e.1 b 0 with⟨j,v,g1,g2,g3⟩|⟨g1,g2,g3⟩
  .have J:=Akd hb X;rw[g1] at J;simp only[Option.getD_some] at J;simp only[AxV] at g2;have w1:IntKind.i64.wrap (e.2-v)=e.2-v:=by rw[wrap64 (by omega) (by omega)]
   have w2:IntKind.i64.wrap (v-e.2)=v-e.2:=by rw[wrap64 (by omega) (by omega)]
   have w3:IntKind.i64.wrap (x+max (e.2-v) (v-e.2))=x+max (e.2-v) (v-e.2):=by have:(seen.length:Int)*2^30<=2^20*2^30:=Int.mul_le_mul_of_nonneg_right (by omega) (by omega);rw[wrap64 (by omega) (by omega)]
   have hw:wtE b e=max (e.2-v) (v-e.2):=by unfold wtE;rw[g1];rfl
   simp only[push_cast,seval,rq,d,g,k,o,l,p,t,f6,g2,w1,w2,w3]
   repeat' (first|(((first|apply Ac|apply Af|apply Ag)<;>intro _h)<;>simp only[push_cast,seval,rq,_h,d,g,k,o,l,p,t,f6,g2,w1,w2,w3])|(refine As (by simp only[Aaf,Aa8,Adu,Am]<;>omega) ?_;simp only[push_cast,seval,rq,d,g,k,o,l,p,t,f6,g2,w1,w2,w3])|intro _)
   refine⟨a.length-(seen.length+1),_,by omega,Aj.refl,seen++[i],_,x+max (e.2-v) (v-e.2),by simp;omega,w,z,?_,?_,by omega,?_,rfl⟩
   .intro j e' Y C;rcases Am5.1 Y with h|h
    .exact N j e' h C
    .simp at h;subst h;rw[r] at C;cases C;rw[g1];rfl
   .rw[ML,<-W,r];simp only[hw]
   .simp only[Aaf,Aa8,Adu];omega
  .have f:(a.all λe=>(DE b e.1).isSome)=false:=by
    rw[List.all_eq_false];exact⟨e,Au8 r,by rw[g1];simp⟩
   rw[f] at hS;simp only[Agw,AfT] at hS;subst hS;simp only[push_cast,seval,rq,d,g,k,o,l,p,t,f6,g2]
   repeat' (first|(((first|apply Ac|apply Af|apply Ag)<;>intro _h)<;>simp only[push_cast,seval,rq,_h,d,g,k,o,l,p,t,f6,g2])|(refine As (by simp only[Aaf,Aa8,Adu,Am]<;>omega) ?_;simp only[push_cast,seval,rq,d,g,k,o,l,p,t,f6,g2])|intro _)
   exact⟨_,Aj.refl,⟨rfl,rfl,trivial⟩,λi e h=>by
    simp only[lk] at h⊢;split at h
    .rename_i H;subst H;simp only[l,AfT,Agp];exact h
    .rename_i H;split at h
     .rename_i A;subst A;simp only[p,k,AfT,Agp];exact h
     .cases h⟩
 .have T:x=GU (λi=>match a[i]? with|some e=>wtE b e|none=>0) (List.range a.length):=by
   rw[W];exact SG _ _ _ E G λi g=>f i (by rw[q];exact g)
  have I:(a.all λe=>(DE b e.1).isSome)=true:=by rw[As7];intro e r;obtain⟨i,g⟩:=Ax8.1 r;exact N i e (f i (by rw[q];exact(Ath.1 g).1)) g
  rw[I,<-T] at hS;simp only[Agp] at hS;subst hS;simp only[push_cast,seval,rq,k,o,l,p,t,f6,q,B]
  repeat' (first|(((first|apply Ac|apply Af|apply Ag)<;>intro _h)<;>simp only[push_cast,seval,rq,_h,k,o,l,p,t,f6,q,B])|(refine As (by simp only[Aaf,Aa8,Adu,Am]<;>omega) ?_;simp only[push_cast,seval,rq,k,o,l,p,t,f6,q,B])|intro _)
  exact⟨_,Aj.refl,⟨rfl,rfl,trivial⟩,λi e h=>by
    simp only[lk] at h⊢;split at h
    .rename_i H;subst H;simp only[l,AfT,Agp];exact h
    .rename_i H;split at h
     .rename_i A;subst A;simp only[p,k,AfT,Agp];exact h
     .cases h⟩
theorem WY{l}(a:l.length<=4)(h:∀f∈l,f.length<=2^24):(∀e∈Fm l,0<=e.2/\e.2<=2^30)/\(Fm l).length<=4:=by
 have put:∀(m:T9) (n:Ad) (k:Int),0<=k->k<=2^30->(∀e∈m,0<=e.2/\e.2<=2^30)->(∀e∈Lz m n k,0<=e.2/\e.2<=2^30)/\(Lz m n k).length<=m.length+1:=by
  intro m n k k1 k2
  induction m with
  | nil=>intro _;simp[Lz];omega
  | cons x m c=>intro h;have o:=h x (by simp);have ⟨i1,i2⟩:=c λe d=>h e (Ae0 _ d);rw[Lz];grind
 have key:∀(l:List Ad) (m:T9),(∀f∈l,f.length<=2^24)->(∀e∈m,0<=e.2/\e.2<=2^30)->(∀e∈l.foldl (λm f=>Lz m (f.take 1) f.length) m,0<=e.2/\e.2<=2^30)/\(l.foldl (λm f=>Lz m (f.take 1) f.length) m).length<=m.length+l.length:=by
  intro l
  induction l with
  | nil=>intro m _ b;exact⟨b,by simp⟩
  | cons f l c=>intro m a b;have j:=a f (by simp);have ⟨p1,p2⟩:=put m (f.take 1) f.length (by omega) (by omega) b;have ⟨i1,i2⟩:=c _ (λg i=>a g (Ae0 _ i)) p1;exact⟨i1,by simp only[AzY,Aa8];omega⟩
 have ⟨k1,k2⟩:=key l [] h (by simp);exact⟨k1,by unfold Fm;simp at k2;omega⟩
theorem M1{s l}(h:Cx s=some l):∀f∈l,f.length<=s.length:=by
 have key:∀(a:List Ad) (r:Ad) (out w:List Ad),C4 a r out=some w->r.length<=s.length->(∀f∈out,f.length<=s.length)->∀f∈w,f.length<=s.length:=by
  intro a
  induction a with
  | nil=>intro r out w h d c;rw[C4] at h;grind
  | cons k a e=>intro r out w h d c;have b:=Fv r k;rw[C4] at h;grind
 exact key kinds4 s [] l h (AfJ _) (by simp)
theorem Ame l (u:Ad)(hs:u.length<=2^24)(hl:l.length<=2^30)(hp:∀p∈l,p.skel.length<=2^20):An π O 150 [.sl (l.map CJ.enc),.s u] [] (.tup [.i .i64 (EE l u).1,.i .i64 (EE l u).2]) []:=by
 generalize hS:EE l u=S;unfold EE at hS;cases E:Cx u with
 | none=>
  have M:=Ji (Yu O u (by omega) E);rw[E] at hS;simp only at hS;subst hS;refine Ah (vs:=[.i .i64 0,.i .i64 3]) gH (by simp) (by simp) λn0 C=>?_;clear C;simp only[push_cast,seval,rq];intros;refine AY M (λ_ _ h=>h) (λX v σo z x=>?_);obtain⟨rfl,rfl⟩:=x;rw[Fu];simp only[push_cast,seval,rq]
  repeat' (first|(((first|apply Ac|apply Af|apply Ag)<;>intro _h)<;>simp only[push_cast,seval,rq,_h])|(refine As (by simp only[Aaf,Aa8,Adu,Am]<;>omega) ?_;simp only[push_cast,seval,rq])|intro _)
  refine Ai ?_;simp[push_cast,get]
 | some w=>
  have M:=iF O u w (by omega) E;rw[E] at hS;simp only at hS;obtain⟨w1,J,w3⟩:=GQ E;obtain⟨m1,m2⟩:=WY J (λf T=>AvD (M1 E f T) hs);generalize Fm w=A at *;refine Ah (vs:=[.i .i64 S.1,.i .i64 S.2]) gH (by simp) (by simp) λn0 C=>?_;clear C;simp only[push_cast,seval,rq];intros;refine AY M (λ_ _ h=>h) (λX v σo z x=>?_);obtain⟨mid,i1,i2,rfl,rfl⟩:=x;rw[Fu];simp only[push_cast,seval,rq]
  repeat' (first|(((first|apply Ac|apply Af|apply Ag)<;>intro _h)<;>simp only[push_cast,seval,rq,_h])|(refine As (by simp only[Aaf,Aa8,Adu,Am]<;>omega) ?_;simp only[push_cast,seval,rq])|intro _)
  rename_i k1 k2 k3 Z;have H:mid.1<X+1+k1+1+k2+1+k3+1+Z:=by omega
  generalize X+1+k1+1+k2+1+k3+1+Z=n1 at *;obtain⟨B,hB⟩:∃B,B=D9 A l 0 (-1) 0:=⟨_,rfl⟩
  rw[<-hB] at hS;refine Ak l.length (Inv:=λm st=>∃dn a n c b,l=dn++a/\m=a.length/\D9 A a dn.length c b=B/\mid.1<n/\st=⟨[(6,.arr mid),(8,.i .i64 c),(9,.i .i64 b),(23,.sl (l.map CJ.enc)),(24,.i .i64 l.length),(25,.i .i64 dn.length)],[(mid,.map (Iu A))],n⟩) ⟨_,Aj.refl,[],l,_,-1,0,rfl,rfl,hB.symm,H,rfl⟩ ?_;clear hB H;rintro m _ ⟨dn,a,n,c,b,g,rfl,q,U,rfl⟩;cases a with
  | nil=>
   rw[D9] at q;subst q;cases t:decide (c<0)
   .rw[Amt (AuU t)] at hS;subst hS;simp only[push_cast,seval,rq,g,t]
    repeat' (first|(((first|apply Ac|apply Af|apply Ag)<;>intro _h)<;>simp only[push_cast,seval,rq,_h,t])|(refine As (by simp only[Aaf,Aa8,Adu,Am]<;>omega) ?_;simp only[push_cast,seval,rq,t])|intro _)
    refine Ai ?_;simp[push_cast,get]
   .rw[Aiv (AuL t)] at hS;subst hS;simp only[push_cast,seval,rq,g,t]
    repeat' (first|(((first|apply Ac|apply Af|apply Ag)<;>intro _h)<;>simp only[push_cast,seval,rq,_h,t])|(refine As (by simp only[Aaf,Aa8,Adu,Am]<;>omega) ?_;simp only[push_cast,seval,rq,t])|intro _)
    refine Ai ?_;simp[push_cast,get]
  | cons p a=>
   have ab:=Ay g;have V:=hp p (by rw[g];simp);rw[D9] at q;have W:(dn.length:Int)+1=((dn++[p]).length:Int):=by simp
   rw[W] at q;have o:∀k j:Nat,(((n+1+k,j):Id)=mid)=False:=λk j=>Amp λF=>by rw[<-F] at U;simp only at U;omega
   simp only[push_cast,seval,rq,g,Aa p (dn:=dn) (by omega),o];intros;cases d:Cx p.skel with
   | none=>
    rw[d] at q;simp only at q;refine AY (Ji (Yu O p.skel (by omega) d)) (λ_ _ h=>by simp[lk] at h) (λn3 v σo z x=>?_);obtain⟨rfl,rfl⟩:=x;rw[oQ,Aub];simp only[push_cast,seval,rq,g,Aa p (dn:=dn) (by omega),o]
    repeat' (first|(((first|apply Ac|apply Af|apply Ag)<;>intro _h)<;>simp only[push_cast,seval,rq,_h,g,Aa p (dn:=dn) (by omega),o])|(refine As (by simp only[Aaf,Aa8,Adu,Am]<;>omega) ?_;simp only[push_cast,seval,rq,g,Aa p (dn:=dn) (by omega),o])|intro _)
    exact⟨_,_,Adx _,Aj.drop1 (by simp only[lk];rw[Amt (λF=>Axj (o _ _) F.symm)]) (AfJ _),dn++[p],a,_,c,b,by simp,rfl,q,by omega,rfl⟩
   | some J=>
    rw[d] at q;simp only at q;refine AY (iF O p.skel J (by omega) d) (λ_ _ h=>by simp[lk] at h) (λn3 v σo z x=>?_);obtain⟨r,j1,j2,rfl,rfl⟩:=x;rw[oQ,A05];obtain⟨a1,a2,a3⟩:=GQ d;obtain⟨b1,b2⟩:=WY a2 (λf T=>AvD (M1 d f T) (AvD V (by omega)));generalize Fm J=K at *;have G:mid≠r:=λF=>by rw[F] at U;omega
    have N:=Ahi O A K mid r G m1 b1 (by omega);have Y:(r=mid)=False:=Amp (AsR G);generalize hD:KV A K=D at *;simp only[push_cast,seval,rq,g,Aa p (dn:=dn) (by omega),o];intros;refine Wg N (λi e h=>?_) ?_
    .simp only[lk] at h⊢;split at h
     .rename_i I;subst I;simp only[o,Y,AfT,Agp];exact h
     .rename_i I;split at h
      .rename_i L;subst L;simp only[Agp];exact h
      .cases h
    have y:∀(k:Nat) i e,lk [(mid,Be.map (Iu A))] i=some e->lk [(r,Be.map (Iu K)),((n+1+k,11),Be.box (.agg [.s p.skel,.s p.pat])),(mid,Be.map (Iu A))] i=some e:=by
     intro k i e h;simp only[lk] at h⊢;split at h
     .rename_i I;subst I;simp only[o,Y,AfT,Agp];exact h
     .cases h
    cases q1:D.2<;>cases q2:decide (c<0)<;>cases q3:decide (D.1<b)
    all_goals simp only[q1,q2,q3,AmS,Am0,Amq,Amr,Atc,AsM,Agp,AfT,Agw,A0G] at q
    all_goals simp only[push_cast,seval,rq,g,Aa p (dn:=dn) (by omega),o,q1,q2,q3]
    all_goals repeat' (first|(((first|apply Ac|apply Af|apply Ag)<;>intro _h)<;>simp only[push_cast,seval,rq,_h,g,Aa p (dn:=dn) (by omega),o,q1,q2,q3])|(refine As (by simp only[Aaf,Aa8,Adu,Am]<;>omega) ?_;simp only[push_cast,seval,rq,g,Aa p (dn:=dn) (by omega),o,q1,q2,q3])|intro _)
    all_goals exact⟨_,_,Adx _,Aj.drop (y _) (AfJ _),dn++[p],a,_,_,_,by simp,rfl,q,by omega,rfl⟩
end Go.Ir
