/- A part of the proof that the law EvalFlat answers true at every input of a bulk of at most 2^20. -/
import Derived.Test.YtkejfpeffolhpaaGreatDoorPaf
import Derived.Test.YtkejfpeffolhpaaGreatDoorRows
import Derived.ChangeArms
import Derived.Carry
import Derived.ChangeSame
import Derived.OpenShut
import Derived.Test.YtkejfpeffolhpaaGreatDoorChecked
set_option linter.all false
set_option maxHeartbeats 4000000
open Nat renaming reduceEqDiff→rq
namespace Go.Ir
open Go.Proofs
variable(O:World)
def Ib(L:Du)(k:Int):List A8:=if k==7 then L.card else if k==8 then L.ord else[]
def Ru(L:Du)(k:Int):V:=if k==7 then .sl (L.card.map A8.enc) else if k==8 then .sl (L.ord.map A8.enc) else .nil
theorem Zz L k:JI (λ_=>none) (Ru L k) (.sl ((Ib L k).map A8.enc)):=by
 unfold Ru Ib;split
 .exact .refl _
 .split
  .exact .refl _
  .exact .nil
theorem Q8 L k:Ak π O 158 [L.enc,.i .i64 k] [] (Ru L k) []:=by
 generalize hS:Ru L k=S;unfold Ru at hS;rw[Du.enc_eq];refine Ac (vs:=[S]) AmT (by simp) (by simp) λn0 a=>?_;clear a;simp only[push_cast,rq]
 repeat' (first|((apply AL<;>intro _h)<;>(simp only[push_cast,rq];try (have _g:=_h;simp at _g)))|intro _)
 all_goals (simp only[*,AbA,Ab9,Int.reduceBEq,reduceCtorEq] at hS;subst hS;exact Kn)
def Og(k:Int)(v:Ch):Bool:=if k==9 then FA v&&v.type==1 else FA v&&v.type==2
theorem AjY k v (c:v.text.length<=2^30):Ak π O 159 [.i .i64 k,v.enc] [] (.b (Og k v)) []:=by
 have hp:=Je O v c;generalize hS:Og k v=S;unfold Og at hS;generalize FA v=A at *;rw[Ch.enc_eq] at hp⊢;refine Ac (vs:=[.b S]) AkA (by simp) (by simp) λn0 a=>?_;clear a;simp only[push_cast,rq];repeat' (first|(first|(apply AL<;>intro _h)|refine Ab hp ?_)<;>simp only[push_cast,rq,_h]|intro _)
 all_goals (simp only[*,bq,AbA,Ab9] at hS;subst hS;exact Kn)
def Ro:Aa:=[111,116,104,101,114]
def Ex(L:Du)(k:Int)(v:Ch):List Aa:=if k==9 then[v.text,Ro] else[61::v.text,(Cs (Ib L k) v.text).1,Ro]
theorem jC L k v (q:v.text.length<=2^29)(p:Ax L.card+Ax L.ord<=2^24):Ak π O 202 [L.enc,.i .i64 k,v.enc] [] (.sl ((Ex L k v).map V.s)) []:=by
 have f:=Q8 O L k;have h:Ax (Ib L k)<=2^30:=by
  unfold Ib;split
  .omega
  .split
   .omega
   .simp[Ax]
 have g:Ak π O 56 [Ru L k,.s v.text] [] (.tup [.s (Cs (Ib L k) v.text).1,.i .i64 (Cs (Ib L k) v.text).2]) []:=by
  refine Jq (MV O (Ib L k) v.text (by omega) h) rfl λj a o c b=>?_
  match j with
  | 0=>simp at c b;subst c b;exact Zz L k
  | 1=>simp at c b;subst c b;exact .refl _
  | j+2=>simp at c
 generalize hS:Ex L k v=S;unfold Ex at hS;generalize(Cs (Ib L k) v.text).1=l at *;generalize(Cs (Ib L k) v.text).2=m at *;generalize Ru L k=R at *;rw[Du.enc_eq] at f⊢;rw[Ch.enc_eq];have e:1+v.text.length<=AG:=by unfold AG;omega
 refine Ac (vs:=[.sl (S.map V.s)]) Anf (by simp) (by simp) λn0 d=>?_;clear d;simp only[push_cast,rq]
 repeat' (first|((apply AL<;>intro _h)<;>simp only[push_cast,rq,_h])|((first|refine Ab (by exact f) ?_|refine Ab (by exact g) ?_);simp only[push_cast,rq,Arp e])|intro _)
 all_goals (simp only[*,AbA,Ab9,reduceCtorEq] at hS;subst hS)
 .exact Af (by simp[get,Ro])
 .exact Af (by simp[get,Ro])
def CY(keys:List Aa):List Aa->Int
 | []=>-1
 | w::a=>if AV (λx=>w==x) keys<0 then CY keys a else AV (λx=>w==x) keys
theorem eZ keys a:-1<=CY keys a/\CY keys a<keys.length:=by
 induction a with
 | nil=>simp only[CY];omega
 | cons w a b=>
  rw[CY];split
  .exact b
  .have:=QA (λx=>w==x) keys;omega
theorem iC L k keys v (p:v.text.length<=2^29)(j:Ax L.card+Ax L.ord<=2^24)(q:keys.length<=2^30) :
  Ak π O 160 [L.enc,.i .i64 k,.sl (keys.map V.s),v.enc] [] (.i .i64 (CY keys (Ex L k v))) []:=by
 have c:=jC O L k v p j;have d:=λw:Aa=>JN O nK keys w (by omega);generalize hS:CY keys (Ex L k v)=S;have g:(Ex L k v).length<=3:=by unfold Ex;split<;>simp
 generalize Ex L k v=W at *;rw[Du.enc_eq] at c⊢;rw[Ch.enc_eq] at c⊢;refine Ac (vs:=[.i .i64 S]) AmZ (by simp) (by simp) λn0 e=>?_;clear e;simp only[push_cast,rq]
 repeat' (first|((apply AL<;>intro _h)<;>simp only[push_cast,rq,_h,Afb])|(refine Ab (by exact c) ?_;simp only[push_cast,rq])|intro _)
 have ⟨τ,hτ⟩:∃τ:Aq,τ=[]:=⟨[],rfl⟩
 refine Aj W.length (Inv:=λm st=>∃dn a n,W=dn++a/\m=a.length/\CY keys a=S/\st=⟨[(2,.sl (keys.map V.s)),(15,.sl (W.map V.s)),(16,.i .i64 W.length),(17,.i .i64 dn.length)],τ,n⟩) ⟨_,by rw[hτ];exact Ag.drop (λ_ _ h=>by cases h) (Ab6 _),[],W,_,rfl,rfl,hS,rfl⟩ ?_;clear hS c;rintro m _ ⟨dn,a,n,f,rfl,b,rfl⟩;cases a with
 | nil=>rw[CY] at b;subst b;simp only[push_cast,rq,f];intros;exact Kn
 | cons w a=>
  have l:=A9 f;rw[CY] at b;have o:=d w;generalize AV (λx=>w==x) keys=I at *;simp only[push_cast,rq,f]
  repeat' (first|((apply AL<;>intro _h)<;>simp only[push_cast,rq,Ae w (dn:=dn) (by omega)])|(refine Ab (by exact o) ?_;simp only[push_cast,rq])|intro _)
  .have hI:I>=0:=Awz _h;rw[AfL (by omega)] at b;subst b;exact Kn
  .have hI:¬I>=0:=AvV _h;rw[Amm (by omega)] at b;exact⟨_,_,Ab4 _,Ag.refl,dn++[w],a,_,by simp,rfl,b,rfl⟩
def IA(L:Du)(p:Ad)(vs:List Ch):Int×Int:=
 if !AI p.kind then(0,1) else if !AW [] (Ib L p.kind) then(0,18) else match Fo vs p.name with
 | none=>(0,12)
 | some v=>if !Og p.kind v then(0,11) else if CY (p.cases.map (·.1)) (Ex L p.kind v)<0 then(0,13) else(CY (p.cases.map (·.1)) (Ex L p.kind v),0)
theorem wG(L:Du)(p:Ad)(vs:List Ch)(hb:Ax L.card+Ax L.ord<=2^24)(hw:p.wt<=2^24)(hl:vs.length<=2^40)(ht:∀v∈vs,v.text.length<=2^29/\v.list.length<=2^30) :
  Ak π O 118 [L.enc,p.enc,.sl (vs.map Ch.enc)] [] (.tup [.i .i64 (IA L p vs).1,.i .i64 (IA L p vs).2]) []:=by
 have B:=Lx O vs p.name hl (λv M=>(ht v M).2);have hs:=D7 O p.kind;have ay:=p.wt_eq;have aw:=Er p.cases;have U:=Q8 O L p.kind;have af:Ax (Ib L p.kind)<=2^30:=by
  unfold Ib;split
  .omega
  .split
   .omega
   .simp[Ax]
 have M:Ak π O 18 [Ru L p.kind] [] (.b (AW [] (Ib L p.kind))) []:=by
  refine Jq (Fu O (Ib L p.kind) af) rfl λj a a' Z F=>?_
  match j with
  | 0=>simp at Z F;subst Z F;exact Zz L p.kind
  | j+1=>simp at Z
 generalize hS:IA L p vs=S;unfold IA at hS;generalize AW [] (Ib L p.kind)=R at *;generalize Ru L p.kind=RV at *;have ac:∀v,Fo vs p.name=some v->v∈vs:=λv h=>Gd h;generalize Fo vs p.name=G at *;generalize AI p.kind=D at *;rw[Du.enc_eq] at U⊢;rw[Ad.enc_eq];cases G with
 | none=>
  simp only[O2,gV,dC,AyQ] at B;refine Ac (vs:=[.i .i64 S.1,.i .i64 S.2]) pV (by simp) (by simp) λn0 u=>?_;clear u;cases D<;>cases R
  all_goals (simp only[bq,AbA,Ab9] at hS;subst hS;simp only[push_cast,rq])
  all_goals (repeat' (first|(first|refine Ab (by exact B) ?_|refine Ab (by exact hs) ?_|refine Ab (by exact U) ?_|refine Ab (by exact M) ?_)|intro _)<;>(try simp only[push_cast,rq]))
  all_goals (refine Ah ?_;simp[push_cast])
 | some v=>
  have ⟨ht1,ht2⟩:=ht v (ac v rfl);have A:=AjY O p.kind v (by omega);simp only[O2,gV,AwY] at B;simp only at hS;rw[Ch.enc_eq] at B A;generalize Og p.kind v=N at *;refine Ac (vs:=[.i .i64 S.1,.i .i64 S.2]) pV (by simp) (by simp) λn0 u=>?_;clear u;by_cases o:(D&&R&&N)=true
  .simp only[AaS] at o;obtain⟨⟨rfl,rfl⟩,rfl⟩:=o;simp only[bq,Ab9] at hS;have K:=iC O L p.kind (p.cases.map (·.1)) v (by omega) hb (by simp;omega);rw[Du.enc_eq,Ch.enc_eq] at K;generalize CY (p.cases.map (·.1)) (Ex L p.kind v)=FI at *;simp only[push_cast,rq]
   repeat' (first|(first|refine Ab (by exact B) ?_|refine Ab (by exact hs) ?_|refine Ab (by exact U) ?_|refine Ab (by exact M) ?_|refine Ab (by exact A) ?_)|intro _)<;>(try simp only[push_cast,rq])
   rename_i k1 k2 k3 k4 k5 k6 k7 k8;have ⟨x8,hx8⟩:∃x:Id,x=(n0+1+k1,8):=⟨_,rfl⟩
   have ⟨n1,hn1⟩:∃n,n=n0+1+k1+1+k2+1+k3+1+k4+1+k5+1+k6+1+k7+1+k8:=⟨_,rfl⟩
   rw[<-hx8,<-hn1];have aa:x8.1<n1:=by rw[hx8];simp only;omega
   have aq:n0<n1:=by omega
   have Y:((n0,4):Id)≠x8:=by rw[hx8];simp
   have X:((n0,3):Id)≠x8:=by rw[hx8];simp
   clear hx8 hn1;generalize g:((x8,_)::_:Aq)=τ;have t3:lk τ (n0,3)=some (.box (.agg [.s L.tag,.s L.parent,.s L.dir,.sl (L.card.map A8.enc),.sl (L.ord.map A8.enc),.s L.dec,.s L.grp,.s L.minus,.s L.perc,.i .i64 L.prim,.i .i64 L.sec,.sl (L.lists.map Ed.enc),.sl (L.units.map Fv.enc),.sl (L.dates.map E4.enc),.sl (L.months.map V.s),.sl (L.days.map V.s)])):=by rw[<-g];simp[lk,Ao0 X]
   have t4:lk τ (n0,4)=some (.box (.agg [.i .i64 p.kind,.s p.text,.s p.name,.s p.style,.sl (p.cases.map AD.enc),.sl (p.parts.map Ad.enc)])):=by rw[<-g];simp[lk,Ao0 Y]
   have t8:lk τ x8=some (.box (.agg [.s v.name,.i .i64 v.type,.s v.text,.i .i64 v.date,.sl (v.list.map V.s)])):=by rw[<-g];simp[lk]
   have tn:∀id:Id,n1<=id.1->lk τ id=none/\del τ id=τ:=by
    intro id q;have e1:x8≠id:=λl=>by rw[l] at aa;omega
    have e2:((n0,4):Id)≠id:=λl=>by rw[<-l] at q;simp only at q;omega
    have e3:((n0,3):Id)≠id:=λl=>by rw[<-l] at q;simp only at q;omega
    rw[<-g];exact⟨by simp[lk,e1,e2,e3],by simp[del,e1,e2,e3]⟩
   clear g;refine Aj p.cases.length (Inv:=λm st=>∃dn d n id,p.cases=dn++d/\m=d.length/\n1<=n/\n1<=id.1/\id.1<n/\st=⟨[(3,.ref (n0,3) 0),(4,.ref (n0,4) 0),(8,.ref x8 0),(10,.arr id),(43,.sl (p.cases.map AD.enc)),(44,.i .i64 p.cases.length),(45,.i .i64 dn.length)],(id,.arr 9 1 ((dn.map (·.1)).map V.s))::τ,n⟩) ⟨_,(Ag.own (s:=10) (e:=9) (sz:=1) (k:=0) rfl).trans (Ag.envD (env':=[(3,.ref (n0,3) 0),(4,.ref (n0,4) 0),(8,.ref x8 0),(10,.arr (n1,0)),(43,.sl (p.cases.map AD.enc)),(44,.i .i64 p.cases.length),(45,.i .i64 0)]) (λt=>?_) (Ab6 _)),[],p.cases,_,(n1,0),rfl,rfl,?_,Ab6 _,Ab4 _,rfl⟩ ?_
   .left;simp only[get];by_cases E:10=t
    .subst E;simp
    .simp[E]
   .omega
   rintro m _ ⟨dn,d,n,id,C,rfl,hn,J,au,rfl⟩;have td:=(tn id J).2;cases d with
   | nil=>
    have r:decide ((dn.length:Int)<(p.cases.length:Int))=false:=by rw[C];simp
    simp only[push_cast,rq,r];intros;refine H3 (Ag.frzAt (s:=10) (id:=id) rfl (tn id J).1 (λy hy=>by obtain⟨z,_,rfl⟩:=Aov.1 hy;rfl) (Ab6 _)) ?_;rw[show dn=p.cases by rw[C];simp];simp only[push_cast,rq,t3,t4,t8]
    repeat' (first|(((first|apply Ai|apply Am|apply Al)<;>intro _h)<;>simp only[push_cast,rq])|(refine Ab (by exact K) ?_;simp only[push_cast,rq])|intro _)
    .have f:FI<0:=Awz _h;rw[Amm f] at hS;subst hS;refine Ah ?_;simp[push_cast]
    .have f:¬FI<0:=AvV _h;rw[AfL f] at hS;subst hS;refine Ah ?_;simp[push_cast]
   | cons c d=>
    have ar:=A9 C;have r:decide ((dn.length:Int)<(p.cases.length:Int))=true:=by rw[C];simp;omega
    have I:(p.cases.map AD.enc)[dn.length]?=some (AD.enc c):=by rw[C];simp
    have ag:IntKind.i64.wrap ((dn.length:Int)+1)=((dn++[c]).length:Int):=Ae c (by omega);have ab:dn.length+1<=AJ:=by unfold AJ;omega
    have f1:∀k j:Nat,((n+1+k,j)=id)=False:=λk j=>Ab8 λl=>(by have:=A1o Prod.fst l;(try simp only at this);omega)
    have ao:∀k j:Nat,(id=(n+1+k,j))=False:=λk j=>Ab8 λl=>AiZ (f1 k j) l.symm;simp only[push_cast,rq,r,I,ag,f1,td,Arp ab];intros;have hm:List.map V.s (List.map (λx=>x.1) dn)++[V.s c.1]=((dn++[c]).map (·.1)).map V.s:=by simp
    rw[hm];exact⟨_,_,Ab4 _,Ag.dropM (tn _ (by simp only;omega)).1 (Ab6 _),dn++[c],d,_,_,by rw[C];simp,rfl,by omega,by simp only;omega,by simp only;omega,rfl⟩
  .have ad:D=false\/R=false\/N=false:=by revert o;cases D<;>cases R<;>cases N<;>simp
   clear o;cases D<;>cases R<;>cases N
   all_goals (first|(simp at ad;done)|skip)
   all_goals (simp only[bq,AbA,Ab9] at hS;subst hS;simp only[push_cast,rq])
   all_goals (repeat' (first|(first|refine Ab (by exact B) ?_|refine Ab (by exact hs) ?_|refine Ab (by exact U) ?_|refine Ab (by exact M) ?_|refine Ab (by exact A) ?_)|intro _)<;>(try simp only[push_cast,rq]))
   all_goals (refine Ah ?_;simp[push_cast])
end Go.Ir
section
namespace Go.Ir
open Go.Proofs
variable(O:World)
inductive Ev where
 | pc (s:Aa)
 | er (e:Int)
def NH(a:Bool)(r:Aa×Int):Ev:=if r.2==0 then .pc (if a then P3 r.1 else r.1) else .er r.2
def Pt(X:WX)(k:Int)(a cnt:Aa):Aa:=if k==9 then cnt else match Fo X.vs a with
 | some v=>v.text
 | none=>[]
mutual
def bE(X:WX):Ad->Aa->List Ev
 | ⟨k,t,a,st,cs,ps⟩,cnt=>
  if k==1 then[.pc t]
  else if k==10 then[NH X.iso (Dc X.L cnt [])]
  else if k==11 then .pc (60::(a++[62]))::(C6 X ps cnt++[.pc (60::47::(a++[62]))])
  else if k==7||(k==8||k==9) then
   (if(IA X.L ⟨k,t,a,st,cs,ps⟩ X.vs).2==0 then(a8 X cs (Pt X k a cnt))[(IA X.L ⟨k,t,a,st,cs,ps⟩ X.vs).1.toNat]?.getD [] else[.er (IA X.L ⟨k,t,a,st,cs,ps⟩ X.vs).2])
  else match Fo X.vs a with
   | none=>[.er 12]
   | some v=>[NH X.iso (LG X.L k st v)]
def C6(X:WX):List Ad->Aa->List Ev
 | [],_=>[]
 | p::ps,cnt=>bE X p cnt++C6 X ps cnt
def a8(X:WX):List (Aa×List Ad)->Aa->List (List Ev)
 | [],_=>[]
 | c::cs,cnt=>evC X c cnt::a8 X cs cnt
def evC(X:WX):Aa×List Ad->Aa->List Ev
 | (_,ps),cnt=>C6 X ps cnt
end
theorem Eo X cnt:C6 X [] cnt=[]:=by simp only[C6]
theorem FP X p ps cnt:C6 X (p::ps) cnt=bE X p cnt++C6 X ps cnt:=by simp only[C6]
theorem Sn X cnt:∀(cs:List AD) (i:Nat) (c),cs[i]?=some c->(a8 X cs cnt)[i]?=some (C6 X c.2 cnt)
 | [],i,c,h=>by simp at h
 | (k,ps)::cs,0,c,h=>by simp at h;subst h;simp only[a8,evC];rfl
 | (k,ps)::cs,i+1,c,h=>by simp only[a8,Azq];exact Sn X cnt cs i c (by simpa using h)
def E7(st:Aa×Int):Ev->Aa×Int
 | .pc s=>(st.1++s,if((st.1++s).length:Int)>20000 then 6 else st.2)
 | .er e=>(st.1,e)
def Db:Aa×Int->List Ev->Aa×Int
 | st,[]=>st
 | st,ev::es=>if st.2==0 then Db (E7 st ev) es else st
theorem DC st (h:(st.2==0)=false) es:Db st es=st:=by
 cases es with
 | nil=>rfl
 | cons ev es=>rw[Db,h];rfl
theorem KK a b:∀st,Db st (a++b)=Db (Db st a) b:=by
 induction a with
 | nil=>intro st;rfl
 | cons ev a c=>
  intro st;rw[AvC,Db,Db];split
  .exact c _
  .rename_i h;rw[DC st (by simpa using h)]
def Gz(a:Id)(X:WX)(u:Bool)(b:Id)(st:Aa×Int):Aq:=[(a,.tbox TW (wC X (wA u a) b st.2)),(b,.arr 5 1 (A6 st.1))]
theorem LR{a b X u l}:Gz a X u b (l,0)=Ly a X u b l:=rfl
def iL(c:Id)(X:WX)(b:Id)(st:Aa×Int)(n n':Nat)(v:V)(σ':Aq):Prop:=v=.tup []/\∃(d:Bool) (a:Id),(n<=a.1/\a.1<n'\/a=b)/\σ'=Gz c X d a st
theorem oV{a b X u st τ}:lk (Gz a X u b st++τ) a=some (.tbox TW (wC X (wA u a) b st.2)):=by simp[Gz,lk]
theorem MN{a b X u st}:lk (Gz a X u b st) a=some (.tbox TW (wC X (wA u a) b st.2)):=by simp[Gz,lk]
theorem aM{a b x X u st e}(c:a≠x)(d:b≠x):lk (Gz a X u b st++[(x,e)]) x=some e:=by simp[Gz,lk,c,d]
theorem KT{a b x X u st}(c:a≠x)(d:b≠x):lk (Gz a X u b st) x=none:=by simp[Gz,lk,c,d]
theorem Ta{a b x X u st e σo}(d:a≠x)(f:b≠x):over (Gz a X u b st) σo ((x,e)::Gz a X u b st)=σo++[(x,e)]:=
 Fs (pre:=[(x,e)]) (λp hp q c=>by simp[Gz] at hp c;grind)
theorem PH{a b x X u st e σo}(d:a≠x)(f:b≠x):over (Gz a X u b st) σo (Gz a X u b st++[(x,e)])=σo++[(x,e)]:=by have:=Gw (σi:=Gz a X u b st) (σo:=σo) (pre:=[]) (post:=[(x,e)]) (λp hp=>by cases hp) (λp hp q c=>by simp[Gz] at hp c;grind);simpa using this
theorem GD{a b x X u st e}:∀i z,lk (Gz a X u b st) i=some z->lk (Gz a X u b st++[(x,e)]) i=some z:=λi z h=>AK h
theorem IL(a b:Id)(X:WX)(u:Bool)(l t:Aa)(g:b≠a)(h:l.length+t.length<=2^30) :
  FK π O 114 [.ref a 0,.s t] (Gz a X u b (l,0)) (iL a X b (E7 (l,0) (.pc t))):=by
 generalize i:iL a X b (E7 (l,0) (.pc t))=R;refine C7 AkD (by simp) λn0 e=>?_;rw[LR] at *;have x:a.1<n0:=e a _ (by simp[Ly,lk];rfl);have r:b.1<n0:=e b _ (by simp[Ly,lk,Ao0 g];rfl);clear e;simp only[push_cast,seval];intro k1;refine Bd (Aas O a b X u l t g (by omega)) (λ_ _ h=>h) (λy v σo o i=>?_);obtain⟨rfl,f,⟨j,k⟩,rfl⟩:=i;rw[Ie];simp only[push_cast,seval];intro k2;have c:f≠a:=λm=>by rw[m] at j;omega
 refine AX (Anl O a f X true (l++t) c) (λ_ _ h=>h) ?_;rw[B5];cases d:decide (((l++t).length:Int)>20000) with
 | false=>simp only[push_cast,seval,d];intro k3;subst i;refine⟨_,Ag.refl,[],_,trivial,λ_ _ h=>h,rfl,true,f,.inl ⟨by omega,by simp only;omega⟩,?_⟩;unfold E7;simp only;rw[AfL (AvV d)];rfl
 | true=>have p:(a=f)=False:=Ab8 (Ao0 c);have q:(f=a)=False:=Ab8 c;simp only[push_cast,seval,d,Ly];intros;subst i;refine⟨_,Ag.refl,[],_,trivial,λ_ _ h=>h,rfl,true,f,.inl ⟨by omega,by simp only;omega⟩,?_⟩;unfold E7;simp only;rw[Amm (Awz d)];rfl
theorem XW(a b:Id)(X:WX)(u:Bool)(l:Aa)(r:Aa×Int)(d:b≠a)(F:l.length<=20000)(z:r.1.length<=2^24) :
  FK π O 115 [.ref a 0,.s r.1,.i .i64 r.2] (Gz a X u b (l,0)) (iL a X b (E7 (l,0) (NH X.iso r))):=by
 have ⟨t,e⟩:=r;simp only at *;have A:=Abv t;have q:=Ajj O t z;generalize c:NH X.iso (t,e)=T;unfold NH at c;simp only at c;generalize o:iL a X b (E7 (l,0) T)=R;refine C7 AnN (by simp) λn0 j=>?_;rw[LR] at *;have G:a.1<n0:=j a _ (by simp[Ly,lk];rfl);have E:b.1<n0:=j b _ (by simp[Ly,lk,Ao0 d];rfl);clear j;cases k:(e==0) with
 | false=>rw[k] at c;simp only[Ab7,Ab9] at c;subst c;have C:(a=b)=False:=Ab8 (Ao0 d);have D:(b=a)=False:=Ab8 d;simp only[push_cast,seval,bne,k,Ly];intros;subst o;exact⟨_,Ag.refl,[],_,trivial,λ_ _ h=>h,rfl,u,b,.inr rfl,rfl⟩
 | true=>
  rw[k] at c;simp only[AbA] at c;cases hI:X.iso with
  | true=>
   rw[hI] at c;simp only[AbA] at c;subst c;generalize P3 t=y at *;simp only[push_cast,seval,bne,k,hI,CK];repeat' (first|(first|(apply AL<;>intro _h)|refine Ab q ?_)<;>simp only[push_cast,seval]|intro _)
   refine Bd (IL O a b X u l y d (by omega)) (λ_ _ h=>h) (λB v σo p f=>?_);obtain⟨rfl,x,m,g,rfl⟩:=f;rw[LR,Ie];simp only[push_cast];intros;subst o;exact⟨_,Ag.refl,[],_,trivial,λ_ _ h=>h,rfl,x,m,EE g (by omega) (by simp only;omega),rfl⟩
  | false=>rw[hI] at c;simp only[Ab7,Ab9] at c;subst c;simp only[push_cast,seval,bne,k,hI,CK];intros;refine Bd (IL O a b X u l t d (by omega)) (λ_ _ h=>h) (λB v σo p f=>?_);obtain⟨rfl,x,m,g,rfl⟩:=f;rw[LR,Ie];simp only[push_cast];intros;subst o;exact⟨_,Ag.refl,[],_,trivial,λ_ _ h=>h,rfl,x,m,EE g (by omega) (by simp only;omega),rfl⟩
def VO(st:Aa×Int):Prop:=(st.2==0)=true->st.1.length<=20000
theorem PA{st}(h:st.1.length<=20000) ev:VO (E7 st ev):=by
 cases ev with
 | pc s=>intro a;unfold E7 at a⊢;grind
 | er e=>intro _;exact h
theorem Ot es:∀(st),VO st->VO (Db st es):=by
 induction es with
 | nil=>intro st h;exact h
 | cons ev es b=>
  intro st h;rw[Db];split
  .rename_i a;exact b _ (PA (h a) ev)
  .exact h
theorem AjM{a b X u st}(h:(st.2==0)=true):Gz a X u b st=Gz a X u b (st.1,0):=by grind
structure XOk (X:WX) (c:Nat):Prop where
 L:uX X.L c
 rules:Ax X.L.card+Ax X.L.ord<=2^24
 vals:∀v∈X.vs,ZN v/\v.text.length<=2^24
 n:X.vs.length<=2^40
 dlen:∀sk d,(FM X.L sk d).1.length<=2^24
theorem Acf N c 
  (ih:∀(ps) (cnt:Aa) (a b) (X) (u) (st),XOk X c->A7 ps<N->cnt.length<=2^24->b≠a->VO st->A7 ps<=2^24->
   FK π O 59 [.ref a 0,.sl (ps.map Ad.enc),.s cnt] (Gz a X u b st) (iL a X b (Db st (C6 X ps cnt))))
  (p:Ad)(cnt:Aa) a b X u l (hX:XOk X c)(hN:A7 p.parts<N)(hc:cnt.length<=2^24)(y:b≠a)(h:l.length<=20000)(U:p.wt<=2^24) :
  FK π O 117 [.ref a 0,p.enc,.s cnt] (Gz a X u b (l,0)) (iL a X b (Db (l,0) (.pc (60::(p.name++[62]))::(C6 X p.parts cnt++[.pc (60::47::(p.name++[62]))])))):=by
 have ah:=p.wt_eq;have ag:p.name.length<=2^24:=by omega
 rw[show Db (l,0) (.pc (60::(p.name++[62]))::(C6 X p.parts cnt++[.pc (60::47::(p.name++[62]))]))=Db (Db (E7 (l,0) (.pc (60::(p.name++[62])))) (C6 X p.parts cnt)) [.pc (60::47::(p.name++[62]))] from by rw[Db,KK];rfl];have C:=PA (st:=(l,0)) h (.pc (60::(p.name++[62])));have B:=IL O a b X u l (60::(p.name++[62])) y (by grind);generalize E7 (l,0) (.pc (60::(p.name++[62])))=K at *;have J:=Ot (C6 X p.parts cnt) K C;have G:=λo L (E:o≠a)=>ih p.parts cnt a o X L K hX hN hc E C (by omega);generalize Db K (C6 X p.parts cnt)=f at *;generalize g:iL a X b (Db f [.pc (60::47::(p.name++[62]))])=R;refine C7 AjS (by simp) λn0 m=>?_;have U:a.1<n0:=m a _ (by simp[Gz,lk];rfl);have hb:b.1<n0:=m b _ (by simp[Gz,lk,Ao0 y];rfl);clear m;simp only[push_cast,rq];intro k1;refine As (by unfold AG;omega) ?_;simp only[push_cast];refine As (by unfold AG;omega) ?_;simp only[push_cast,rq];have ⟨x,hx⟩:∃x:Id,x=(n0,4):=⟨_,rfl⟩
 have ai:x.1=n0:=by rw[hx]
 rw[<-hx];have e:a≠x:=λd=>by rw[d] at U;omega
 have t:b≠x:=λd=>by rw[d] at hb;omega
 intros;refine Bd B (Cj (KT e t)) (λn2 v σo af g=>?_);obtain⟨rfl,L,o,q,rfl⟩:=g;rw[Ta e t];have i:o≠x:=λd=>by grind
 have z:o≠a:=λd=>by grind
 simp only[push_cast,rq,aM e i];intros;refine Bd (G o L z) GD (λn3 v σo M g=>?_);obtain⟨rfl,V,D,r,rfl⟩:=g;rw[PH e i];have j:D≠x:=λd=>by grind
 have A:D≠a:=λd=>by grind
 cases d:(f.2==0) with
 | false=>simp only[push_cast,rq,oV,d];intros;subst g;rw[DC f d];exact⟨_,Ag.refl,[],_,trivial,GD,rfl,V,D,aQ (EE q (by omega) (by simp only;omega)) (EE r (by omega) (by simp only;omega)),rfl⟩
 | true=>
  have ae:=J d;have k:=IL O a D X V f.1 (60::47::(p.name++[62])) A (by grind);rw[<-AjM d] at k;simp only[push_cast,rq,oV,aM e j,d];intros;refine As (by unfold AG;omega) ?_;simp only[push_cast];refine As (by unfold AG;omega) ?_;simp only[push_cast,rq];intros;refine Bd k GD (λn4 v σo S g=>?_);obtain⟨rfl,u3,Y,F,rfl⟩:=g;rw[PH e j];simp only[push_cast];intros;subst g;have I:Db f [.pc (60::47::(p.name++[62]))]=E7 (f.1,0) (.pc (60::47::(p.name++[62]))):=by
   have E:f.2=0:=by simpa using d
   have Z:f=(f.1,0):=by rw[<-E]
   rw[Db,d,Z];rfl
  rw[I];exact⟨_,Ag.refl,[],_,trivial,GD,rfl,u3,Y,aQ (aQ (EE q (by omega) (by simp only;omega)) (EE r (by omega) (by simp only;omega))) (EE F (by omega) (by simp only;omega)),rfl⟩
theorem Gl X p cnt:bE X p cnt=if p.kind==1 then[.pc p.text]
  else if p.kind==10 then[NH X.iso (Dc X.L cnt [])]
  else if p.kind==11 then .pc (60::(p.name++[62]))::(C6 X p.parts cnt++[.pc (60::47::(p.name++[62]))])
  else if p.kind==7||(p.kind==8||p.kind==9) then
   (if(IA X.L p X.vs).2==0 then(a8 X p.cases (Pt X p.kind p.name cnt))[(IA X.L p X.vs).1.toNat]?.getD [] else[.er (IA X.L p X.vs).2])
  else match Fo X.vs p.name with
   | none=>[.er 12]
   | some v=>[NH X.iso (LG X.L p.kind p.style v)]:=by cases p;simp only[bE]
theorem Uv l ev:Db (l,0) [ev]=E7 (l,0) ev:=rfl
theorem Amn{L p vs}(h:((IA L p vs).2==0)=true):∃(v:Ch) (i:Nat) (c:AD),Fo vs p.name=some v/\(IA L p vs).1=i/\p.cases[i]?=some c:=by
 have a:(IA L p vs).2=0:=by simpa using h
 clear h;unfold IA at a⊢;split at a
 .cases a
 .rename_i b;rw[AfL b];split at a
  .cases a
  .rename_i d;rw[AfL d];split at a
   .cases a
   .rename_i v g;rw[g]
    try simp only
    split at a
    .cases a
    .rename_i c3;rw[AfL c3];split at a
     .cases a
     .rename_i e;rw[AfL e];have f:=eZ (p.cases.map (·.1)) (Ex L p.kind v);rw[Afb] at f;refine⟨v,(CY (p.cases.map (·.1)) (Ex L p.kind v)).toNat,p.cases[(CY (p.cases.map (·.1)) (Ex L p.kind v)).toNat]'(by omega),rfl,by omega,Am7 (by omega)⟩
theorem U3 L (a:M1 L)(b:Zm L) u n (c:n.length<=2^30):(GI L u n).1.length<=2^16+(2^23+2^19):=by
 have d:=Il L a n [] c;unfold GI;split
 .split
  .simp
  .rename_i p hp;have:=Q6 b hp;have:=Uy p [123,48,125] (Dc L n []).1;grind
 .simp
theorem SM L st l:(GN L st l).1.length<=20000:=by unfold GN;grind
theorem tB(b:Cu O) X c (a:XOk X c) k st v (d:v∈X.vs):(LG X.L k st v).1.length<=2^24:=by have ⟨v1,v2⟩:=a.vals v d;have e:=Il X.L a.L.sym v.text st (by omega);have a2:=U3 X.L a.L.sym a.L.uni st v.text (by omega);have a3:=a.dlen st v.date;have a4:=SM X.L st v.list;have a5:=(NO O b v.date).2;unfold LG;grind
theorem AbV{pre σ}(h:∀q∈pre,lk σ q.1=none):∀i e,lk σ i=some e->lk (pre++σ) i=some e:=by
 induction pre with
 | nil=>intro i e h;exact h
 | cons a pre d=>intro i e c;have ⟨ai,ae⟩:=a;have b:=h (ai,ae) (by simp);show(if ai=i then some ae else lk (pre++σ) i)=some e;grind
theorem N7{a b x y X u st c d σo}(f:a≠x)(g:b≠x)(h:a≠y)(i:b≠y):over (Gz a X u b st) σo ((y,c)::(x,d)::Gz a X u b st)=σo++[(y,c),(x,d)]:=
 Fs (pre:=[(y,c),(x,d)]) (λp hp q e=>by
  simp[Gz] at hp e;rcases hp with rfl|rfl<;>rcases e with rfl|rfl
  .exact Ao0 h
  .exact Ao0 i
  .exact Ao0 f
  .exact Ao0 g)
theorem Nc{a b x y X u st c d}(g:a≠x)(h:b≠x)(j:a≠y)(k:b≠y):∀i e,lk (Gz a X u b st) i=some e->lk ((y,c)::(x,d)::Gz a X u b st) i=some e:=
 AbV (pre:=[(y,c),(x,d)]) λq f=>by
  simp at f;rcases f with rfl|rfl
  .exact KT j k
  .exact KT g h
theorem Ad1(hM:BS O)(hT:Cu O)(N c:Nat)
  (ih:∀(ps:List Ad) (cnt:Aa) (e b:Id) (X:WX) (u:Bool) (st:Aa×Int),XOk X c->A7 ps<N->cnt.length<=2^24->b≠e->VO st->A7 ps<=2^24->
   FK π O 59 [.ref e 0,.sl (ps.map Ad.enc),.s cnt] (Gz e X u b st) (iL e X b (Db st (C6 X ps cnt))))
  (p:Ad)(cnt:Aa)(e b:Id)(X:WX)(u:Bool)(l:Aa)(K:XOk X c)(hN:p.wt<=N)(hc:cnt.length<=2^24)(I:b≠e)(h:l.length<=20000)(ao:p.wt<=2^24) :
  FK π O 88 [.ref e 0,p.enc,.s cnt] (Gz e X u b (l,0)) (iL e X b (Db (l,0) (bE X p cnt))):=by
 have aU:=p.wt_eq;have d:=Gl X p cnt;generalize hE:bE X p cnt=E at *;generalize hR:iL e X b (Db (l,0) E)=R;refine C7 At6 (by simp) λn0 ap=>?_;have hw:e.1<n0:=ap e _ (by simp[Gz,lk];rfl);have hb:b.1<n0:=ap b _ (by simp[Gz,lk,Ao0 I];rfl);clear ap hE;have ⟨x,hx⟩:∃x:Id,x=(n0,4):=⟨_,rfl⟩
 have an:x.1=n0:=by rw[hx]
 have j:e≠x:=λA=>by rw[A] at hw;omega
 have g:b≠x:=λA=>by rw[A] at hb;omega
 have a:(x=e)=False:=Ab8 (Ao0 j);have f:(e=x)=False:=Ab8 j;have V:(x=b)=False:=Ab8 (Ao0 g);have S:(b=x)=False:=Ab8 g;have U:(e=b)=False:=Ab8 (Ao0 I);have M:(b=e)=False:=Ab8 I;rw[LR];cases F:(p.kind==1) with
 | true=>rw[F] at d;simp only[AbA] at d;subst d;have az:=IL O e b X u l p.text I (by omega);rw[LR] at az;simp only[push_cast,seval,F,<-hx];intros;refine Bd az (Cj (Ri j g)) (λn2 v σo Z r=>?_);obtain⟨rfl,u1,Y,t,rfl⟩:=r;rw[Ng j g];simp only[push_cast];intros;subst hR;exact⟨_,Ag.refl,[],_,trivial,GD,rfl,u1,Y,EE t (by omega) (by simp only;omega),rfl⟩
 | false=>
  rw[F] at d;simp only[Ab7,Ab9] at d;cases G:(p.kind==10) with
  | true=>
   rw[G] at d;simp only[AbA] at d;subst d;have ay:=OR O X.L K.L.sym cnt [] (by omega);have aT:=Il X.L K.L.sym cnt [] (by omega);have ai:=XW O e b X u l (Dc X.L cnt []) I h (by omega);rw[LR] at ai;rw[Du.enc_eq] at ay;generalize Dc X.L cnt []=NF at *;simp only[push_cast,seval,F,G,<-hx,CK,a]
   repeat' (first|(((first|apply Ai|apply Am|apply Al)<;>intro _h)<;>simp only[push_cast,seval,_h,F,G,<-hx,CK,a])|(refine Ab (by exact ay) ?_;simp only[push_cast,seval])|intro _)
   refine Bd ai (Cj (Ri j g)) (λn2 v σo Z r=>?_);obtain⟨rfl,u1,Y,t,rfl⟩:=r;rw[Ng j g];simp only[push_cast];intros;subst hR;exact⟨_,Ag.refl,[],_,trivial,GD,rfl,u1,Y,EE t (by omega) (by simp only;omega),rfl⟩
  | false=>
   rw[G] at d;simp only[Ab7,Ab9] at d;cases J:(p.kind==11) with
   | true=>rw[J] at d;simp only[AbA] at d;subst d;have aw:=Acf O N c ih p cnt e b X u l K (by omega) hc I h ao;rw[Ad.enc_eq,LR] at aw;simp only[push_cast,seval,F,G,J,<-hx];intros;refine Bd aw (Cj (Ri j g)) (λn2 v σo Z r=>?_);obtain⟨rfl,u1,Y,t,rfl⟩:=r;rw[Ng j g];simp only[push_cast];intros;subst hR;exact⟨_,Ag.refl,[],_,trivial,GD,rfl,u1,Y,EE t (by omega) (by simp only;omega),rfl⟩
   | false=>
    rw[J] at d;simp only[Ab7,Ab9] at d;have B:=Lx O X.vs p.name K.n (λv hv=>(K.vals v hv).1.len);cases e4:(p.kind==7||(p.kind==8||p.kind==9)) with
    | true=>
     rw[e4] at d;simp only[AbA] at d;have ag:=wG O X.L p X.vs K.rules ao K.n (λv hv=>⟨by have:=(K.vals v hv).2;omega,(K.vals v hv).1.len⟩);have aH:=@Amn X.L p X.vs;rw[Du.enc_eq,Ad.enc_eq] at ag;generalize IA X.L p X.vs=CH at *;have ⟨ci,ce⟩:=CH;simp only at *;have av:((p.kind==7)=true/\(p.kind==8)=false/\(p.kind==9)=false)\/((p.kind==7)=false/\(p.kind==8)=true/\(p.kind==9)=false)\/((p.kind==7)=false/\(p.kind==8)=false/\(p.kind==9)=true):=by simp only[AzS,AjK] at e4;simp only[AjK,A1s];omega
     cases hC:(ce==0) with
     | false=>
      rw[hC] at d;simp only[Ab7,Ab9] at d;subst d;subst hR;rcases av with⟨h7,h8,h9⟩|⟨h7,h8,h9⟩|⟨h7,h8,h9⟩
      all_goals
       skip;simp only[push_cast,seval,F,G,J,h7,h8,h9,<-hx,Ly,a]
       repeat' (first|(((first|apply Ai|apply Am|apply Al)<;>intro _h)<;>simp only[push_cast,seval,_h,F,G,J,bne,hC,h7,h8,h9,<-hx,Ly,a,f,V,S,U,M])|((first|refine Ab (by exact ag) ?_|refine As (by simp only[Ajd,An9,AtX,AG]<;>omega) ?_);simp only[push_cast,seval,bne,hC,a])|intro _)
       exact⟨_,Ag.refl,[],Gz e X u b (l,ce),trivial,Cj (KT j g),rfl,u,b,.inr rfl,rfl⟩
     | true=>
      rw[hC] at d;simp only[AbA] at d;obtain⟨v,i,cs,hv,rfl,hi⟩:=aH hC;have ax:=Ao6 hi;have aS:=B7 ax;have aG:=(Ao5.1 hi).1;have C:(i<p.cases.length)=True:=Arp aG;have m:(p.cases.map AD.enc)[i]?=some (.agg [.s cs.1,.sl (cs.2.map Ad.enc)]):=by rw[ArI,hi];simp[AD.enc_eq]
      have aE:=λcn=>Sn X cn p.cases i cs hi;rw[hv] at B;simp only[O2,gV,AwY] at B;rw[Ch.enc_eq] at B;have ⟨hv1,hv2⟩:=K.vals v (Gd hv);rw[A1i,aE] at d;simp only[Option.getD_some] at d;subst d;have al:=λcn (aF:cn.length<=2^24)=>ih cs.2 cn e b X u (l,0) K (by omega) aF I (λ_=>h) (by omega);simp only[LR] at al;rcases av with⟨h7,h8,h9⟩|⟨h7,h8,h9⟩|⟨h7,h8,h9⟩
      .have ah:Pt X p.kind p.name cnt=v.text:=by unfold Pt;rw[h9,hv];rfl
       rw[ah] at hR;simp only[push_cast,seval,F,G,J,h7,<-hx,CK,a]
       repeat' (first|(((first|apply Ai|apply Am|apply Al)<;>intro _h)<;>simp only[push_cast,seval,_h,F,G,J,bne,hC,h7,h8,h9,<-hx,CK,a,f,m,C,Afb])|((first|refine Ab (by exact ag) ?_|refine Ab (by exact B) ?_|refine As (by simp only <;>omega) ?_);simp only[push_cast,seval,bne,hC,h9,CK,a])|intro _)
       generalize hy:((_,8):Id)=y;have o:n0<y.1:=by rw[<-hy];simp only;omega
       have k:y≠e:=λA=>by rw[A] at o;omega
       have q:y≠b:=λA=>by rw[A] at o;omega
       have D:y≠x:=λA=>by rw[A,an] at o;omega
       have y1:=Ab8 k;have y2:=Ab8 (Ao0 k);have y5:=Ab8 D;have y6:=Ab8 (Ao0 D);simp only[push_cast,seval,y5,m]
       repeat' (first|(((first|apply Ai|apply Am|apply Al)<;>intro _h)<;>simp only[push_cast,seval,_h,a,f,y1,y2,y5,y6,CK,m,C,Afb])|(refine As (by simp only <;>omega) ?_;simp only[push_cast,seval,a,f,y1,y2,y5,y6,CK,m,C,Afb])|intro _)
       refine Bd (al v.text hv2) (Nc (st:=(l,0)) j g (Ao0 k) (Ao0 q)) (λn2 v σo Z r=>?_);obtain⟨rfl,u1,Y,t,rfl⟩:=r;rw[<-LR,N7 j g (Ao0 k) (Ao0 q)];simp only[push_cast];intros;subst hR;exact⟨_,Ag.refl,[],_,trivial,λi z h=>AK h,rfl,u1,Y,EE t (by omega) (by simp only;omega),rfl⟩
      .have ah:Pt X p.kind p.name cnt=v.text:=by unfold Pt;rw[h9,hv];rfl
       rw[ah] at hR;simp only[push_cast,seval,F,G,J,h7,h8,<-hx,CK,a]
       repeat' (first|(((first|apply Ai|apply Am|apply Al)<;>intro _h)<;>simp only[push_cast,seval,_h,F,G,J,bne,hC,h7,h8,h9,<-hx,CK,a,f,m,C,Afb])|((first|refine Ab (by exact ag) ?_|refine Ab (by exact B) ?_|refine As (by simp only[Ajd,An9,AtX,AG]<;>omega) ?_);simp only[push_cast,seval,bne,hC,h9,CK,a])|intro _)
       generalize hy:((_,8):Id)=y;have o:n0<y.1:=by rw[<-hy];simp only;omega
       have k:y≠e:=λA=>by rw[A] at o;omega
       have q:y≠b:=λA=>by rw[A] at o;omega
       have D:y≠x:=λA=>by rw[A,an] at o;omega
       have y1:=Ab8 k;have y2:=Ab8 (Ao0 k);have y5:=Ab8 D;have y6:=Ab8 (Ao0 D);simp only[push_cast,seval,y5,m]
       repeat' (first|(((first|apply Ai|apply Am|apply Al)<;>intro _h)<;>simp only[push_cast,seval,_h,a,f,y1,y2,y5,y6,CK,m,C,Afb])|(refine As (by simp only <;>omega) ?_;simp only[push_cast,seval,a,f,y1,y2,y5,y6,CK,m,C,Afb])|intro _)
       refine Bd (al v.text hv2) (Nc (st:=(l,0)) j g (Ao0 k) (Ao0 q)) (λn2 v σo Z r=>?_);obtain⟨rfl,u1,Y,t,rfl⟩:=r;rw[<-LR,N7 j g (Ao0 k) (Ao0 q)];simp only[push_cast];intros;subst hR;exact⟨_,Ag.refl,[],_,trivial,λi z h=>AK h,rfl,u1,Y,EE t (by omega) (by simp only;omega),rfl⟩
      .have ah:Pt X p.kind p.name cnt=cnt:=by unfold Pt;rw[h9];rfl
       rw[ah] at hR;skip;simp only[push_cast,seval,F,G,J,h7,h8,h9,<-hx,CK,a]
       repeat' (first|(((first|apply Ai|apply Am|apply Al)<;>intro _h)<;>simp only[push_cast,seval,_h,F,G,J,bne,hC,h7,h8,h9,<-hx,CK,a,f,m,C,Afb])|((first|refine Ab (by exact ag) ?_|refine As (by simp only[Ajd,An9,AtX,AG]<;>omega) ?_);simp only[push_cast,seval,bne,hC,h9,m])|intro _)
       refine Bd (al cnt hc) (Cj (Ri j g)) (λn2 v σo Z r=>?_);obtain⟨rfl,u1,Y,t,rfl⟩:=r;rw[Ng j g];simp only[push_cast];intros;subst hR;exact⟨_,Ag.refl,[],_,trivial,GD,rfl,u1,Y,EE t (by omega) (by simp only;omega),rfl⟩
    | false=>
     rw[e4] at d;simp only[Azt] at e4;have ⟨e5,e6,e7⟩:=e4;simp only[Ab7,Ab9] at d;cases hG:Fo X.vs p.name with
     | none=>
      rw[hG] at d B;simp only at d;subst d;simp only[O2,gV,dC,AyQ] at B;simp only[push_cast,seval,F,G,J,e5,e6,e7,<-hx,Ly,a]
      repeat' (first|(((first|apply Ai|apply Am|apply Al)<;>intro _h)<;>simp only[push_cast,seval,_h,F,G,J,e5,e6,e7,<-hx,Ly,lk,a,f,V,S,U,M])|((first|refine Ab (by exact B) ?_|refine As (by simp only <;>omega) ?_);simp only[push_cast,seval,a])|intro _)
      generalize hy:((_,10):Id)=y;have o:n0<y.1:=by rw[<-hy];simp only;omega
      have k:y≠e:=λA=>by rw[A] at o;omega
      have q:y≠b:=λA=>by rw[A] at o;omega
      have D:y≠x:=λA=>by rw[A,an] at o;omega
      have y1:=Ab8 k;have y2:=Ab8 (Ao0 k);have y3:=Ab8 q;have y4:=Ab8 (Ao0 q);have y5:=Ab8 D;have y6:=Ab8 (Ao0 D);simp only[push_cast,seval,a,y1]
      repeat' (first|(((first|apply Ai|apply Am|apply Al)<;>intro _h)<;>simp only[push_cast,seval,_h,a,f,V,S,U,M,y1,y2,y3,y4,y5,y6])|(refine As (by simp only <;>omega) ?_;simp only[push_cast,seval,a,f,V,S,U,M,y1,y2,y3,y4,y5,y6])|intro _)
      subst hR;exact⟨_,Ag.refl,[],Gz e X u b (l,12),trivial,Nc j g (Ao0 k) (Ao0 q),rfl,u,b,.inr rfl,rfl⟩
     | some v=>
      rw[hG] at d B;simp only at d;subst d;have ⟨hv1,hv2⟩:=K.vals v (Gd hG);have af:=WW O hM hT X.L c K.L p v hv1 (by omega);have aD:=tB O hT X c K p.kind p.style v (Gd hG);have ai:=XW O e b X u l (LG X.L p.kind p.style v) I h aD;rw[LR] at ai;rw[Du.enc_eq,Ad.enc_eq,Ch.enc_eq] at af;simp only[O2,gV,AwY] at B;rw[Ch.enc_eq] at B;generalize LG X.L p.kind p.style v=NF at *;simp only[push_cast,seval,F,G,J,e5,e6,e7,<-hx,CK,a]
      repeat' (first|(((first|apply Ai|apply Am|apply Al)<;>intro _h)<;>simp only[push_cast,seval,_h,F,G,J,e5,e6,e7,<-hx,CK,a,f])|((first|refine Ab (by exact B) ?_|refine Ab (by exact af) ?_|refine As (by simp only <;>omega) ?_);simp only[push_cast,seval,CK,a])|intro _)
      generalize hy:((_,10):Id)=y;have o:n0<y.1:=by rw[<-hy];simp only;omega
      have k:y≠e:=λA=>by rw[A] at o;omega
      have q:y≠b:=λA=>by rw[A] at o;omega
      have D:y≠x:=λA=>by rw[A,an] at o;omega
      have y1:=Ab8 k;have y2:=Ab8 (Ao0 k);have y3:=Ab8 q;have y4:=Ab8 (Ao0 q);have y5:=Ab8 D;have y6:=Ab8 (Ao0 D);simp only[push_cast,seval,y1,y5]
      repeat' (first|(((first|apply Ai|apply Am|apply Al)<;>intro _h)<;>simp only[push_cast,seval,_h,a,f,y1,y2,y5,y6,CK])|((first|refine Ab (by exact af) ?_|refine As (by simp only <;>omega) ?_);simp only[push_cast,seval])|intro _)
      refine Bd ai (Nc (st:=(l,0)) j g (Ao0 k) (Ao0 q)) (λn2 v σo Z r=>?_);obtain⟨rfl,u1,Y,t,rfl⟩:=r;rw[<-LR,N7 j g (Ao0 k) (Ao0 q)];simp only[push_cast];intros;subst hR;exact⟨_,Ag.refl,[],_,trivial,λi z h=>AK h,rfl,u1,Y,EE t (by omega) (by simp only;omega),rfl⟩
theorem Abq(hM:BS O)(hT:Cu O)(c:Nat):∀(N:Nat) (ps:List Ad) (cnt:Aa) (a b:Id) (X:WX) (u:Bool) (st:Aa×Int),XOk X c->A7 ps<N->cnt.length<=2^24->b≠a->VO st->A7 ps<=2^24->
   FK π O 59 [.ref a 0,.sl (ps.map Ad.enc),.s cnt] (Gz a X u b st) (iL a X b (Db st (C6 X ps cnt))):=by
 intro N
 induction N with
 | zero=>intro ps cnt a b X u st _ h;omega
 | succ N ih=>
 intro ps cnt a r X u0 F hX hN hc j hI V;have U:=El ps;generalize hS:Db F (C6 X ps cnt)=S;generalize G:iL a X r S=R;refine C7 ApC (by simp) λn0 q=>?_;have hw:a.1<n0:=q a _ (by simp[Gz,lk];rfl);have ad:r.1<n0:=q r _ (by simp[Gz,lk,Ao0 j];rfl);clear q;simp only[push_cast,seval];intros;refine Aj ps.length (Inv:=λm st=>∃dn d n u b w,ps=dn++d/\m=d.length/\Db w (C6 X d cnt)=S/\VO w/\A7 d<=A7 ps/\n0<=n/\(n0<=b.1/\b.1<n\/b=r)/\st=⟨[(0,.ref a 0),(2,.s cnt),(8,.sl (ps.map Ad.enc)),(9,.i .i64 ps.length),(10,.i .i64 dn.length)],Gz a X u b w,n⟩) ⟨_,Ag.refl,[],ps,_,u0,r,F,rfl,rfl,hS,hI,Ab6 _,?_,.inr rfl,rfl⟩ ?_
 .omega
 clear hS hI;rintro m _ ⟨dn,d,n,u,b,w,E,rfl,o,hI,L,hn,t,rfl⟩;cases d with
 | nil=>rw[Eo] at o;simp only[Db] at o;subst o;simp only[push_cast,seval,E];intros;subst G;exact⟨_,Ag.refl,[],_,trivial,λ_ _ h=>h,rfl,u,b,EE t (Ab6 _) (by simp only;omega),rfl⟩
 | cons p d=>
  have ae:=A9 E;rw[FP,KK] at o;rw[A5] at L;have ah:=p.wt_eq;have K:b≠a:=λf=>by rcases t with h|h;(rw[f] at h;omega);exact j (h ▸ f)
  obtain⟨x,Y⟩:∃x:Nat->Id,x=λk=>(n+1+k,7):=⟨_,rfl⟩;have C:∀k,(n+1+k,7)=x k:=λk=>by rw[Y]
  have D:∀k,(x k).1=n+1+k:=λk=>by rw[Y]
  have g:∀k,a≠x k:=λk f=>by have:=D k;rw[<-f] at this;omega
  have y:∀k,b≠x k:=λk f=>by have:=D k;rw[<-f] at this;rcases t with h|h;omega;(rw[h] at this;omega)
  have z:∀k,lk (Gz a X u b w) (x k)=none:=λk=>KT (g k) (y k);cases f:(w.2==0) with
  | false=>
   rw[DC w f,DC w f] at o;subst o;simp only[push_cast,seval,E,C,MN,Ab8 (Ao0 (g _)),f,bne];intros;subst G;refine⟨_,Ag.refl,[],Gz a X u b w,trivial,?_,rfl,u,b,EE t (Ab6 _) (by simp only;omega),rfl⟩
   first|exact λ_ _ h=>h|exact Cj (z _)
  | true=>
   have B:w.2=0:=by simpa using f
   have ⟨l,e⟩:=w;simp only at B;subst B;have M:=hI f;simp only at M;have I:=Ot (bE X p cnt) (l,0) hI;have A:=Ad1 O hM hT N c ih p cnt a b X u l hX (by omega) hc K M (by omega);rw[Ad.enc_eq] at A;generalize Db (l,0) (bE X p cnt)=w' at *;simp only[push_cast,seval,E,C,MN,Ab8 (Ao0 (g _))];intros;refine Bd A (Cj (z _)) (λn2 v σo ag G=>?_);obtain⟨rfl,u1,Z,J,rfl⟩:=G;rw[Ta (g _) (y _)];simp only[push_cast,seval,Ae p (dn:=dn) (by omega)];intros;exact⟨_,_,Ab4 _,Ag.pre (Ab6 _),dn++[p],d,_,u1,Z,w',by simp,rfl,o,I,by rw[<-E];omega,by omega,aQ (EE t (Ab6 _) (by omega)) (EE J (by omega) (by omega)),rfl⟩
def HN(L:Du)(ps:List Ad)(vs:List Ch)(a:Bool):Aa×Int:=
 if Ck ps then(if(Db ([],0) (C6 ⟨L,vs,a⟩ ps [])).2==0 then Db ([],0) (C6 ⟨L,vs,a⟩ ps []) else([],(Db ([],0) (C6 ⟨L,vs,a⟩ ps [])).2)) else([],1)
theorem Pz(D:BS O)(F:Cu O)(c:Nat)(L:Du)(vs:List Ch)(d:Bool)(ps:List Ad)(G:XOk ⟨L,vs,d⟩ c)(B:A7 ps<=2^24) :
  Ak π O 26 [L.enc,.sl (ps.map Ad.enc),.sl (vs.map Ch.enc),.b d] [] (.tup [.s (HN L ps vs d).1,.i .i64 (HN L ps vs d).2]) []:=by
 have g:=MR O ps B;have o:=λwid b (f:b≠wid)=>Abq O D F c _ ps [] wid b ⟨L,vs,d⟩ false ([],0) G (Ab4 _) (by simp) f (λ_=>by simp) B;have k:=Ot (C6 ⟨L,vs,d⟩ ps []) ([],0) (λ_=>by simp);generalize hS:HN L ps vs d=S;unfold HN at hS;generalize Ck ps=C at *;generalize Db ([],0) (C6 ⟨L,vs,d⟩ ps [])=w at *;refine Ac (vs:=[.s S.1,.i .i64 S.2]) Ao9 (by simp) (by simp) λn0 t=>?_;clear t;cases C with
 | false=>
  simp only[Ab7,Ab9] at hS;subst hS;simp only[push_cast,seval];repeat' (first|(first|((first|apply Ai|apply Am|apply Al)<;>intro _h)|refine Ab g ?_|refine As (by omega) ?_)<;>simp only[push_cast,seval]|intro _)
  refine Ah ?_;simp[push_cast]
 | true=>
  simp only[AbA] at hS;simp only[push_cast,seval];repeat' (first|(first|((first|apply Ai|apply Am|apply Al)<;>intro _h)|refine Ab g ?_)<;>simp only[push_cast,seval]|intro _)
  rename_i k1 k2 k3;have ⟨wid,hwid⟩:∃x:Id,x=(n0+1+k1+1+k2,18):=⟨_,rfl⟩
  have y:wid.1<n0+1+k1+1+k2+1+k3:=by rw[hwid];simp only;omega
  rw[<-hwid];generalize n0+1+k1+1+k2+1+k3=z at y⊢;have f:((z,0):Id)≠wid:=λj=>by grind
  refine H3 (((Ag.pre (Ab6 _) (σ:=[_])).trans (Ag.ownTbox (A:=[.np]) 5 1 0)).trans (Ag.drop (σ':=Gz wid ⟨L,vs,d⟩ false (z,0) ([],0)) (Lu (Ao0 f)) (Ab6 _))) ?_;simp only[push_cast,seval];intros;refine Bd (o wid (z,0) f) (λ_ _ h=>h) (λM v σo J E=>?_);obtain⟨rfl,u,b,K,rfl⟩:=E;have m:b≠wid:=λj=>by grind
  rw[Ie];cases j:(w.2==0) with
  | false=>rw[j] at hS;simp only[Ab7,Ab9] at hS;subst hS;simp only[push_cast,seval,MN,j,bne];intros;refine Ah ?_;simp[push_cast]
  | true=>
   rw[j] at hS;simp only[AbA] at hS;subst hS;have I:=k j;have q:w.2=0:=by simpa using j
   have ⟨l,e⟩:=w;simp only at q I;subst q;simp only[push_cast,seval,MN];intros;have p:=Qg (O:=O) (T:=TW) (id:=wid) (bid:=b) (l:=l) (a:=wA u wid) (r:=[.s L.tag,.s L.parent,.s L.dir,.sl (L.card.map A8.enc),.sl (L.ord.map A8.enc),.s L.dec,.s L.grp,.s L.minus,.s L.perc,.i .i64 L.prim,.i .i64 L.sec,.sl (L.lists.map Ed.enc),.sl (L.units.map Fv.enc),.sl (L.dates.map E4.enc),.sl (L.months.map V.s),.sl (L.days.map V.s),.sl (vs.map Ch.enc),.b d,.i .i64 0]) m (by unfold AG;omega);refine AX p (λ_ _ h=>h) ?_;simp only[push_cast,seval];intros;refine Ah ?_;simp[push_cast]
end Go.Ir
end
namespace Go.Ir
theorem IU X cnt a b:C6 X (a++b) cnt=C6 X a cnt++C6 X b cnt:=by
 induction a with
 | nil=>rw[Eo];rfl
 | cons p a c=>rw[AvC,FP,FP,c,Azs]
theorem AnH l ev es:Db (l,0) (ev::es)=Db (E7 (l,0) ev) es:=rfl
theorem Rf l s (h:¬((l++s).length:Int)>20000):E7 (l,0) (.pc s)=(l++s,0):=by unfold E7;simp only;rw[AfL h]
theorem Na l s (h:((l++s).length:Int)>20000):E7 (l,0) (.pc s)=(l++s,6):=by unfold E7;simp only;rw[Amm h]
end Go.Ir

namespace Go.Ir
open Go.Proofs
variable(O:World)
theorem AcF c:EL c=Bq.contains c:=by
 have h:∀n:_root_.Fin 256,EL (UInt8.ofNat n.val)=Bq.contains (UInt8.ofNat n.val):=by decide +kernel
 have:=h ⟨c.toNat,c.toNat_lt⟩;simpa using this
theorem fF(p:Aa):Lib.trimLeftS p Bq=p.drop (p.takeWhile EL).length/\p.length-(Lib.trimLeftS p Bq).length=(p.takeWhile EL).length:=by
 have a:Lib.trimLeftS p Bq=p.dropWhile EL:=by unfold Lib.trimLeftS;congr 1;funext c;rw[AcF]
 have b:p.takeWhile EL++p.dropWhile EL=p:=List.takeWhile_append_dropWhile;grind
theorem pF(l:Cu O) x c (r:Qs x c):∀(n) (p) (out g),Dq n p out=some g->out.length<=g.length/\∀(m) (a),(C4 x m p a).1.length<=a.length+p.length+(g.length-out.length)*c:=by
 intro n
 induction n with
 | zero=>intro p out g h;simp[Dq] at h
 | succ n i=>
  intro p out g h;rw[Dq] at h;have ⟨t1,t2⟩:=fF p;rw[t2,t1] at h;split at h
  .rename_i d;cases h;refine⟨Ab6 _,λm a=>?_⟩;cases m with
   | zero=>rw[C4];simp only;omega
   | succ m=>rw[C4,Amm d];simp only;omega
  .rename_i d;have o:1<=p.length:=by grind
   have q:(p.takeWhile EL).length<=p.length:=(List.takeWhile_sublist _).length_le;generalize e:(p.takeWhile EL).length=k at *;split at h
   .rename_i j;have b:k=0:=by simp_all
    have ⟨i1,i2⟩:=i _ _ _ h;refine⟨i1,λm a=>?_⟩;cases m with
    | zero=>rw[C4];simp only;omega
    | succ m=>rw[C4,AfL d,e,Amm (by simp[b])];grind
   .rename_i j;have b:1<=k:=by grind
    split at h
    .have ⟨i1,i2⟩:=i _ _ _ h;rw[Ajd,List.length_singleton] at i1 i2;refine⟨by omega,λm a=>?_⟩;have f:(g.length-out.length)*c=(g.length-(out.length+1))*c+c:=by rw[show g.length-out.length=(g.length-(out.length+1))+1 by omega,Nat.succ_mul]
     cases m with
     | zero=>rw[C4];simp only;omega
     | succ m=>have s:=NY O l x c r (p.take k);rw[C4,AfL d,e,AfL (by simp;omega)];grind
    .cases h
theorem Up:∀(n) (p) (out g),Dq n p out=some g->(∀f∈out,GP f=true)->∀f∈g,GP f=true:=by
 intro n
 induction n with
 | zero=>intro p out g h;simp[Dq] at h
 | succ n b=>intro p out g h a;rw[Dq] at h;grind
theorem WI{f}(h:GP f=true):f.take 1∈DH:=by unfold GP Gg at h;simp only[A2c,Avv] at h;simp only[Ahk,AzL,or_false] at h;rcases h with rfl|rfl|rfl|rfl|rfl|rfl|rfl<;>decide
theorem Q9{Q:List Aa}(f:Q.Pairwise (λx y=>x<=y))(a:(Lib.compact Q).length=Q.length):Q.Nodup:=by
 unfold Lib.compact Lib.compactUpTo at a;rw[Afb] at a;have b:((List.range Q.length).filter (Lib.keeps Q.toArray)).length=(List.range Q.length).length:=by rw[a,A1R]
 rw[List.length_filter_eq_length_iff] at b;rw[List.pairwise_iff_getElem] at f;unfold List.Nodup;rw[List.pairwise_iff_getElem];intro i j h d c g;have e:=b j (by simpa using d);unfold Lib.keeps at e;grind
theorem wM{p}(h:cM p=true):∃g,I8 p=some g/\g.length<=4:=by
 have:∃l,EB l p=true:=by unfold cM at h;simp only[A0z] at h;grind
 have ⟨l,h⟩:=this;unfold EB at h;split at h
 .rename_i w g s d;simp only[AaS] at h;refine⟨g,d,?_⟩;have e:=h.2.1;unfold HO at e;simp only[AjK] at e;have k:(M9 (g.map λf=>f.take 1)).length=g.length:=by unfold M9;simp_all
  have o:=Q9 (Q:=M9 (g.map λf=>f.take 1)) (by unfold M9;have:=List.pairwise_mergeSort (le:=fun(x y:Aa)=>decide (x<=y)) (λa b c q r=>by grind) (λa b=>by grind) (g.map λf=>f.take 1);simpa using this) (by rw[e,k]);have j:=L6 o (b:=DH) λx i=>by unfold M9 at i;rw[A2r] at i;obtain⟨f,m,rfl⟩:=Aov.1 i;unfold I8 at d;exact WI (Up _ _ _ _ d (by simp) f m)
  rw[k] at j;exact j
 .cases h
theorem SR(e:Cu O) L c (b:yM L c)(f:c<=2^20) k d:(FM L k d).1.length<=2^24:=by
 unfold FM;cases h:EH d with
 | false=>simp
 | true=>
  have ⟨q1,q2,q3,q4,q5,q6⟩:=QZ h;have a:Qs (My L d) c:=by
   have l:(d+25567).tmod 7<7:=Int.tmod_lt_of_pos _ (by omega);refine⟨?_,q3,q4,?_,?_,b.c24,b.ml,b.dl⟩
   .show(IY d).1.toNat<_;omega
   .show((GR d).2+1).toNat<_;omega
   .show((d+25567).tmod 7).toNat<_;omega
  simp only[AbA];split
  .simp
  .split
   .split
    .rename_i p hp;split
     .rename_i i;have ⟨g,hg,h4⟩:=wM i;unfold I8 at hg;have j:=(b.pt p (Ao6 hp)).1;have:=(pF O e (My L d) c a _ _ _ _ hg).2 (p.pat.length+1) [];unfold Ka;have m:(g.length-0)*c<=4*2^20:=A1N (by omega) f;grind
     .simp
    .simp
   .simp
theorem EV{a f}:∀{l} {x:a},x∈l->f x<=BT f l
 | [],x,h=>by cases h
 | y::l,x,h=>by
  rw[BT];rcases Ahk.1 h with rfl|h
  .omega
  .have:=EV (f:=f) h;omega
theorem Ae6 a b (h:a+b<=40026):a*b<=2^29:=by
 have key:∀a k:Nat,2*a+k<=40026->a*(a+k)<=2^29:=by intro a k h;have c:(2*a+k)*(2*a+k)<=40026*40026:=A1N h h;grind
 rcases Nat.le_total a b with c|c
 .obtain⟨k,rfl⟩:∃k,b=a+k:=⟨b-a,by omega⟩;exact key a k (by omega)
 .obtain⟨k,rfl⟩:∃k,a=b+k:=⟨a-b,by omega⟩;grind
theorem Ajw L (h:Pa L<=40000)(hp:-9223372036854775808<=L.prim)(a:L.sec<9223372036854775808)(i:Ax L.card+Ax L.ord<=2^24):uX L (Gu L.months+Gu L.days+24)/\Gu L.months+Gu L.days+24<=2^20:=by
 have c:Gu [L.tag,L.parent,L.dir,L.dec,L.grp,L.minus,L.perc]=Ju L.tag+(Ju L.parent+(Ju L.dir+(Ju L.dec+(Ju L.grp+(Ju L.minus+(Ju L.perc+0)))))):=rfl;unfold Pa at h;rw[c] at h;unfold Ju at h;have l1:L.lists.length<=BT Ed.sz L.lists:=Gk (λx=>by unfold Ed.sz Gu;simp only[BT,Ju];omega) _;have j:L.units.length<=BT Fv.sz L.units:=Gk (λx=>by unfold Fv.sz Gu;simp only[BT,Ju];omega) _;have k:L.dates.length<=BT E4.sz L.dates:=Gk (λx=>by unfold E4.sz Gu;simp only[BT,Ju];omega) _;have g:∀s∈L.months,s.length<=Gu L.months:=λs a=>by have:=EV (f:=Ju) a;unfold Gu;unfold Ju at this⊢;omega
 have b:∀s∈L.days,s.length<=Gu L.days:=λs a=>by have:=EV (f:=Ju) a;unfold Gu;unfold Ju at this⊢;omega
 refine⟨⟨⟨?_,?_,?_,?_,hp,a⟩,⟨by omega,λu d=>?_⟩,⟨by omega,λp hp=>?_⟩,⟨by omega,λs a=>?_,λs a=>?_,by omega,λp hp=>?_,λp hp=>?_⟩,by omega⟩,by omega⟩
 .omega
 .omega
 .omega
 .omega
 .have:=EV (f:=Fv.sz) d;unfold Fv.sz Gu at this;simp only[BT,Ju] at this;unfold Fv.sz Gu at h;simp only[BT,Ju] at h;omega
 .have:=EV (f:=Ed.sz) hp;have e:Ed.sz p=p.style.length+p.two.length+p.start.length+p.mid.length+p.fin.length+(Ed.sz p-(p.style.length+p.two.length+p.start.length+p.mid.length+p.fin.length)):=by unfold Ed.sz Gu;simp only[BT,Ju];omega
  omega
 .have:=g s a;omega
 .have:=b s a;omega
 .have:=EV (f:=E4.sz) hp;have e:p.skel.length+p.pat.length<=E4.sz p:=by unfold E4.sz Gu;simp only[BT,Ju];omega
  omega
 .have:=EV (f:=E4.sz) hp;have e:p.skel.length+p.pat.length<=E4.sz p:=by unfold E4.sz Gu;simp only[BT,Ju];omega
  refine⟨by omega,Ae6 _ _ (by omega)⟩
end Go.Ir

namespace Go.Ir
open Go.Proofs Go.RowKit
variable(O:World)
def KC(a:Type):V->Option (List a):=Tv λ_=>none
theorem Fn{a} enc:JG (KC a) λl=>.sl (l.map enc):=Jm λv x h=>by cases h
def qX:V->Option Du
 | .agg [a,b,c,h,i,d,e,f,g,p,q,j,k,l,m,o]=>(Ei a).bind λa=>(Ei b).bind λb=>(Ei c).bind λc=>(KC A8 h).bind λh=>(KC A8 i).bind λi=>(Ei d).bind λd=>(Ei e).bind λe=>(Ei f).bind λf=>(Ei g).bind λg=>(Kh p).bind λp=>(Kh q).bind λq=>(KC Ed j).bind λj=>(KC Fv k).bind λk=>(KC E4 l).bind λl=>(KC Aa m).bind λm=>(KC Aa o).bind λo=>some ⟨a,b,c,h,i,d,e,f,g,p,q,j,k,l,m,o⟩
 | _=>none
theorem o5:JG qX Du.enc:=by
 intro v l h;unfold qX at h;split at h
 .have ⟨a,h0,h⟩:=AbS.1 h;have ⟨b,h1,h⟩:=AbS.1 h;have ⟨c,h2,h⟩:=AbS.1 h;have ⟨x1,h3,h⟩:=AbS.1 h;have ⟨x2,h4,h⟩:=AbS.1 h;have ⟨d,h5,h⟩:=AbS.1 h;have ⟨e,h6,h⟩:=AbS.1 h;have ⟨f,h7,h⟩:=AbS.1 h;have ⟨g,h8,h⟩:=AbS.1 h;have ⟨p,h9,h⟩:=AbS.1 h;have ⟨q,h10,h⟩:=AbS.1 h;have ⟨y1,h11,h⟩:=AbS.1 h;have ⟨y2,h12,h⟩:=AbS.1 h;have ⟨y3,h13,h⟩:=AbS.1 h;have ⟨y4,h14,h⟩:=AbS.1 h;have ⟨y5,h15,h⟩:=AbS.1 h;cases h;rw[Du.enc_eq];refine⟨.agg _ _ rfl λj c m k i=>?_,rfl,rfl,rfl⟩
  match j with
  | 0=>simp at k i;subst k i;exact(Cq _ _ h0).1
  | 1=>simp at k i;subst k i;exact(Cq _ _ h1).1
  | 2=>simp at k i;subst k i;exact(Cq _ _ h2).1
  | 3=>simp at k i;subst k i;exact(Fn _ _ _ h3).1
  | 4=>simp at k i;subst k i;exact(Fn _ _ _ h4).1
  | 5=>simp at k i;subst k i;exact(Cq _ _ h5).1
  | 6=>simp at k i;subst k i;exact(Cq _ _ h6).1
  | 7=>simp at k i;subst k i;exact(Cq _ _ h7).1
  | 8=>simp at k i;subst k i;exact(Cq _ _ h8).1
  | 9=>simp at k i;subst k i;exact(HB _ _ h9).1
  | 10=>simp at k i;subst k i;exact(HB _ _ h10).1
  | 11=>simp at k i;subst k i;exact(Fn _ _ _ h11).1
  | 12=>simp at k i;subst k i;exact(Fn _ _ _ h12).1
  | 13=>simp at k i;subst k i;exact(Fn _ _ _ h13).1
  | 14=>simp at k i;subst k i;exact(Fn _ _ _ h14).1
  | 15=>simp at k i;subst k i;exact(Fn _ _ _ h15).1
  | j+16=>simp at k
 .cases h
def Vr:V->Option Ch
 | .agg [a,b,c,d,e]=>(Ei a).bind λa=>(Kh b).bind λb=>(Ei c).bind λc=>(Kh d).bind λd=>(KC Aa e).bind λe=>some ⟨a,b,c,d,e⟩
 | _=>none
theorem bL:JG Vr Ch.enc:=by
 intro v l h;unfold Vr at h;split at h
 .have ⟨a,h0,h⟩:=AbS.1 h;have ⟨b,h1,h⟩:=AbS.1 h;have ⟨c,h2,h⟩:=AbS.1 h;have ⟨d,h3,h⟩:=AbS.1 h;have ⟨e,h4,h⟩:=AbS.1 h;cases h;rw[Ch.enc_eq];refine⟨.agg _ _ rfl λj c i g f=>?_,rfl,rfl,rfl⟩
  match j with
  | 0=>simp at g f;subst g f;exact(Cq _ _ h0).1
  | 1=>simp at g f;subst g f;exact(HB _ _ h1).1
  | 2=>simp at g f;subst g f;exact(Cq _ _ h2).1
  | 3=>simp at g f;subst g f;exact(HB _ _ h3).1
  | 4=>simp at g f;subst g f;exact(Fn _ _ _ h4).1
  | j+5=>simp at g
 .cases h
def Amz(L:Du)(ps:List Ad)(vs:List Ch):Bool:=
 Nat.ble (Pa L) 40000&&(Nat.ble (Ax L.card+Ax L.ord) 1000000&&(decide (-9223372036854775808<=L.prim)&&(decide (L.sec<9223372036854775808)&&(Nat.ble (A7 ps) 1000000&&(Nat.ble vs.length 1000&&vs.all λv=>Nat.ble v.text.length 1000000&&v.list.isEmpty)))))
def QB:List V->Option V
 | [l,ps,vs,.b a]=>(qX l).bind λL=>(Tv (eY 40) ps).bind λps=>(Tv Vr vs).bind λvs=>bif Amz L ps vs then some (.tup [.s (HN L ps vs a).1,.i .i64 (HN L ps vs a).2]) else none
 | _=>none
theorem uY(c:Cu O) L vs a (h:Pa L<=40000)(hp:-9223372036854775808<=L.prim)(f:L.sec<9223372036854775808)(b:Ax L.card+Ax L.ord<=2^24)(e:vs.length<=2^40)(g:∀v∈vs,ZN v/\v.text.length<=2^24):XOk ⟨L,vs,a⟩ (Gu L.months+Gu L.days+24):=by have ⟨h1,h2⟩:=Ajw L h hp f b;exact⟨h1,b,g,e,λi d=>SR O c L _ h1.dat h2 i d⟩
theorem wI(g:BS O)(f:Cu O):Bo π O (onP 26 QB):=iT λargs v h=>by
 unfold QB at h;split at h
 .rename_i m o p e;have ⟨L,h0,h⟩:=AbS.1 h;have ⟨ps,h1,h⟩:=AbS.1 h;have ⟨vs,h2,h⟩:=AbS.1 h;cases d:Amz L ps vs with
  | false=>rw[d] at h;cases h
  | true=>
   rw[d] at h;cases h;unfold Amz at d;simp only[AaS,Avv,Ao8,A1x,A1p] at d;have ⟨b1,b2,b3,b4,b5,b6,b7⟩:=d;have i:=uY O f L vs e b1 b3 b4 (by omega) (by omega) λv j=>by have ⟨q1,q2⟩:=b7 v j;exact⟨⟨by omega,by rw[q2];simp,by rw[q2];simp⟩,by omega⟩
   refine⟨Jq (Pz O g f _ L vs e ps i (by omega)) rfl λk a l c b=>?_,rfl⟩
   match k with
   | 0=>simp at c b;subst c b;exact(o5 _ _ h0).1
   | 1=>simp at c b;subst c b;exact(Jm (QN 40) _ _ h1).1
   | 2=>simp at c b;subst c b;exact(Jm bL _ _ h2).1
   | 3=>simp at c b;subst c b;exact .refl _
   | k+4=>simp at c
 .cases h
end Go.Ir
section
set_option maxRecDepth 100000
namespace Go.Ir
open Go.Proofs
def AoV:IC:=rS [m1 3 0,bC 4 .geq 3 (.i .u8 97),m1 5 4,BY 6 5 0,gT 7 5 (.bin .leq (.t 6) (.c (.i .u8 122))),pA 8 5 7,m1 9 8,BU 10 9 0,gF 11 9 (.bin .geq (.t 10) (.c (.i .u8 65))),BU 12 9 11,BY 13 12 0,gT 14 12 (.bin .leq (.t 13) (.c (.i .u8 90))),gF 15 9 (.pick (.t 12) (.t 14) (.c (.b false))),pO 16 9 15,m1 17 16,BU 18 17 0,gF 19 17 (.bin .geq (.t 18) (.c (.i .u8 48))),BU 20 17 19,BY 21 20 0,gT 22 20 (.bin .leq (.t 21) (.c (.i .u8 57))),gF 23 17 (.pick (.t 20) (.t 22) (.c (.b false))),pO 24 17 23,m1 2 24] [2] .ret
def Atr:IC:=rS [mC 2 (.b false)] [0] AoV
def AqX:F9:=⟨25,Atr,[.t 2]⟩
theorem AoM:Dd π 85 AqX=true:=by kernel_rfl
def AbD:IC:=rS [m1 9 0,m1 10 3,o1 11 (.idx (.t 9) (.t 10)),q1 12 85 11,nT 13 12,m1 14 13,BY 15 14 0,BY 16 14 3,gT 17 14 (.idx (.t 15) (.t 16)),gT 18 14 (.bin .neq (.t 17) (.c (.i .u8 95))),pA 19 14 18,m1 20 19,BY 21 20 0,BY 22 20 3,gT 23 20 (.idx (.t 21) (.t 22)),gT 24 20 (.bin .neq (.t 23) (.c (.i .u8 45))),pA 25 20 24,m1 26 25,BY 27 26 0,BY 28 26 3,gT 29 26 (.idx (.t 27) (.t 28)),gT 30 26 (.bin .neq (.t 29) (.c (.i .u8 46))),pA 31 26 30,m1 32 31,BY 33 32 0,BY 34 32 3,gT 35 32 (.idx (.t 33) (.t 34)),gT 36 32 (.bin .neq (.t 35) (.c (.i .u8 61))),pA 37 32 36] [0,3,5,6,37] (cD 37 (rS [m1 38 3,m1 2 38] [2] .ret) .skip)
def AkU:IC:=rS [bT 7 .lss 6 5] [0,5,6,7] (sQ (cD 7 .skip (.exit 0)) (sQ (.block 1 (rS [m1 8 6,m1 3 8] [0,3,5,6] AbD)) (.seqr [bZ 39 .add 6 1,m1 6 39] [0,5,6])))
def AkF:IC:=rS [mZ 2 0] [0] (sQ (rS [m1 4 0,nS 5 4,mZ 6 0] [0,5,6] (.block 0 (.loop AkU))) (rS [m1 40 0,nS 41 40,m1 2 41] [2] .ret))
def AhM:F9:=⟨42,AkF,[.t 2]⟩
theorem Anj:Dd π 168 AhM=true:=by kernel_rfl
def AnE:IC:=rS [m1 5 0,nS 6 5,m1 7 1,nS 8 7,bT 9 .geq 6 8,m1 10 9,BY 11 10 0,BY 12 10 0,gT 13 10 (.lenS (.t 12)),BY 14 10 1,gT 15 10 (.lenS (.t 14)),gT 16 10 (.bin .sub (.t 13) (.t 15)),gT 17 10 (.slS (.t 11) (some (.t 16)) none),BY 18 10 1,gT 19 10 (.bin .eql (.t 17) (.t 18)),pA 20 10 19,m1 4 20] [4] .ret
def AjC:IC:=rS [mC 4 (.b false)] [0,1] AnE
def Aje:F9:=⟨21,AjC,[.t 4]⟩
theorem An0:Dd π 275 Aje=true:=by kernel_rfl
def AmQ:IC:=sQ (rS [m1 6 0,m1 7 1,q2 8 275 6 7,nT 9 8] [0,1,9] (cD 9 (rS [m1 10 0,m1 4 10,mC 5 (.b false)] [4,5] .ret) .skip)) (rS [m1 11 0,m1 12 0,nS 13 12,m1 14 1,nS 15 14,bT 16 .sub 13 15,o1 17 (.slS (.t 11) none (some (.t 16))),m1 4 17,mC 5 (.b true)] [4,5] .ret)
def Aj6:IC:=rS [mC 4 (.s []),mC 5 (.b false)] [0,1] AmQ
def AgK:F9:=⟨18,Aj6,[.t 4,.t 5]⟩
theorem AmS:Dd π 254 AgK=true:=by kernel_rfl
def Akd:IC:=rS [mC 4 (.s []),mC 5 (.b false)] [0,1] (rS [m1 6 0,m1 7 1,q2 8 254 6 7,xT 9 8 0,xT 10 8 1,m1 4 9,m1 5 10] [4,5] .ret)
def AgN:F9:=⟨11,Akd,[.t 4,.t 5]⟩
theorem Ame:Dd π 217 AgN=true:=by kernel_rfl
def AjZ:IC:=rS [m1 26 0,m1 27 3,o1 28 (.idx (.t 26) (.t 27)),q1 29 85 28,nT 30 29,m1 31 30,BY 32 31 0,BY 33 31 3,gT 34 31 (.idx (.t 32) (.t 33)),gT 35 31 (.bin .neq (.t 34) (.c (.i .u8 95))),pA 36 31 35,m1 37 36,BY 38 37 0,BY 39 37 3,gT 40 37 (.idx (.t 38) (.t 39)),gT 41 37 (.bin .neq (.t 40) (.c (.i .u8 45))),pA 42 37 41] [0,22,23,42] (cD 42 (rS [mC 2 (.b false)] [2] .ret) .skip)
def AjL:IC:=rS [bT 24 .lss 23 22] [0,22,23,24] (sQ (cD 24 .skip (.exit 0)) (sQ (.block 1 (rS [m1 25 23,m1 3 25] [0,3,22,23] AjZ)) (.seqr [bZ 43 .add 23 1,m1 23 43] [0,22,23])))
def AsF:IC:=sQ (rS [m1 4 0,bC 5 .eql 4 (.s []),m1 6 5,BU 7 6 0,gF 8 6 (.lenS (.t 7)),Fg 9 6 .gtr 8 40,pO 10 6 9,m1 11 10,BU 12 11 0,gF 13 11 (.idx (.t 12) (ci 0)),gF 14 11 (.bin .lss (.t 13) (.c (.i .u8 97))),pO 15 11 14,m1 16 15,BU 17 16 0,gF 18 16 (.idx (.t 17) (ci 0)),gF 19 16 (.bin .gtr (.t 18) (.c (.i .u8 122))),pO 20 16 19] [0,20] (cD 20 (rS [mC 2 (.b false)] [2] .ret) .skip)) (sQ (rS [m1 21 0,nS 22 21,mZ 23 0] [0,22,23] (.block 0 (.loop AjL))) (rS [mC 2 (.b true)] [2] .ret))
def AqJ:IC:=rS [mC 2 (.b false)] [0] AsF
def AqS:F9:=⟨44,AqJ,[.t 2]⟩
theorem ApB:Dd π 47 AqS=true:=by kernel_rfl
def AcI:IC:=rS [m1 25 3,o1 26 (.call 217 [.t 25,.c (.s [47])]),m1 24 26,xT 27 24 0,xT 28 24 1,m1 8 27,m1 9 28] [2,3,5,8,9] (rS [m1 29 9] [2,3,5,8,29] (cD 29 (.seqr [m1 30 8,mZ 2 7,m1 3 30] [2,3,5]) .skip))
def Ae2:IC:=sQ (rS [m1 31 3,q1 32 47 31,nT 33 32] [2,3,5,33] (cD 33 (rS [mZ 2 0,mC 3 (.s []),mZ 4 0] [2,3,4] .ret) .skip)) (rS [m1 34 2,m1 35 3,m1 36 5,bZ 37 .add 36 1,m1 2 34,m1 3 35,m1 4 37] [2,3,4] .ret)
def AeI:IC:=sQ (rS [m1 18 3,o1 19 (.call 84 [.t 18,.c (.s [47])]),m1 17 19,xT 20 17 0,xT 21 17 1,m1 6 20,m1 7 21] [2,3,5,6,7] (rS [m1 22 7] [2,3,5,6,22] (cD 22 (.seqr [m1 23 6,mZ 2 6,m1 3 23] [2,3,5]) AcI))) Ae2
def Ami:IC:=rS [m1 10 0,o1 11 (.call 216 [.t 10,.c (.i .u8 62)]),m1 5 11] [0,5] (sQ (rS [m1 12 5,bZ 13 .lss 12 0] [0,5,13] (cD 13 (rS [mZ 2 0,mC 3 (.s []),mZ 4 0] [2,3,4] .ret) .skip)) (sQ (.ops [m1 14 0,m1 15 5,o1 16 (.slS (.t 14) (some (ci 1)) (some (.t 15))),mZ 2 5,m1 3 16] [2,3,5] [[0,2],[1,2],[2,4]]) AeI))
def Anm:IC:=rS [mZ 2 0,mC 3 (.s []),mZ 4 0] [0] Ami
def Ah5:F9:=⟨38,Anm,[.t 2,.t 3,.t 4]⟩
theorem AmP:Dd π 169 Ah5=true:=by kernel_rfl
def Afu:IC:=rS [bC 8 .eql 3 (.i .u8 62),m1 4 8] [3,4] (cD 4 .skip (rS [bC 9 .eql 3 (.i .u8 35),m1 4 9] [3,4] (cD 4 .skip (.seqr [bC 10 .eql 3 (.i .u8 92),m1 4 10] [4]))))
def AmL:IC:=.block 0 (sQ (rS [bC 5 .eql 3 (.i .u8 123),m1 4 5] [3,4] (cD 4 .skip (rS [bC 6 .eql 3 (.i .u8 125),m1 4 6] [3,4] (cD 4 .skip (rS [bC 7 .eql 3 (.i .u8 60),m1 4 7] [3,4] (cD 4 .skip Afu)))))) (cD 4 (rS [mC 2 (.b true)] [2] .ret) .skip))
def All:IC:=rS [mC 2 (.b false)] [0] (sQ (rS [m1 3 0] [3] AmL) (rS [mC 2 (.b false)] [2] .ret))
def AiY:F9:=⟨11,All,[.t 2]⟩
theorem AnF:Dd π 122 AiY=true:=by kernel_rfl
def Afa:IC:=sQ (rS [m1 15 0,m1 16 3,o1 17 (.idx (.t 15) (.t 16)),bC 18 .neq 17 (.i .u8 92),m1 19 18,BU 20 19 3,Fg 21 19 .add 20 1,BU 22 19 0,gF 23 19 (.lenS (.t 22)),gF 24 19 (.bin .eql (.t 21) (.t 23)),pO 25 19 24,m1 26 25,BU 27 26 0,BU 28 26 3,Fg 29 26 .add 28 1,gF 30 26 (.idx (.t 27) (.t 29)),gF 31 26 (.call 122 [.t 30]),gF 32 26 (.not (.t 31)),pO 33 26 32] [0,3,33] (cD 33 (rS [m1 34 3,m1 2 34] [2] .ret) .skip)) (.seqr [m1 35 3,bZ 36 .add 35 1,m1 3 36] [0,3])
def Adc:IC:=sQ (.block 1 (sQ (rS [m1 10 0,m1 11 3,o1 12 (.idx (.t 10) (.t 11)),q1 13 122 12,nT 14 13] [0,3,14] (cD 14 (.exit 1) .skip)) Afa)) (.seqr [m1 8 3,bZ 9 .add 8 1,m1 3 9] [0,3])
def AjI:IC:=sQ (rS [mZ 3 0] [0,3] (.block 0 (.loop (sQ (rS [m1 4 3,m1 5 0,nS 6 5,bT 7 .lss 4 6] [0,3,7] (cD 7 .skip (.exit 0))) Adc)))) (rS [m1 37 0,nS 38 37,m1 2 38] [2] .ret)
def AkV:IC:=rS [mZ 2 0] [0] AjI
def AfA:F9:=⟨39,AkV,[.t 2]⟩
theorem AlG:Dd π 170 AfA=true:=by kernel_rfl
def Ac5:IC:=cD 39 (rS [m1 42 0,q1 43 169 42,xT 44 43 0,xT 45 43 1,xT 46 43 2,m1 4 44,m1 5 45,m1 6 46] [4,5,6] .ret) (.seqr [m1 10 0,q1 11 170 10,mZ 4 1,m1 6 11] [0,4,6])
def Acs:IC:=cD 34 (sQ (.ops [m1 37 0,o1 38 (.slS (.t 37) none (some (ci 1))),mZ 4 4,m1 5 38,mZ 6 1] [4,5,6] [[0,1],[1,3]]) .ret) (rS [m1 40 7,bC 41 .eql 40 (.i .u8 60),m1 39 41] [0,39] Ac5)
def Aey:IC:=rS [m1 23 1,m1 24 23,BY 25 24 7,gT 26 24 (.bin .eql (.t 25) (.c (.i .u8 44))),pA 27 24 26,m1 22 27] [0,1,7,22] (cD 22 (sQ (.ops [m1 28 0,o1 29 (.slS (.t 28) none (some (ci 1))),mZ 4 8,m1 5 29,mZ 6 1] [4,5,6] [[0,1],[1,3]]) .ret) (rS [m1 31 1,m1 30 31] [0,7,30] (cD 30 (.seqr [m1 32 0,q1 33 168 32,mZ 4 9,m1 6 33] [0,4,6]) (rS [m1 35 7,bC 36 .eql 35 (.i .u8 35),m1 34 36] [0,7,34] Acs))))
def AeT:IC:=rS [m1 18 7,bC 19 .eql 18 (.i .u8 125),m1 17 19] [0,1,7,17] (cD 17 (sQ (.ops [m1 20 0,o1 21 (.slS (.t 20) none (some (ci 1))),mZ 4 3,m1 5 21,mZ 6 1] [4,5,6] [[0,1],[1,3]]) .ret) Aey)
def Akg:IC:=.block 0 (rS [m1 13 7,bC 14 .eql 13 (.i .u8 123),m1 12 14] [0,1,7,12] (cD 12 (sQ (.ops [m1 15 0,o1 16 (.slS (.t 15) none (some (ci 1))),mZ 4 2,m1 5 16,mZ 6 1] [4,5,6] [[0,1],[1,3]]) .ret) AeT))
def Aee:IC:=sQ (.ops [m1 49 4,m1 50 0,m1 51 6,o1 52 (.slS (.t 50) none (some (.t 51))),m1 53 6,m1 4 49,m1 5 52,m1 6 53] [4,5,6] [[1,3],[2,3],[0,5],[3,6],[2,7],[4,7]]) .ret
def Aln:IC:=sQ (rS [m1 8 0,o1 9 (.idx (.t 8) (ci 0)),m1 7 9] [0,1,7] Akg) (sQ (rS [m1 47 6,bZ 48 .eql 47 0] [0,4,6,48] (cD 48 (rS [mZ 4 0,mC 5 (.s []),mZ 6 0] [4,5,6] .ret) .skip)) Aee)
def Ali:IC:=rS [mZ 4 0,mC 5 (.s []),mZ 6 0] [0,1] Aln
def Aij:F9:=⟨54,Ali,[.t 4,.t 5,.t 6]⟩
theorem AmO:Dd π 124 Aij=true:=by kernel_rfl
def Aju:IC:=rS [m1 61 5,m1 62 6,o1 63 (.msl true 4 1 [.t 62]),o1 64 (.app (.t 61) (.t 63) 4 1),m1 5 64] [0,2,3,5,6,7,8,9] (.seqr [m1 65 6,nT 66 65,m1 6 66] [0,2,3,5,6,7,8,9])
def Aop:IC:=rS [m1 70 5,m1 71 5,nL 72 71,bZ 73 .sub 72 1,iA 74 70 73 4 1,l1 75 74,m1 6 75] [0,2,3,5,6,7,8,9] (.seqr [m1 76 5,m1 77 5,nL 78 77,bZ 79 .sub 78 1,o1 80 (.slT (.t 76) (.t 79) 1),m1 5 80] [0,2,3,5,6,7,8,9])
def AkR:IC:=rS [m1 59 7,bZ 60 .eql 59 2,m1 58 60] [0,2,3,5,6,7,8,9,58] (cD 58 Aju (rS [m1 68 7,bZ 69 .eql 68 3,m1 67 69] [0,2,3,5,6,7,8,9,67] (cD 67 Aop .skip)))
def Akr:IC:=rS [m1 81 2,m1 82 7,m1 83 8,m1 84 3,m1 85 3,m1 86 9,bT 87 .add 85 86,o1 88 (.build [.i .i64 0,.s [],.i .i64 0,.i .i64 0] [(0,1,.t 82),(1,1,.t 83),(2,1,.t 84),(3,1,.t 87)]),o1 89 (.msl true 226 4 [.t 88]),o1 90 (.app (.t 81) (.t 89) 226 4),m1 2 90] [0,2,3,5,6,9] (.seqr [m1 91 3,m1 92 9,bT 93 .add 91 92,m1 3 93] [0,2,3,5,6])
def AnY:IC:=sQ (.block 2 (sQ (rS [m1 48 7,bZ 49 .eql 48 0,m1 47 49] [0,2,3,5,6,7,8,9,47] (cD 47 .skip (.seqr [m1 50 7,bZ 51 .eql 50 3,m1 52 51,BY 53 52 5,gT 54 52 (.lenL (.t 53)),Gi 55 52 .eql 54 0,pA 56 52 55,m1 47 56] [0,2,3,5,6,7,8,9,47]))) (cD 47 (rS [m1 57 3,mC 2 .nil,m1 3 57,mZ 4 3] [2,3,4] .ret) AkR))) Akr
def Ak8:IC:=rS [m1 39 0,m1 40 3,o1 41 (.slS (.t 39) (some (.t 40)) none),m1 42 6,q2 43 124 41 42,m1 38 43,xT 44 38 0,xT 45 38 1,xT 46 38 2,m1 7 44,m1 8 45,m1 9 46] [0,2,3,5,6,7,8,9] AnY
def Alt:IC:=.block 1 (sQ (rS [m1 17 6,m1 18 17,BY 19 18 0,BY 20 18 3,gT 21 18 (.idx (.t 19) (.t 20)),gT 22 18 (.bin .eql (.t 21) (.c (.i .u8 32))),BY 23 18 22,BU 24 23 0,BU 25 23 3,gF 26 23 (.idx (.t 24) (.t 25)),gF 27 23 (.bin .eql (.t 26) (.c (.i .u8 9))),gT 28 18 (.pick (.t 23) (.c (.b true)) (.t 27)),BY 29 18 28,BU 30 29 0,BU 31 29 3,gF 32 29 (.idx (.t 30) (.t 31)),gF 33 29 (.bin .eql (.t 32) (.c (.i .u8 10))),gT 34 18 (.pick (.t 29) (.c (.b true)) (.t 33)),pA 35 18 34] [0,2,3,5,6,35] (cD 35 (rS [m1 36 3,bZ 37 .add 36 1,m1 3 37] [0,2,3,5,6] (.exit 1)) .skip)) Ak8)
def AlZ:IC:=sQ (rS [m1 94 5,nL 95 94,bZ 96 .gtr 95 0] [0,2,96] (cD 96 (rS [m1 97 0,nS 98 97,mC 2 .nil,m1 3 98,mZ 4 3] [2,3,4] .ret) .skip)) (rS [m1 99 2,m1 2 99,mZ 3 0,mZ 4 0] [2,3,4] .ret)
def Ann:IC:=rS [mC 6 (.b false)] [0,2,3,5,6] (sQ (.block 0 (.loop (sQ (rS [m1 13 3,m1 14 0,nS 15 14,bT 16 .lss 13 15] [0,2,3,5,6,16] (cD 16 .skip (.exit 0))) Alt))) AlZ)
def Ar2:IC:=sQ (rS [m1 10 0,nS 11 10,bZ 12 .gtr 11 4000] [0,2,3,12] (cD 12 (rS [mC 2 .nil,mZ 3 4000,mZ 4 6] [2,3,4] .ret) .skip)) (rS [mC 5 .nil] [0,2,3,5] Ann)
def Atw:IC:=rS [mC 2 .nil,mZ 3 0,mZ 4 0] [0,2,3] Ar2
def Aq5:F9:=⟨100,Atw,[.t 2,.t 3,.t 4]⟩
theorem Atm:Dd π 93 Aq5=true:=by kernel_rfl
def Ant:IC:=sQ (.ops [m1 20 0,nC 21 20,fA 22 21 1,l1 23 22,m1 24 0,nC 25 24,fA 26 25 2,l1 27 26,iA 28 23 27 226 4,fA 29 28 0,l1 30 29,m1 2 30] [2] [[0,1],[1,2],[2,3],[4,5],[5,6],[6,7],[3,8],[7,8],[8,9],[9,10],[10,11]]) .ret
def Ajt:IC:=sQ (sQ (.ops [m1 3 0,nC 4 3,fA 5 4 5,l1 6 5,bZ 7 .neq 6 0,m1 8 7,BU 9 8 0,gF 10 8 (.nilck (.t 9)),E5 11 8 10 2,Eh 12 8 11,BU 13 8 0,gF 14 8 (.nilck (.t 13)),E5 15 8 14 1,Eh 16 8 15,gF 17 8 (.lenL (.t 16)),gF 18 8 (.bin .geq (.t 12) (.t 17)),pO 19 8 18] [0,19] [[0,1],[1,2],[2,3],[3,4],[4,5],[5,6],[5,7],[6,7],[5,8],[7,8],[5,9],[8,9],[5,10],[5,11],[10,11],[5,12],[11,12],[5,13],[12,13],[5,14],[13,14],[5,15],[9,15],[14,15],[5,16],[15,16]]) (cD 19 (rS [mZ 2 0] [2] .ret) .skip)) Ant
def Aky:IC:=rS [mZ 2 0] [0] Ajt
def AhY:F9:=⟨31,Aky,[.t 2]⟩
theorem Amk:Dd π 125 AhY=true:=by kernel_rfl
def AeK:IC:=sQ (.ops [m1 18 0,nC 19 18,fA 20 19 1,l1 21 20,m1 22 0,nC 23 22,fA 24 23 2,l1 25 24,bZ 26 .sub 25 1,iA 27 21 26 226 4,fA 28 27 1,l1 29 28,m1 4 29] [4] [[0,1],[1,2],[2,3],[4,5],[5,6],[6,7],[7,8],[3,9],[8,9],[9,10],[10,11],[11,12]]) .ret
def Ajg:IC:=sQ (rS [m1 5 0,o1 6 (.calls 125 [.t 5]),m1 7 1,bT 8 .neq 6 7] [0,8] (cD 8 (rS [m1 9 0,o1 10 (.calls 95 [.t 9,ci 3])] [] (rS [mC 4 (.s [])] [4] .ret)) .skip)) (rS [m1 11 0,nC 12 11,fA 13 12 2,l1 14 13,bZ 15 .add 14 1,nC 16 11,fA 17 16 2,sT 17 15 1] [0] AeK)
def AnX:IC:=rS [mC 4 (.s [])] [0,1] Ajg
def AhT:F9:=⟨30,AnX,[.t 4]⟩
theorem Amy:Dd π 127 AhT=true:=by kernel_rfl
def Akh:IC:=rS [m1 7 0,m1 8 0,nC 9 8,fA 10 9 1,l1 11 10,m1 12 1,o1 13 (.msl true 5 1 [.t 12]),o1 14 (.app (.t 11) (.t 13) 5 1),nC 15 7,fA 16 15 1,sT 16 14 1] [] (rS [mC 4 .ni] [4] .ret)
def AjR:IC:=rS [mC 4 .ni] [0,1] (rS [m1 5 0,o1 6 (.calls 167 [.t 5])] [0,1] Akh)
def Af6:F9:=⟨17,AjR,[.t 4]⟩
theorem Aob:Dd π 123 Af6=true:=by kernel_rfl
def Aei:IC:=sQ (.block 1 (sQ (rS [m1 21 0,m1 22 7,o1 23 (.idx (.t 21) (.t 22)),bC 24 .eql 23 (.i .u8 92)] [0,6,7,24] (cD 24 (.seqr [m1 25 7,bZ 26 .add 25 1,m1 7 26] [0,6,7]) .skip)) (.seqr [m1 27 0,m1 28 7,o1 29 (.idx (.t 27) (.t 28)),o1 30 (.calls 123 [.t 6,.t 29])] [0,6,7]))) (.seqr [m1 19 7,bZ 20 .add 19 1,m1 7 20] [0,6,7])
def Ad8:IC:=rS [o1 6 (.mkm (.tnew 134 (.agg [.np,.nil])) [])] [0,6] (sQ (rS [mZ 7 0] [0,6,7] (.block 0 (.loop (sQ (rS [m1 15 7,m1 16 0,nS 17 16,bT 18 .lss 15 17] [0,6,7,18] (cD 18 .skip (.exit 0))) Aei)))) (rS [o1 31 (.calls 60 [.t 6]),m1 2 31,mZ 3 0,mZ 4 0] [2,3,4] .ret))
def AnC:IC:=rS [mC 2 (.s []),mZ 3 0,mZ 4 0] [0] (sQ (rS [m1 8 0,q1 9 170 8,m1 5 9] [0,5] (rS [m1 10 5,m1 11 0,nS 12 11,bT 13 .lss 10 12] [0,5,13] (cD 13 (rS [m1 14 5,mC 2 (.s []),m1 3 14,mZ 4 3] [2,3,4] .ret) .skip))) Ad8)
def Ag6:F9:=⟨32,AnC,[.t 2,.t 3,.t 4]⟩
theorem Am4:Dd π 126 Ag6=true:=by kernel_rfl
def Am9:IC:=rS [m1 4 1,bZ 5 .gtr 4 8] [0,5] (cD 5 (.seqr [m1 6 0,o1 7 (.calls 95 [.t 6,ci 6])] []) .skip)
def Agb:F9:=⟨8,Am9,[]⟩
theorem AjU:Dd π 128 Agb=true:=by kernel_rfl
def AlC:IC:=sQ (sQ (.ops [m1 19 0,o1 20 (.calls 125 [.t 19]),bZ 21 .neq 20 6,m1 22 21,BU 23 22 0,gF 24 22 (.nilck (.t 23)),E5 25 22 24 1,Eh 26 22 25,BU 27 22 0,gF 28 22 (.nilck (.t 27)),E5 29 22 28 2,Eh 30 22 29,gF 31 22 (.iaddr (.t 26) (.t 30) 226 4),E5 32 22 31 1,Eh 33 22 32,E5 34 22 7 2,Eh 35 22 34,gF 36 22 (.bin .neq (.t 33) (.t 35)),pO 37 22 36] [0,6,7,37] [[0,1],[1,2],[2,3],[3,4],[3,5],[4,5],[3,6],[5,6],[1,3,7],[3,7],[6,7],[3,8],[3,9],[8,9],[3,10],[9,10],[1,3,11],[3,11],[10,11],[1,3,12],[3,12],[7,12],[11,12],[3,13],[12,13],[1,3,14],[3,14],[13,14],[3,15],[1,3,16],[3,16],[15,16],[3,17],[14,17],[16,17],[3,18],[17,18]]) (cD 37 (.seqr [m1 38 0,o1 39 (.calls 95 [.t 38,ci 3])] [0,6,7]) .skip)) (rS [m1 40 0,o1 41 (.calls 127 [.t 40,ci 6])] [6,7] (rS [lA 42 7 6,sT 6 42 6] [6] .ret))
def AmU:IC:=rS [m1 11 0,o1 12 (.calls 127 [.t 11,ci 5]),o1 13 (.build [.i .i64 0,.s [],.s [],.s [],.nil,.nil] [(0,1,ci 11),(2,1,.t 12)]),o1 7 (.alloc (.agg [.i .i64 0,.s [],.s [],.s [],.nil,.nil])),sT 7 13 6] [0,1,2,6,7] (rS [m1 14 0,m1 15 1,m1 16 2,o1 17 (.calls 94 [.t 14,.t 15,.t 16]),fA 18 7 5,sT 18 17 1] [0,6,7] AlC)
def Alf:IC:=rS [o1 6 (.alloc (.agg [.i .i64 0,.s [],.s [],.s [],.nil,.nil]))] [0,1,2,6] (rS [m1 8 0,m1 9 1,o1 10 (.calls 128 [.t 8,.t 9])] [0,1,2,6] AmU)
def Ahz:F9:=⟨43,Alf,[.c 6 6 true]⟩
theorem AnG:Dd π 129 Ahz=true:=by kernel_rfl
def Aom:IC:=sQ (sQ (.ops [m1 5 0,o1 6 (.calls 125 [.t 5]),bZ 7 .neq 6 9,m1 8 7,BU 9 8 1,BU 10 8 0,gF 11 8 (.nilck (.t 10)),E5 12 8 11 1,Eh 13 8 12,BU 14 8 0,gF 15 8 (.nilck (.t 14)),E5 16 8 15 2,Eh 17 8 16,gF 18 8 (.iaddr (.t 13) (.t 17) 226 4),E5 19 8 18 1,Eh 20 8 19,gF 21 8 (.callvs (.t 9) [.t 20]),gF 22 8 (.not (.t 21)),pO 23 8 22] [0,23] [[0,1],[1,2],[2,3],[3,4],[3,5],[3,6],[5,6],[3,7],[6,7],[1,3,8],[3,8],[7,8],[3,9],[3,10],[9,10],[3,11],[10,11],[1,3,12],[3,12],[11,12],[1,3,13],[3,13],[8,13],[12,13],[3,14],[13,14],[1,3,15],[3,15],[14,15],[1,3,16],[3,16],[4,16],[8,13,14,15,16],[12,13,14,15,16],[13,14,15,16],[15,16],[3,17],[16,17],[3,18],[17,18]]) (cD 23 (rS [m1 24 0,o1 25 (.calls 95 [.t 24,ci 3])] [] (rS [mC 4 (.s [])] [4] .ret)) .skip)) (rS [m1 26 0,o1 27 (.calls 127 [.t 26,ci 9]),m1 4 27] [4] .ret)
def Akz:IC:=rS [mC 4 (.s [])] [0,1] Aom
def AfV:F9:=⟨28,Akz,[.t 4]⟩
theorem Ans:Dd π 173 AfV=true:=by kernel_rfl
def AnO:IC:=sQ (rS [m1 52 3,bC 53 .neq 52 (.s [])] [0,3,53] (cD 53 (.seqr [m1 54 0,nC 55 54,fA 56 55 3,l1 57 56,m1 58 3,o0 (.wrm (.mput .str) (.t 57) [.t 58,.c (.b true)])] [3]) .skip)) (rS [m1 59 3,m1 2 59] [2] .ret)
def Aj4:IC:=sQ (sQ (.ops [m1 4 0,o1 5 (.calls 125 [.t 4]),bZ 6 .eql 5 9,m1 7 6,BY 8 7 0,gT 9 7 (.nilck (.t 8)),Fa 10 7 9 1,E3 11 7 10,BY 12 7 0,gT 13 7 (.nilck (.t 12)),Fa 14 7 13 2,E3 15 7 14,gT 16 7 (.iaddr (.t 11) (.t 15) 226 4),Fa 17 7 16 1,E3 18 7 17,gT 19 7 (.call 47 [.t 18]),pA 20 7 19,m1 21 20,BY 22 21 0,gT 23 21 (.nilck (.t 22)),Fa 24 21 23 3,E3 25 21 24,BY 26 21 0,gT 27 21 (.nilck (.t 26)),Fa 28 21 27 1,E3 29 21 28,BY 30 21 0,gT 31 21 (.nilck (.t 30)),Fa 32 21 31 2,E3 33 21 32,gT 34 21 (.iaddr (.t 29) (.t 33) 226 4),Fa 35 21 34 1,E3 36 21 35,gT 37 21 (.rdm (.mget .str (.b false) false) (.t 25) [.t 36]),gT 38 21 (.not (.t 37)),pA 39 21 38,m1 40 39,BY 41 40 0,gT 42 40 (.nilck (.t 41)),Fa 43 40 42 3,E3 44 40 43,gT 45 40 (.rdm .mlen (.t 44) []),Gi 46 40 .geq 45 20,pA 47 40 46] [0,47] [[0,1],[1,2],[2,3],[3,4],[3,5],[4,5],[3,6],[5,6],[1,3,7],[3,7],[6,7],[3,8],[3,9],[8,9],[3,10],[9,10],[1,3,11],[3,11],[10,11],[1,3,12],[3,12],[7,12],[11,12],[3,13],[12,13],[1,3,14],[3,14],[13,14],[3,15],[14,15],[3,16],[15,16],[16,17],[17,18],[17,19],[18,19],[17,20],[19,20],[1,3,16,17,21],[17,21],[20,21],[17,22],[17,23],[22,23],[17,24],[23,24],[1,3,16,17,25],[17,25],[24,25],[17,26],[17,27],[26,27],[17,28],[27,28],[1,3,16,17,29],[17,29],[28,29],[1,3,16,17,30],[17,30],[25,30],[29,30],[17,31],[30,31],[1,3,16,17,32],[17,32],[31,32],[1,3,16,17,33],[17,33],[21,33],[32,33],[17,34],[33,34],[17,35],[34,35],[35,36],[36,37],[36,38],[37,38],[36,39],[38,39],[1,3,16,17,36,40],[36,40],[39,40],[1,3,16,17,36,41],[36,41],[40,41],[36,42],[41,42],[36,43],[42,43]]) (cD 47 (.seqr [m1 48 0,o1 49 (.calls 95 [.t 48,ci 6])] [0]) .skip)) (rS [m1 50 0,o1 51 (.calls 173 [.t 50,.c (.fn 47 [] [])]),m1 3 51] [0,3] AnO)
def Aoi:IC:=rS [mC 2 (.s [])] [0] Aj4
def Agu:F9:=⟨60,Aoi,[.t 2]⟩
theorem AkC:Dd π 171 Agu=true:=by kernel_rfl
def AsO:IC:=rS [o1 1 (.mkm .mkmap []),o0 (.wrm (.mput .str) (.t 1) [.c (.s [110,117,109,98,101,114]),ci 3]),o0 (.wrm (.mput .str) (.t 1) [.c (.s [117,110,105,116]),ci 4]),o0 (.wrm (.mput .str) (.t 1) [.c (.s [100,97,116,101]),ci 5]),o0 (.wrm (.mput .str) (.t 1) [.c (.s [108,105,115,116]),ci 6]),o0 (.wrm (.mput .str) (.t 1) [.c (.s [112,108,117,114,97,108]),ci 7]),o0 (.wrm (.mput .str) (.t 1) [.c (.s [111,114,100,105,110,97,108]),ci 8]),o0 (.wrm (.mput .str) (.t 1) [.c (.s [115,101,108,101,99,116]),ci 9]),m1 2 1,m1 0 2] [0] .ret
def Aqr:IC:=rS [mC 0 .nm] [] AsO
def Aq4:F9:=⟨3,Aqr,[.t 0]⟩
theorem Auh:Dd π 92 Aq4=true:=by kernel_rfl
def AkJ:IC:=rS [mC 3 (.b false)] [0,1] (rS [l1 4 1,m1 5 0,o1 6 (.rdm (.mget .str (.i .i64 0) false) (.t 4) [.t 5]),bZ 7 .neq 6 0,m1 3 7] [3] .ret)
def AhE:F9:=⟨8,AkJ,[.t 3]⟩
theorem Akp:Dd π 172 AhE=true:=by kernel_rfl
def Ast:IC:=rS [mC 2 (.b false)] [0] (rS [m1 3 0,bZ 4 .geq 3 7,m1 5 4,BY 6 5 0,Gi 7 5 .leq 6 9,pA 8 5 7,m1 2 8] [2] .ret)
def Ass:F9:=⟨9,Ast,[.t 2]⟩
theorem ApD:Dd π 42 Ass=true:=by kernel_rfl
def AdI:IC:=cD 4 .skip (rS [bC 8 .eql 3 (.s [102,101,119]),m1 4 8] [3,4] (cD 4 .skip (rS [bC 9 .eql 3 (.s [109,97,110,121]),m1 4 9] [3,4] (cD 4 .skip (.seqr [bC 10 .eql 3 (.s [111,116,104,101,114]),m1 4 10] [4])))))
def AlB:IC:=.block 0 (sQ (rS [bC 5 .eql 3 (.s [122,101,114,111]),m1 4 5] [3,4] (cD 4 .skip (rS [bC 6 .eql 3 (.s [111,110,101]),m1 4 6] [3,4] (cD 4 .skip (rS [bC 7 .eql 3 (.s [116,119,111]),m1 4 7] [3,4] AdI))))) (cD 4 (rS [mC 2 (.b true)] [2] .ret) .skip))
def Alm:IC:=rS [mC 2 (.b false)] [0] (sQ (rS [m1 3 0] [3] AlB) (rS [mC 2 (.b false)] [2] .ret))
def AhI:F9:=⟨11,Alm,[.t 2]⟩
theorem AlL:Dd π 166 AhI=true:=by kernel_rfl
def Anu:IC:=sQ (.ops [m1 13 0,m1 14 7,o1 15 (.slS (.t 13) none (some (.t 14))),m1 16 0,m1 17 7,m1 18 1,nS 19 18,bT 20 .add 17 19,o1 21 (.slS (.t 16) (some (.t 20)) none),m1 4 15,m1 5 21,mC 6 (.b true)] [4,5,6] [[0,2],[1,2],[5,6],[4,7],[6,7],[3,8],[7,8],[2,9],[8,10]]) .ret
def AnL:IC:=sQ (rS [m1 8 0,m1 9 1,q2 10 183 8 9,m1 7 10] [0,1,7] (rS [m1 11 7,bZ 12 .geq 11 0] [0,1,7,12] (cD 12 Anu .skip))) (rS [m1 22 0,m1 4 22,mC 5 (.s []),mC 6 (.b false)] [4,5,6] .ret)
def Akt:IC:=rS [mC 4 (.s []),mC 5 (.s []),mC 6 (.b false)] [0,1] AnL
def AhH:F9:=⟨23,Akt,[.t 4,.t 5,.t 6]⟩
theorem Amo:Dd π 146 AhH=true:=by kernel_rfl
def AlO:IC:=rS [mC 4 (.s []),mC 5 (.s []),mC 6 (.b false)] [0,1] (rS [m1 7 0,m1 8 1,q2 9 146 7 8,xT 10 9 0,xT 11 9 1,xT 12 9 2,m1 4 10,m1 5 11,m1 6 12] [4,5,6] .ret)
def AfE:F9:=⟨13,AlO,[.t 4,.t 5,.t 6]⟩
theorem AnM:Dd π 107 AfE=true:=by kernel_rfl
def AmX:IC:=rS [mC 2 (.b false)] [0] (rS [m1 3 0,o1 4 (.call 147 [.t 3,.c (.s [48,49,50,51,52,53,54,55,56,57])]),bC 5 .eql 4 (.s []),m1 2 5] [2] .ret)
def Ago:F9:=⟨6,AmX,[.t 2]⟩
theorem AnV:Dd π 108 Ago=true:=by kernel_rfl
def Aor:IC:=rS [m1 51 8,m1 52 51,BY 53 52 7,gT 54 52 (.lenS (.t 53)),Gi 55 52 .eql 54 0,pA 56 52 55,m1 57 56,BU 58 57 7,gF 59 57 (.lenS (.t 58)),Fg 60 57 .gtr 59 6,pO 61 57 60,m1 62 61,BU 63 62 7,gF 64 62 (.call 108 [.t 63]),gF 65 62 (.not (.t 64)),pO 66 62 65,m1 50 66] [2,5,9,50] (cD 50 (rS [lA 67 9 3,sT 2 67 3,mC 3 (.b false)] [2,3] .ret) .skip)
def Am3:IC:=sQ (.ops [lA 68 9 3,m1 69 5,nT 70 69,m1 71 70,gF 72 71 (.load (.t 9) 3 true),gF 73 71 (.call 109 [.t 72]),gF 74 71 (.not (.t 73)),pO 75 71 74,sT 2 68 3,m1 3 75] [2,3] [[1,2],[2,3],[3,4],[3,5],[4,5],[3,6],[5,6],[3,7],[6,7],[0,8],[4,5,8],[7,9]]) .ret
def AsX:IC:=sQ (.block 0 (rS [m1 26 6,nS 27 26,bZ 28 .lss 27 1,m1 29 28,BU 30 29 6,gF 31 29 (.lenS (.t 30)),Fg 32 29 .gtr 31 15,pO 33 29 32,m1 34 33,BU 35 34 6,gF 36 34 (.call 108 [.t 35]),gF 37 34 (.not (.t 36)),pO 38 34 37,m1 39 38,BU 40 39 6,gF 41 39 (.lenS (.t 40)),Fg 42 39 .gtr 41 1,BU 43 39 42,BY 44 43 6,gT 45 43 (.idx (.t 44) (ci 0)),gT 46 43 (.bin .eql (.t 45) (.c (.i .u8 48))),gF 47 39 (.pick (.t 43) (.t 46) (.c (.b false))),pO 48 39 47,m1 25 48] [2,5,7,8,9,25] (cD 25 (rS [lA 49 9 3,sT 2 49 3,mC 3 (.b false)] [2,3] .ret) Aor))) Am3
def Asr:IC:=rS [m1 21 5,m1 22 6,m1 23 7,o1 24 (.build [.b false,.s [],.s []] [(0,1,.t 21),(1,1,.t 22),(2,1,.t 23)]),o1 9 (.alloc (.agg [.b false,.s [],.s []])),sT 9 24 3] [2,5,6,7,8,9] AsX
def ApN:IC:=rS [m1 11 0,o1 12 (.call 84 [.t 11,.c (.s [45])]),m1 10 12,xT 13 10 0,xT 14 10 1,m1 4 13,m1 5 14] [2,4,5] (rS [m1 16 4,o1 17 (.call 107 [.t 16,.c (.s [46])]),m1 15 17,xT 18 15 0,xT 19 15 1,xT 20 15 2,m1 6 18,m1 7 19,m1 8 20] [2,5,6,7,8] Asr)
def AqD:IC:=rS [o1 2 (.alloc (.agg [.b false,.s [],.s []])),mC 3 (.b false)] [0,2] ApN
def AtS:F9:=⟨76,AqD,[.c 2 3 true,.t 3]⟩
theorem Apo:Dd π 86 AtS=true:=by kernel_rfl
def Aqu:IC:=rS [m1 6 0,q1 7 86 6,m1 5 7,xT 8 5 0,xT 9 5 1,o1 3 (.alloc (.agg [.b false,.s [],.s []])),sT 3 8 3,m1 4 9] [4] (rS [m1 10 4,m1 2 10] [2] .ret)
def ArM:IC:=rS [mC 2 (.b false)] [0] Aqu
def Apy:F9:=⟨11,ArM,[.t 2]⟩
theorem ApV:Dd π 52 Apy=true:=by kernel_rfl
def Adp:IC:=rS [m1 16 1,q1 17 166 16,m1 18 17,BU 19 18 6,BU 20 18 19,BY 21 20 5,gT 22 20 (.call 52 [.t 21]),gF 23 18 (.pick (.t 20) (.t 22) (.c (.b false))),pO 24 18 23,m1 4 24] [4] .ret
def AmR:IC:=sQ (rS [m1 7 0,bZ 8 .eql 7 9] [1,8] (cD 8 (rS [m1 9 1,q1 10 47 9,m1 4 10] [4] .ret) .skip)) (rS [m1 12 1,o1 13 (.call 84 [.t 12,.c (.s [61])]),m1 11 13,xT 14 11 0,xT 15 11 1,m1 5 14,m1 6 15] [1,5,6] Adp)
def Ajs:IC:=rS [mC 4 (.b false)] [0,1] AmR
def AiB:F9:=⟨25,Ajs,[.t 4]⟩
theorem AmI:Dd π 121 AiB=true:=by kernel_rfl
def Ajk:IC:=rS [mC 3 (.b false)] [0,1] (rS [l1 4 1,m1 5 0,q2 6 121 4 5,m1 3 6] [3] .ret)
def Ah4:F9:=⟨7,Ajk,[.t 3]⟩
theorem AmC:Dd π 218 Ah4=true:=by kernel_rfl
def Adt:IC:=sQ (.ops [m1 43 10,m1 44 0,nC 45 44,fA 46 45 1,l1 47 46,m1 48 0,nC 49 48,fA 50 49 2,l1 51 50,iA 52 47 51 226 4,fA 53 52 1,l1 54 53,o1 55 (.rdm (.mget .str (.b false) false) (.t 43) [.t 54])] [0,2,3,5,9,10,55] [[1,2],[2,3],[3,4],[5,6],[6,7],[7,8],[4,9],[8,9],[9,10],[10,11],[0,12],[11,12]]) (cD 55 (.seqr [m1 56 0,o1 57 (.calls 95 [.t 56,ci 9])] [0,2,3,5,9,10]) .skip)
def Afp:IC:=sQ (rS [m1 38 9,nL 39 38,bZ 40 .geq 39 20] [0,2,3,5,9,10,40] (cD 40 (.seqr [m1 41 0,o1 42 (.calls 95 [.t 41,ci 6])] [0,2,3,5,9,10]) .skip)) Adt
def AeU:IC:=rS [m1 67 0,m1 68 2,m1 69 3,m1 70 69,Eh 71 70 5,Fg 72 70 .neq 71 9,pO 73 70 72,o1 74 (.calls 94 [.t 67,.t 68,.t 73]),fA 75 12 1,sT 75 74 1] [0,2,3,5,9,10,12] (rS [m1 76 0,o1 77 (.calls 127 [.t 76,ci 3])] [0,2,3,5,9,10,12] (.seqr [m1 78 9,lA 79 12 2,o1 80 (.msl true 101 2 [.t 79]),o1 81 (.app (.t 78) (.t 80) 101 2),m1 9 81] [0,2,3,5,9,10]))
def Ae9:IC:=rS [m1 62 10,fA 63 12 0,l1 64 63,o0 (.wrm (.mput .str) (.t 62) [.t 64,.c (.b true)])] [0,2,3,5,9,10,12] (rS [m1 65 0,o1 66 (.calls 127 [.t 65,ci 2])] [0,2,3,5,9,10,12] AeU)
def AdY:IC:=rS [m1 58 0,o1 59 (.mkfn 218 [] [.t 5]),o1 60 (.calls 173 [.t 58,.t 59]),o1 61 (.build [.s [],.nil] [(0,1,.t 60)]),o1 12 (.alloc (.agg [.s [],.nil])),sT 12 61 2] [0,2,3,5,9,10,12] Ae9
def AcA:IC:=sQ (.block 1 (sQ (sQ (.ops [m1 20 0,o1 21 (.calls 125 [.t 20]),bZ 22 .eql 21 9,m1 23 22,E3 24 23 5,BY 25 23 0,gT 26 23 (.nilck (.t 25)),Fa 27 23 26 1,E3 28 23 27,BY 29 23 0,gT 30 23 (.nilck (.t 29)),Fa 31 23 30 2,E3 32 23 31,gT 33 23 (.iaddr (.t 28) (.t 32) 226 4),Fa 34 23 33 1,E3 35 23 34,gT 36 23 (.call 121 [.t 24,.t 35]),pA 37 23 36] [0,2,3,5,9,10,37] [[0,1],[1,2],[2,3],[1,3,4],[3,4],[3,5],[3,6],[5,6],[3,7],[6,7],[1,3,8],[3,8],[7,8],[3,9],[3,10],[9,10],[3,11],[10,11],[1,3,12],[3,12],[11,12],[1,3,13],[3,13],[8,13],[12,13],[3,14],[13,14],[1,3,15],[3,15],[14,15],[3,16],[4,16],[15,16],[3,17],[16,17]]) (cD 37 Afp .skip)) AdY)) (.seqr [mC 11 (.b false)] [0,2,3,5,9,10,11])
def Ac2:IC:=sQ (rS [m1 14 11,m1 15 14,BU 16 15 0,gF 17 15 (.calls 125 [.t 16]),Fg 18 15 .eql 17 9,pO 19 15 18] [0,2,3,5,9,10,19] (cD 19 .skip (.exit 0))) AcA
def Adb:IC:=sQ (rS [m1 82 0,o1 83 (.calls 125 [.t 82]),bZ 84 .eql 83 3,m1 85 84,BY 86 85 10,gT 87 85 (.rdm (.mget .str (.b false) false) (.t 86) [.c (.s [111,116,104,101,114])]),gT 88 85 (.not (.t 87)),pA 89 85 88] [0,9,89] (cD 89 (.seqr [m1 90 0,o1 91 (.calls 95 [.t 90,ci 13])] [9]) .skip)) (rS [m1 92 9,m1 8 92] [8] .ret)
def Akl:IC:=rS [mC 9 .nil] [0,2,3,5,9] (rS [o1 13 (.mkm .mkmap []),m1 10 13] [0,2,3,5,9,10] (sQ (rS [mC 11 (.b true)] [0,2,3,5,9,10,11] (.block 0 (.loop Ac2))) Adb))
def Ajx:IC:=rS [bX 5 1,mC 8 .nil] [0,2,3,5] Akl
def AhZ:F9:=⟨93,Ajx,[.t 8]⟩
theorem Ako:Dd π 175 AhZ=true:=by kernel_rfl
def AeC:IC:=cD 77 (rS [m1 78 0,o1 79 (.calls 127 [.t 78,ci 8])] [0,6,7] (.seqr [m1 80 0,o1 81 (.calls 173 [.t 80,.c (.fn 174 [] [])]),fA 82 7 3,sT 82 81 1] [0,6,7])) .skip
def AdJ:IC:=rS [fA 56 7 0,l1 57 56,bZ 58 .eql 57 5] [0,6,7,58] (cD 58 (.seqr [m1 59 0,o1 60 (.calls 173 [.t 59,.c (.fn 120 [] [])]),fA 61 7 3,sT 61 60 1] [0,6,7]) (.seqr [m1 62 0,o1 63 (.calls 173 [.t 62,.c (.fn 47 [] [])]),fA 64 7 3,sT 64 63 1] [0,6,7]))
def Adq:IC:=cD 83 (rS [m1 87 0,o1 88 (.calls 127 [.t 87,ci 8])] [0,1,2,6,7] (.seqr [m1 89 0,fA 90 7 0,l1 91 90,m1 92 1,bZ 93 .add 92 1,m1 94 2,o1 95 (.calls 175 [.t 89,.t 91,.t 93,.t 94]),fA 96 7 4,sT 96 95 1] [0,6,7])) (rS [m1 54 0,o1 55 (.calls 127 [.t 54,ci 8])] [0,6,7] AdJ)
def Aew:IC:=rS [fA 72 7 0,l1 73 72,bZ 74 .eql 73 3,m1 71 74] [0,1,2,6,7,71] (cD 71 (rS [m1 75 0,o1 76 (.calls 125 [.t 75]),bZ 77 .eql 76 8] [0,6,7,77] AeC) (rS [fA 84 7 0,l1 85 84,q1 86 42 85,m1 83 86] [0,1,2,6,7,83] Adq))
def Aeu:IC:=sQ (.block 0 (rS [m1 66 0,nC 67 66,fA 68 67 5,l1 69 68,bZ 70 .neq 69 0,m1 65 70] [0,1,2,6,7,65] (cD 65 .skip Aew))) (rS [m1 97 0,o1 98 (.calls 127 [.t 97,ci 3])] [6,7] (rS [lA 99 7 6,sT 6 99 6] [6] .ret))
def AcM:IC:=sQ (.ops [l1 48 8,m1 49 0,m1 50 9,⟨some 51,.calls 173 [.t 49,.t 50],none,[.t 8]⟩,o1 52 (.rdm (.mget .str (.i .i64 0) false) (.t 48) [.t 51]),fA 53 7 0,sT 53 52 1] [0,1,2,6,7] [[1,3],[2,3],[0,4],[3,4],[0,6],[3,6],[4,6],[5,6]]) Aeu
def Aev:IC:=sQ (sQ (.ops [m1 25 0,o1 26 (.calls 125 [.t 25]),bZ 27 .eql 26 9,m1 28 27,E3 29 28 8,BY 30 28 0,gT 31 28 (.nilck (.t 30)),Fa 32 28 31 1,E3 33 28 32,BY 34 28 0,gT 35 28 (.nilck (.t 34)),Fa 36 28 35 2,E3 37 28 36,gT 38 28 (.iaddr (.t 33) (.t 37) 226 4),Fa 39 28 38 1,E3 40 28 39,gT 41 28 (.rdm (.mget .str (.i .i64 0) false) (.t 29) [.t 40]),gT 42 28 (.call 42 [.t 41]),pA 43 28 42] [0,1,2,6,7,8,9,43] [[0,1],[1,2],[2,3],[1,3,4],[3,4],[3,5],[3,6],[5,6],[3,7],[6,7],[1,3,8],[3,8],[7,8],[3,9],[3,10],[9,10],[3,11],[10,11],[1,3,12],[3,12],[11,12],[1,3,13],[3,13],[8,13],[12,13],[3,14],[13,14],[1,3,15],[3,15],[14,15],[1,3,16],[3,16],[4,16],[15,16],[3,17],[16,17],[3,18],[17,18]]) (cD 43 (.seqr [m1 44 0,m1 45 1,bZ 46 .add 45 1,o1 47 (.calls 128 [.t 44,.t 46])] [0,1,2,6,7,8,9]) .skip)) AcM
def Am2:IC:=sQ (rS [m1 15 0,o1 16 (.calls 125 [.t 15]),bZ 17 .eql 16 3] [0,1,2,6,7,17] (cD 17 (rS [m1 18 0,o1 19 (.calls 127 [.t 18,ci 3])] [6,7] (rS [lA 20 7 6,sT 6 20 6] [6] .ret)) .skip)) (rS [m1 21 0,o1 22 (.calls 127 [.t 21,ci 8])] [0,1,2,6,7] (rS [o1 23 (.call 92 []),o1 8 (.alloc .nm),sT 8 23 1] [0,1,2,6,7,8] (rS [o1 24 (.mkfn 172 [] [.t 8]),m1 9 24] [0,1,2,6,7,8,9] Aev)))
def AjG:IC:=rS [m1 12 0,o1 13 (.calls 171 [.t 12]),o1 14 (.build [.i .i64 0,.s [],.s [],.s [],.nil,.nil] [(0,1,ci 2),(2,1,.t 13)]),o1 7 (.alloc (.agg [.i .i64 0,.s [],.s [],.s [],.nil,.nil])),sT 7 14 6] [0,1,2,6,7] Am2
def Ak4:IC:=rS [o1 6 (.alloc (.agg [.i .i64 0,.s [],.s [],.s [],.nil,.nil]))] [0,1,2,6] (rS [m1 10 0,o1 11 (.calls 127 [.t 10,ci 2])] [0,1,2,6] AjG)
def Aio:F9:=⟨100,Ak4,[.c 6 6 true]⟩
theorem AmG:Dd π 130 Aio=true:=by kernel_rfl
def AlY:IC:=.seqr [m1 28 7,m1 29 8,o1 30 (.build [.i .i64 0,.s [],.s [],.s [],.nil,.nil] [(0,1,ci 1),(1,1,.t 29)]),o1 31 (.msl true 96 6 [.t 30]),o1 32 (.app (.t 28) (.t 31) 96 6),m1 7 32] [0,1,2,7]
def AjO:IC:=rS [m1 22 0,o1 23 (.calls 127 [.t 22,ci 1]),q1 24 126 23,m1 21 24,xT 25 21 0,xT 26 21 1,xT 27 21 2,m1 8 25,m1 9 26,m1 10 27] [0,1,2,7,8] AlY
def Anh:IC:=.seqr [m1 41 7,o1 42 (.build [.i .i64 0,.s [],.s [],.s [],.nil,.nil] [(0,1,ci 10)]),o1 43 (.msl true 96 6 [.t 42]),o1 44 (.app (.t 41) (.t 43) 96 6),m1 7 44] [0,1,2,7]
def AlR:IC:=sQ (rS [m1 35 2,nT 36 35] [0,1,2,7,36] (cD 36 (.seqr [m1 37 0,o1 38 (.calls 95 [.t 37,ci 3])] [0,1,2,7]) .skip)) (rS [m1 39 0,o1 40 (.calls 127 [.t 39,ci 4])] [0,1,2,7] Anh)
def Al7:IC:=.seqr [m1 51 7,m1 52 0,o1 53 (.calls 127 [.t 52,ci 7]),o1 54 (.build [.i .i64 0,.s [],.s [],.s [],.nil,.nil] [(0,1,ci 11),(2,1,.t 53)]),o1 55 (.msl true 96 6 [.t 54]),o1 56 (.app (.t 51) (.t 55) 96 6),m1 7 56] [0,1,2,7]
def Ala:IC:=.seqr [m1 59 7,m1 60 0,m1 61 1,bZ 62 .add 61 1,m1 63 2,o1 64 (.calls 129 [.t 60,.t 62,.t 63]),o1 65 (.msl true 96 6 [.t 64]),o1 66 (.app (.t 59) (.t 65) 96 6),m1 7 66] [0,1,2,7]
def Anc:IC:=.seqr [m1 69 7,m1 70 0,m1 71 1,m1 72 2,o1 73 (.calls 130 [.t 70,.t 71,.t 72]),o1 74 (.msl true 96 6 [.t 73]),o1 75 (.app (.t 69) (.t 74) 96 6),m1 7 75] [0,1,2,7]
def Amp:IC:=rS [bZ 58 .eql 17 5,m1 57 58] [0,1,2,7,17,57] (cD 57 Ala (rS [bZ 68 .eql 17 2,m1 67 68] [0,1,2,7,67] (cD 67 Anc (rS [m1 18 7,m1 6 18] [6] .ret))))
def AlQ:IC:=rS [bZ 46 .eql 17 7,m1 45 46] [0,1,2,7,17,45] (cD 45 (rS [m1 47 0,m1 48 1,bZ 49 .add 48 1,o1 50 (.calls 128 [.t 47,.t 49])] [0,1,2,7] Al7) Amp)
def AlI:IC:=.block 2 (rS [bZ 20 .eql 17 1,m1 19 20] [0,1,2,7,17,19] (cD 19 AjO (rS [bZ 34 .eql 17 4,m1 33 34] [0,1,2,7,17,33] (cD 33 AlR AlQ))))
def ApK:IC:=sQ (rS [m1 11 0,nC 12 11,fA 13 12 5,l1 14 13,bZ 15 .eql 14 0] [0,1,2,7,15] (cD 15 .skip (.exit 0))) (.block 1 (rS [m1 16 0,o1 17 (.calls 125 [.t 16])] [0,1,2,7,17] AlI))
def AsT:IC:=rS [mC 6 .nil] [0,1,2] (rS [mC 7 .nil] [0,1,2,7] (sQ (.block 0 (.loop ApK)) (rS [m1 76 7,m1 6 76] [6] .ret)))
def Asa:F9:=⟨77,AsT,[.t 6]⟩
theorem ApL:Dd π 94 Asa=true:=by kernel_rfl
def Alx:IC:=.ops [m1 43 11,nC 44 43,fA 45 44 4,l1 46 45,m1 47 11,nC 48 47,fA 49 48 5,l1 50 49,m1 8 46,m1 9 50] [0,5,8,9,10] [[0,1],[1,2],[2,3],[4,5],[5,6],[6,7],[3,8],[7,9]]
def Aj3:IC:=sQ (rS [m1 34 11,nC 35 34,fA 36 35 2,l1 37 36,m1 38 7,nL 39 38,bT 40 .lss 37 39] [0,5,10,11,40] (cD 40 (.seqr [m1 41 11,o1 42 (.calls 95 [.t 41,ci 3])] [0,5,10,11]) .skip)) Alx
def AlX:IC:=rS [m1 26 0,m1 27 7,o1 28 (.mkm .mkmap []),o1 29 (.build [.s [],.nil,.i .i64 0,.nm,.i .i64 0,.i .i64 0] [(0,1,.t 26),(1,1,.t 27),(3,1,.t 28)]),bX 30 29,m1 11 30] [0,1,5,7,11] (rS [m1 31 11,m1 32 1,o1 33 (.calls 94 [.t 31,ci 0,.t 32]),m1 10 33] [0,5,7,10,11] Aj3)
def AjF:IC:=rS [m1 54 0,m1 55 8,q2 56 96 54 55,m1 53 56,xT 57 53 0,xT 58 53 1,o1 12 (.alloc (.agg [.i .i64 0,.i .i64 0,.i .i64 0])),sT 12 57 3,m1 13 58] [5,9,12] (sQ (.ops [lA 59 12 3,m1 60 9,mC 4 .nil,sT 5 59 3,m1 6 60] [4,5,6] [[0,3],[1,4]]) .ret)
def Alj:IC:=sQ (rS [m1 61 10,o1 62 (.callr 62 [.t 61]),bZ 63 .gtr 62 4000] [5,10,63] (cD 63 (rS [o1 64 (.build [.i .i64 0,.i .i64 0,.i .i64 0] []),mC 4 .nil,sT 5 64 3,mZ 6 6] [4,5,6] .ret) .skip)) (rS [m1 65 10,o1 66 (.build [.i .i64 0,.i .i64 0,.i .i64 0] []),m1 4 65,sT 5 66 3,mZ 6 0] [4,5,6] .ret)
def Als:IC:=sQ (rS [m1 24 9,bZ 25 .eql 24 0] [0,1,5,7,8,9,10,25] (cD 25 AlX .skip)) (sQ (rS [m1 51 9,bZ 52 .neq 51 0] [0,5,8,9,10,52] (cD 52 AjF .skip)) Alj)
def Asg:IC:=sQ (rS [m1 20 9,bZ 21 .eql 20 6] [0,1,5,7,8,9,21] (cD 21 (rS [o1 22 (.build [.i .i64 0,.i .i64 0,.i .i64 0] [(0,1,ci 4000)]),m1 23 9,mC 4 .nil,sT 5 22 3,m1 6 23] [4,5,6] .ret) .skip)) (rS [mC 10 .nil] [0,1,5,7,8,9,10] Als)
def ArE:IC:=rS [mC 4 .nil,o1 5 (.alloc (.agg [.i .i64 0,.i .i64 0,.i .i64 0])),mZ 6 0] [0,1,5] (rS [m1 15 0,q1 16 93 15,m1 14 16,xT 17 14 0,xT 18 14 1,xT 19 14 2,m1 7 17,m1 8 18,m1 9 19] [0,1,5,7,8,9] Asg)
def Aph:F9:=⟨67,ArE,[.t 4,.c 5 3 true,.t 6]⟩
theorem Ask:Dd π 63 Aph=true:=by kernel_rfl
def Atg:IC:=rS [mC 2 .nil,o1 3 (.alloc (.agg [.i .i64 0,.i .i64 0,.i .i64 0])),mZ 4 0] [0,3] (rS [m1 5 0,o1 6 (.call 63 [.t 5,.c (.b false)]),xT 7 6 0,xT 8 6 1,xT 9 6 2,m1 2 7,sT 3 8 3,m1 4 9] [2,3,4] .ret)
def As9:F9:=⟨10,Atg,[.t 2,.c 3 3 true,.t 4]⟩
theorem AsK:Dd π 28 As9=true:=by kernel_rfl
def Ap9:IC:=sQ (rS [m1 19 12,bZ 20 .neq 19 0] [2,3,4,10,20] (cD 20 (rS [mC 8 (.s []),mZ 9 3] [8,9] .ret) .skip)) (rS [lA 21 4 16,m1 22 10,m1 23 2,m1 24 3,o1 25 (.callr 26 [.t 21,.t 22,.t 23,.t 24]),xT 26 25 0,xT 27 25 1,m1 8 26,m1 9 27] [8,9] .ret)
def AoT:IC:=rS [m1 14 1,q1 15 28 14,m1 13 15,xT 16 13 0,xT 17 13 1,xT 18 13 2,o1 11 (.alloc (.agg [.i .i64 0,.i .i64 0,.i .i64 0])),m1 10 16,sT 11 17 3,m1 12 18] [2,3,4,10,12] Ap9
def Apc:IC:=rS [bX 4 0,mC 8 (.s []),mZ 9 0] [1,2,3,4] AoT
def Ap4:F9:=⟨28,Apc,[.t 8,.t 9]⟩
theorem ApF:Dd π 12 Ap4=true:=by kernel_rfl
def AwD:IC:=rS [m1 23 3,bZ 24 .eql 23 0,m1 25 24,BY 26 25 2,gT 27 25 (.bin .eql (.t 26) (.c (.s [49,44,48,48,48,32,102,105,108,101,115]))),pA 28 25 27,m1 29 28,BY 30 29 5,Gi 31 29 .eql 30 0,pA 32 29 31,m1 33 32,BY 34 33 4,gT 35 33 (.bin .eql (.t 34) (.c (.s [226,129,168,97,226,129,169]))),pA 36 33 35,m1 0 36] [0] .ret
def Awo:IC:=rS [lA 17 1 16,o1 18 (.build [.s [],.i .i64 0,.s [],.i .i64 0,.nil] [(0,1,.c (.s [120])),(1,1,ci 1),(2,1,.c (.s [97]))]),o1 19 (.msl true 55 5 [.t 18]),o1 20 (.callr 12 [.t 17,.c (.s [123,120,125]),.t 19,.c (.b true)]),m1 16 20,xT 21 16 0,xT 22 16 1,m1 4 21,m1 5 22] [2,3,4,5] AwD
def Awj:IC:=rS [lA 9 1 16,o1 10 (.build [.s [],.i .i64 0,.s [],.i .i64 0,.nil] [(0,1,.c (.s [110])),(1,1,ci 2),(2,1,.c (.s [49,48,48,48]))]),o1 11 (.build [.s [],.i .i64 0,.s [],.i .i64 0,.nil] [(0,1,.c (.s [120])),(1,1,ci 1),(2,1,.c (.s [102,105,108,101,115]))]),o1 12 (.msl true 55 5 [.t 10,.t 11]),o1 13 (.callr 12 [.t 9,.c (.s [123,110,44,32,112,108,117,114,97,108,44,32,61,49,32,123,60,98,62,35,60,47,98,62,125,32,111,116,104,101,114,32,123,35,32,123,120,125,125,125]),.t 12,.c (.b false)]),m1 8 13,xT 14 8 0,xT 15 8 1,m1 2 14,m1 3 15] [1,2,3] Awo
def AvM:IC:=rS [o1 6 (.build [.s [],.s [],.s [],.s [],.i .i64 0,.i .i64 0] [(0,1,.c (.s [46])),(1,1,.c (.s [44])),(2,1,.c (.s [45])),(4,1,ci 3)]),o1 7 (.build [.s [],.s [],.s [],.nil,.nil,.s [],.s [],.s [],.s [],.i .i64 0,.i .i64 0,.nil,.nil,.nil,.nil,.nil] [(5,6,.t 6)]),o1 1 (.alloc (.agg [.s [],.s [],.s [],.nil,.nil,.s [],.s [],.s [],.s [],.i .i64 0,.i .i64 0,.nil,.nil,.nil,.nil,.nil])),sT 1 7 16] [1] Awj
def Axb:IC:=rS [mC 0 (.b false)] [] AvM
def e4T:F9:=⟨37,Axb,[.t 0]⟩
theorem AwU:Dd π 4 e4T=true:=by kernel_rfl
noncomputable def evA:FuncId->Option F9:=(BR 125 (BR 92 (BR 47 (BR 28 (BR 12 (BO 4 e4T) (BO 12 Ap4)) (BR 42 (BO 28 As9) (BO 42 Ass))) (BR 63 (BR 52 (BO 47 AqS) (BO 52 Apy)) (BR 85 (BO 63 Aph) (BR 86 (BO 85 AqX) (BO 86 AtS))))) (BR 108 (BR 94 (BR 93 (BO 92 Aq4) (BO 93 Aq5)) (BR 107 (BO 94 Asa) (BO 107 AfE))) (BR 122 (BR 121 (BO 108 Ago) (BO 121 AiB)) (BR 123 (BO 122 AiY) (BR 124 (BO 123 Af6) (BO 124 Aij)))))) (BR 169 (BR 129 (BR 127 (BR 126 (BO 125 AhY) (BO 126 Ag6)) (BR 128 (BO 127 AhT) (BO 128 Agb))) (BR 146 (BR 130 (BO 129 Ahz) (BO 130 Aio)) (BR 166 (BO 146 AhH) (BR 168 (BO 166 AhI) (BO 168 AhM))))) (BR 175 (BR 171 (BR 170 (BO 169 Ah5) (BO 170 AfA)) (BR 172 (BO 171 Agu) (BR 173 (BO 172 AhE) (BO 173 AfV)))) (BR 218 (BR 217 (BO 175 AhZ) (BO 217 AgN)) (BR 254 (BO 218 Ah4) (BR 275 (BO 254 AgK) (BO 275 Aje)))))))
theorem Amh:JE π evA:=(.node (.node (.node (.node (.node (.leaf AwU) (.leaf ApF)) (.node (.leaf AsK) (.leaf ApD))) (.node (.node (.leaf ApB) (.leaf ApV)) (.node (.leaf Ask) (.node (.leaf AoM) (.leaf Apo))))) (.node (.node (.node (.leaf Auh) (.leaf Atm)) (.node (.leaf ApL) (.leaf AnM))) (.node (.node (.leaf AnV) (.leaf AmI)) (.node (.leaf AnF) (.node (.leaf Aob) (.leaf AmO)))))) (.node (.node (.node (.node (.leaf Amk) (.leaf Am4)) (.node (.leaf Amy) (.leaf AjU))) (.node (.node (.leaf AnG) (.leaf AmG)) (.node (.leaf Amo) (.node (.leaf AlL) (.leaf Anj))))) (.node (.node (.node (.leaf AmP) (.leaf AlG)) (.node (.leaf AkC) (.node (.leaf Akp) (.leaf Ans)))) (.node (.node (.leaf Ako) (.leaf Ame)) (.node (.leaf AmC) (.node (.leaf AmS) (.leaf An0)))))))
end Go.Ir
end
section
set_option maxRecDepth 1000000
namespace Go.Ir
open Go.Proofs
def nY:List (TypeId×Nat×Nat):=[(134,2,0)]
theorem Aw5:∀p∈nY,liesAt π π.depth p.1 (p.2.1 / π.cellsOf p.1) p.2.2 134 1=true:=by intro p hp;simp only[nY,Ahk,AzL,or_false] at hp;subst hp;kernel_rfl
noncomputable def AqI:BJ:=orC (onC 84 Kw) (orC (onC 183 Sd) (orC (onC 147 o9) (orC (onC 216 JR) (orC (onP 26 QB) (orC (onP 62 SA) (orC (AdH 167 nY) (AeF 60 5)))))))
theorem Acy O (a:BS O)(b:Cu O):Bo π O AqI:=
 Kr (U6 O) (Kr (uB O) (Kr (AnS O) (Kr (Tm O) (Kr (wI O a b) (Kr (sX O) (Kr (d5 O _ Aw5) (fN O)))))))
theorem Wc:ApM (QY evA AqI 100000 100 4 [] [] 0)=some (.b true):=by kernel_rfl
theorem zI O (a:BS O)(c:Cu O):Ak π O 4 [] [] (.b true) []:=UM Amh (Acy O a c) Wc rfl rfl
end Go.Ir
end
namespace Go.Ir
open Go.Proofs
theorem Ux{k}(h:AI k=true):k=7\/k=8\/k=9:=by unfold AI at h;simp at h;omega
theorem TM{a b}(h:(Lr a b).2=true)(g:a≠4\/b=0):(Lr a b).1≠4:=by
 unfold Lr at *;cases f:(!FZ a||!FZ b) with
 | true=>rw[f] at h;simp at h
 | false=>
  rw[f] at h;simp only[Ab7,Ab9] at h⊢;by_cases e:(a==b)=true
  .rw[Amm e];have:a=b:=by simpa using e
   subst this;simp only;omega
  .rw[AfL e] at h⊢;by_cases c:(a==0&&b !=4)=true
   .rw[Amm c];simp at c;exact c.2
   .rw[AfL c] at h⊢;by_cases d:(b==0&&a !=4)=true
    .rw[Amm d];simp at d;exact d.2
    .rw[AfL d] at h;cases h
def LV(m:HI)(n:Aa):Prop:=∃x,B0 m n=some x/\x≠4
theorem nJ t u (h:(C9 t u).2=false):(∀n,LV t.1 n->LV (C9 t u).1 n)/\(u.2=0->LV (C9 t u).1 u.1):=by
 unfold C9 at *;split at h
 .rename_i a;simp only ;refine⟨λn b=>?_,λc=>⟨u.2,by rw[Ep,Amm rfl],by omega⟩⟩;have ⟨x,hx,h4⟩:=b;refine⟨x,?_,h4⟩;rw[Ep,AfL]
  .exact hx
  .rintro rfl;rw[a] at hx;cases hx
 .rename_i e a;simp only ;simp only[Azt,Ay9] at h;refine⟨λn b=>?_,λc=>⟨_,by rw[Ep,Amm rfl],TM h.2 (.inr c)⟩⟩;have ⟨x,hx,h4⟩:=b;by_cases d:n=u.1
  .subst d;rw[a] at hx;cases hx;exact⟨_,by rw[Ep,Amm rfl],TM h.2 (.inl h4)⟩
  .exact⟨x,by rw[Ep,AfL d];exact hx,h4⟩
theorem eG(us:List (Aa×Int)):∀t:HI×Bool,(us.foldl C9 t).2=false->(∀n,LV t.1 n->LV (us.foldl C9 t).1 n)/\∀u∈us,u.2=0->LV (us.foldl C9 t).1 u.1:=by
 induction us with
 | nil=>intro t _;exact⟨λn h=>h,λu a=>by cases a⟩
 | cons v us g=>
  intro t h;have b:=g _ h;have d:=nJ t v (NB us _ h);refine⟨λn f=>b.1 n (d.1 n f),λu a c=>?_⟩;rcases Ahk.1 a with rfl|a
  .exact b.1 _ (d.2 c)
  .exact b.2 u a c
theorem xA ps:∀U:Aa×Int->Prop,(∀u∈Bj ps,U u)->A4 (λp=>F4 p.kind=true->U (p.name,EM p.kind)) ps:=by
 refine CA (P:=λp=>∀U:Aa×Int->Prop,(∀u∈p.uses,U u)->p.all (λp=>F4 p.kind=true->U (p.name,EM p.kind))) (Q:=λps=>∀U:Aa×Int->Prop,(∀u∈Bj ps,U u)->A4 (λp=>F4 p.kind=true->U (p.name,EM p.kind)) ps)
  (R:=λcs=>∀U:Aa×Int->Prop,(∀u∈Dp cs,U u)->B8 (λp=>F4 p.kind=true->U (p.name,EM p.kind)) cs) ?_ ?_ ?_ ?_ ?_ ps
 .intro p d b U h;rw[p.uses_eq] at h;rw[p.all_eq];refine⟨λe=>h _ ?_,d U λu a=>h u (by simp[a]),b U λu a=>h u (by simp[a])⟩;rw[e];simp
 .intro U _;simp only[A4]
 .intro p ps hp b U h;rw[G3] at h;rw[AA];exact⟨hp U λu a=>h u (by simp[a]),b U λu a=>h u (by simp[a])⟩
 .intro U _;simp only[B8]
 .intro c cs b d U h;rw[G5] at h;rw[Bt];exact⟨b U λu a=>h u (by simp[a]),d U λu a=>h u (by simp[a])⟩
def Fit(vs:List Ch)(u:Aa×Int):Prop:=∃v,Fo vs u.1=some v/\FA v=true/\((u.2≠0/\v.type=u.2)\/(u.2=0/\v.type≠4))
theorem Acl ps vs args (f:(Em ps).2=false)(d:∀n x,B0 (Em ps).1 n=some x->(n,x)∈args)(g:(Es vs args 0).2=0):A4 (λp=>F4 p.kind=true->Fit vs (p.name,EM p.kind)) ps:=by
 have a:=LW args 0 g;refine xA ps (Fit vs) λu e=>?_;by_cases b:u.2=0
 .have ⟨x,c,h4⟩:=(eG (Bj ps) ([],false) f).2 u e b;have ⟨v,hv,hp,hac⟩:=a _ (d _ _ c);refine⟨v,hv,hp,.inr ⟨b,?_⟩⟩;unfold Pf at hac;simp at hac;omega
 .have c:=(Mf (Bj ps) ([],false) f).2 u e b;have ⟨v,hv,hp,hac⟩:=a _ (d _ _ c);refine⟨v,hv,hp,.inl ⟨b,?_⟩⟩;unfold Pf at hac;simp at hac;omega
end Go.Ir

namespace Go.Ir
open Go.Proofs
variable{P:Program}{O:World}{nt n:Nat}{Q:Exit→St→Prop}{env:BB}{σ:Aq}
end Go.Ir

namespace Go.Ir
open Go.Proofs
variable(O:World)
theorem ZZ:∀(l) (n),Tu l n<=200->n<=200/\∀s∈l,s.length<=200
 | [],n,h=>⟨h,λs a=>by cases a⟩
 | x::r,n,h=>by
  rw[Tu] at h;have ⟨h1,h2⟩:=ZZ r _ h;refine⟨by omega,λs a=>?_⟩;rcases Ahk.1 a with rfl|a
  .omega
  .exact h2 s a
theorem Ks{e}:∀{vs},Dr e vs=true->e=true/\∀v∈vs,ZN v/\v.text.length<=2^24
 | [],h=>⟨h,λv c=>by cases c⟩
 | v::r,h=>by
  rw[Dr,AaS,AsZ,Azt,Azt,A0U,A0U] at h;have ⟨⟨⟨h1,h2⟩,_⟩,h3⟩:=h;have ⟨h4,h5⟩:=Ks h3;have ⟨h6,h7⟩:=ZZ v.list (v.text.length:Int) (by omega);refine⟨h4,λx a=>?_⟩;rcases Ahk.1 a with rfl|a
  .exact⟨⟨by omega,by omega,λs b=>by have:=h7 s b;omega⟩,by omega⟩
  .exact h5 x a
theorem Ac9(d:Cu O) L vs a (hp:-9223372036854775808<=L.prim)(f:L.sec<9223372036854775808)(g:Ax L.card+Ax L.ord<=2^24)(e:vs.length<=2^40)(b:J8 L=true)(c:Dr (decide ((vs.length:Int)<=30)) vs=true):XOk ⟨L,vs,a⟩ (Gu L.months+Gu L.days+24):=by unfold J8 at b;simp only[AaS,Avv] at b;exact uY O d L vs a (by omega) hp f g e (Ks c).2
theorem ND(f:BS O)(g:Cu O) c L ps vs a b (h:XOk ⟨L,vs,a⟩ c)(j:A7 b<=2^24) :
  Ak π O 10 [Qi L ps vs a,.sl (b.map Ad.enc)] [] (.tup [.s (HN L b vs a).1,.i .i64 (HN L b vs a).2]) []:=by
 have e:=Pz O f g c L vs a b h j;generalize HN L b vs a=S at *;rw[Du.enc_eq] at e;rw[II];refine Ac (vs:=[.s S.1,.i .i64 S.2]) AtI (by simp) (by simp) λn0 d=>?_;clear d;simp only[push_cast,seval]
 repeat' (first|((apply AL<;>intro _h)<;>simp only[push_cast,seval,_h])|(refine Ab (by exact e) ?_;simp only[push_cast,seval])|intro _)
 refine Ah ?_;simp[push_cast]
end Go.Ir

namespace Go.Ir
open Go Go.Proofs Go.RowKit Go.Maps Go.Sort Go.Shelf Go.WideElems
variable(O:World)
def TK(m:HI):DataW Unit:=.map ((m.map λe=>(Lit.string e.1,DataW.nil)).foldr DataW.insert [])
def Kp(m:HI):List Aa:=(strKeys (TK m)).mergeSort (λx y=>decide (x<=y))
theorem Adx{m e}(h:e∈m):e.1∈Kp m:=by unfold Kp TK strKeys;rw[A2r];exact Aov.2 ⟨(Lit.string e.1,DataW.nil),mem_sorted.2 (Aov.2 ⟨e,h,rfl⟩),rfl⟩
theorem Rk m:(Kp m).length=m.length:=by unfold Kp TK strKeys;rw[A16,Afb,(Go.WideShapes.sorted_perm _).length_eq,Afb]
def QJ:Nat:=72
theorem Akm m mid:FK Tryz.prog O 35 [.arr mid] [(mid,.map (DN m))] (λn n' v σ'=>∃kid,n<=kid.1/\kid.1<n'/\v=.fn QJ [] [.ref kid 0]/\σ'=[(kid,.box (.arr mid)),(mid,.map (DN m))]) where
 callable:=by kernel_rfl
 run:=by
  intro n w μ H f hp b;obtain⟨x,rfl⟩:∃x,f=[x]:=by
   match f,b.len with
   | [x],_=>exact⟨x,rfl⟩
  have q:=b.at_ 0 _ _ rfl rfl;have ⟨hm,_⟩:=q.arr_inv;have p:lk [(mid,AP.map (DN m))] mid=some (.map (DN m)):=by simp[lk]
  have ⟨r,mes,clock,h1,h2,h3,h4⟩:=hp.ents _ _ p;rw[hm] at h1;cases h1;refine Az5 ((callsIn_wide (n:=5)).1 (AnyZ.keys_in Tryz.keysA Fence.wide 5 trivial rfl (some r) w)) ?_;rintro e w' ⟨rfl,rfl⟩;have a:μ (n,0)=none:=hp.bd _ (Ab6 _);have i:=BQ (v:=.pointer (some ⟨w.heap.size,0,none⟩)) a;have d:=(hp.more (Avb n)).new_ (n':=n+1) (R:=λ_=>False) (By.alloc w (.cells #[.map (some r)] (Tryz.keysA_ren.t 23))) (λ_ h=>h.elim) (σ1:=[(mid,.map (DN m))]) (λid e h=>⟨h,λ_ _ h=>h⟩) (id:=(n,0)) (e:=.box (.arr mid)) (val:=.pointer (some ⟨w.heap.size,0,none⟩)) a (Ab4 _) (Ab6 _) (λs l=>by right;simp[Cl] at l;omega)
   ⟨w.heap.size,#[.map (some r)],Tryz.keysA_ren.t 23,Au _ _ _,hp.base.size,by simp[-World.alloc_eq,World.alloc],⟨⟨rfl,λk c v g b=>by
    cases k with
    | zero=>simp[cells] at g b;subst g b;exact .arr _ _ (i _ _ hm) rfl
    | succ k=>simp[cells] at g⟩,λv b=>by grind⟩⟩
  refine⟨_,_,H,n+1,_,_,rfl,⟨(n,0),Ab6 _,Ab4 _,rfl,rfl⟩,?_,d.1,Avb _,d.2,λid o j=>?_⟩
  .exact .fn _ [] [.ref (n,0) 0] [] [.pointer (some ⟨w.heap.size,0,none⟩)] rfl rfl (λk c v h=>by cases h) (λk c v g b=>by
    cases k with
    | zero=>simp at g b;subst g b;exact .ref _ _ _ (Au _ _ _)
    | succ k=>simp at g)
  .rw[Ce _ _ (by grind)];exact j
theorem Al8 m:AnyZ.SortsIn π Tryz.sortedA_ren Fence.wide m:=
 ⟨λCl d a f W e b c=>callsIn_wide.2 (AnyM.slices_Sort_string Tryz.sortA Cl d a f W e b c),λp a W=>callsIn_wide.2 (AnyM.slices_Sort_string_none Tryz.sortA p a W)⟩
def Ac8:Value->Option (DataW Unit×List MemPlace):=λ_=>some (.nil,[])
theorem Yn{l:Aa}(b:l.length<=2^40):keyOf π 9 (.string ⟨l.toArray⟩)=some (.string l):=by
 have h:(π).underlying 9=some .string:=by kernel_rfl
 unfold keyOf;rw[h];simp only;unfold mapKey;rw[h];simp only;have a:l.length<=maxLen:=AoW b (by decide);rw[Amm (by simpa[ByteArray.size] using a)]
theorem wP{μ:Id->Option Value}{H:Addr->Option Value}{w:World}{m:HI}{r b:Nat}{a:Array MapEntry}(t:(m.map Prod.fst).Nodup)(g:m.length<=2^30)(l:∀e∈m,e.1.length<=2^40)(p:w.heap[r]?=some (.map a b))(h:gK μ H (DN m) a.toList b) :
  w.ownsMap Tryz.prog 9 Ac8 r m.length (TK m):=by
 have q:a.toList.length=m.length:=by rw[<-h.len];simp[DN]
 have d:∀(k:Nat) (x:MapEntry),a.toList[k]?=some x->∃e,m[k]?=some e/\x.key=.string ⟨e.1.toArray⟩/\x.born=k:=by
  intro k x c;have f:k<m.length:=by grind
  refine⟨m[k],Am7 f,?_,h.born k x c⟩;have o:(DN m)[k]?=some (.s (m[k]).1,.i .i64 (m[k]).2):=by simp[DN,Am7 f]
  exact(Bx (h.at_ k _ _ o c).1).1
 have j:a.toList.map (rg Tryz.prog 9 Ac8)=m.map λe=>(Lit.string e.1,DataW.nil):=by
  apply Az7;intro k;rw[ArI,ArI];cases c:a.toList[k]? with
  | none=>grind
  | some x=>have ⟨e,he,hkey,_⟩:=d k x c;rw[he];simp only[Azw,Ao3];refine rg_of ?_;unfold WideElems.rd Ac8;rw[hkey,Yn (l e (Ao6 he))];rfl
 refine⟨a,b,p,⟨?_,⟨?_,?_,?_⟩,?_⟩,?_,?_⟩
 .have:a.size=m.length:=by simpa using q
  rw[this];exact AoW g (by decide)
 .intro x c;have ⟨k,hk2⟩:=AxL.1 c;have:=h.born k x hk2;have u:=(Ao5.1 hk2).1;rw[h.now];omega
 .have:a.toList.map (·.born)=List.range a.toList.length:=by
   apply Az7;intro k;rw[ArI];grind
  grind
 .have:a.toList.map (·.key)=m.map λe=>Value.string ⟨e.1.toArray⟩:=by
   apply Az7;intro k;rw[ArI,ArI];grind
  grind
 .intro x c;have ⟨k,hk2⟩:=AxL.1 c;have ⟨e,he,hkey,_⟩:=d k x hk2;refine⟨(Lit.string e.1,DataW.nil),?_⟩;unfold WideElems.rd Ac8;rw[hkey,Yn (l e (Ao6 he))];rfl
 .grind
 .rw[j];rfl
theorem ZF{m x}(h:x∈Kp m):∃e∈m,e.1=x:=by unfold Kp TK strKeys at h;rw[A2r] at h;obtain⟨p,hp,rfl⟩:=Aov.1 h;obtain⟨e,a,rfl⟩:=Aov.1 (mem_sorted.1 hp);exact⟨e,a,rfl⟩
theorem AdR{μ H m}(g:∀e∈m,e.1.length<=2^40):AY μ H (AQ ((Kp m).map V.s)) ((Kp m).map encStr):=by
 rw[Xb];refine⟨⟨by simp,λk c v b a=>?_⟩,λv a=>?_⟩
 .rw[ArI] at b a;obtain⟨x,d,rfl⟩:=Afo.1 b;rw[d] at a;cases a;obtain⟨e,f,rfl⟩:=ZF (Ao6 d);exact .s _ (by have:=g e f;simp only[AG];omega)
 .obtain⟨x,_,rfl⟩:=Aov.1 a;rfl
theorem xB m (N:(m.map Prod.fst).Nodup)(j:m.length<=2^30)(D:∀e∈m,e.1.length<=2^40) kid mid (S:kid≠mid) :
  Kk Tryz.prog O 34 [.fn QJ [] [.ref kid 0]] [(kid,.box (.arr mid)),(mid,.map (DN m))] (.arr 9 1 ((Kp m).map V.s)) [(kid,.box (.arr mid)),(mid,.map (DN m))] where
 callable:=by kernel_rfl
 dom:=λ_ h=>h
 run:=by
  intro n w μ H o hp hv;obtain⟨x,rfl⟩:∃x,o=[x]:=by
   match o,hv.len with
   | [x],_=>exact⟨x,rfl⟩
  have hx:=hv.at_ 0 _ _ rfl rfl;have L:lk [(kid,AP.box (.arr mid)),(mid,AP.map (DN m))] kid=some (.box (.arr mid)):=by simp[lk]
  have M:lk [(kid,AP.box (.arr mid)),(mid,AP.map (DN m))] mid=some (.map (DN m)):=by simp[lk,S]
  obtain⟨t,F,ct,k1,k2,k3,k4⟩:=hp.ents _ _ L;obtain⟨r,ao,E,C,Y,Z,I⟩:=hp.ents _ _ M;obtain⟨y,rfl,U⟩:∃y,x=.func (.func QJ) #[] #[y]/\Ap μ H (.ref kid 0) y:=by
   cases hx with
   | fn _ _ _ bs fs C Y Z I=>
    match bs,fs,C,Y with
    | [],[y],_,_=>exact⟨y,rfl,I 0 _ _ rfl rfl⟩
  obtain⟨ae,J,rfl⟩:=U.ref_inv;rw[J] at k1;cases k1;obtain⟨aa,d⟩:μ mid=some (.map (some r))/\True:=⟨C,trivial⟩;have p:w.cell? ⟨t,0,none⟩=some (.map (some r)):=by have G:=k4.get (k:=0) (c:=.arr mid) rfl;obtain⟨z,hz,X⟩:=G;have:=X.arr_inv.1;rw[C] at this;cases this;simp[World.cell?,k3];simpa using hz
  have K:t<w.heap.size:=(AuO.1 k3).1;have u:=wP N j D Z I;have A:=AnyZ.keys_gives (ρ:=Tryz.keysA_ren) { Tryz.keysA with } Fence.wide 2 trivial rfl (by omega) t r m.length (TK m) w K p u;have hN:Maps.size (TK m)<=2^30:=by unfold TK;rw[Maps.size_eq,(Go.WideShapes.sorted_perm _).length_eq,Afb];exact j
  have cS:=AnyZ.sorted_in Tryz.sortedA Fence.wide 5 trivial trivial trivial trivial rfl (by omega) (Al8 _) (enters_of Tryz.func71 (by kernel_rfl) rfl) QJ #[.pointer (some ⟨t,0,none⟩)] trivial (enters_of Tryz.func72 (by kernel_rfl) rfl) _ _ (AoW hN (by decide)) (by omega) _ A;refine Az5 ((callsIn_wide (n:=5)).1 cS) ?_;rintro e w' ⟨v,ss,rfl,hS,f,ab,i⟩;have b:μ (n,0)=none:=hp.bd _ (Ab6 _);have B:ss.mergeSort (λx y=>decide (x<=y))=Kp m:=mergeSort_of_perm hS;have q:ss.length=(Kp m).length:=by rw[<-B,A16]
  rw[B,q] at f;have a:=f.2;have d:v.oneCell'=true:=by rcases a with⟨rfl,_⟩|⟨g,cap,cur,rfl,_⟩<;>rfl
  have l:=(hp.more (Avb n)).new_ (n':=n+1) (R:=λ_=>False) (w':=w') ⟨i.os,i.tape,i.output,i.size,λk D _=>i.block k D⟩ (λ_ h=>h.elim) (σ1:=[(kid,.box (.arr mid)),(mid,.map (DN m))]) (λid e h=>⟨h,λ_ _ h=>h⟩) (id:=(n,0)) (e:=.arr 9 1 ((Kp m).map V.s)) (val:=v) b (Ab4 _) (Ab6 _) (λt i=>by
    right;rcases a with⟨rfl,_⟩|⟨g,cap,cur,rfl,hg,_⟩
    .simp[Cl] at i
    .simp[Cl] at i;omega)
   ⟨v,(Kp m).map encStr,Au _ _ _,d,by rw[Afb];exact ownsRow_base_a f hp.base.size,by rw[Afb,Rk];unfold AJ;omega,by intro y U;obtain⟨x,_,rfl⟩:=Aov.1 U;rfl,AdR D⟩
  refine⟨v,_,H,n+1,(n,0),rfl,Au _ _ _,d,b,by cases hq:lk [(kid,AP.box (V.arr mid)),(mid,AP.map (DN m))] (n,0) with|none=>rfl|some e=>exact absurd (hp.ents _ _ hq).named (by grind),l.1,Avb _,l.2,λid aj G=>?_⟩;rw[Ce _ _ (by grind)];exact G
end Go.Ir

namespace Go.Ir
open Go.Proofs
variable(O:World)
def GQ(m:HI):HI:=(Kp m).map λn=>(n,(B0 m n).getD 0)
theorem Ajy(t:HI×Bool)(tid mid:Id)(F:tid≠mid)(ad:(t.1.map Prod.fst).Nodup)(K:t.1.length<=2^28)(hk:∀e∈t.1,e.1.length<=2^40) :
  Ak π O 15 [.ref tid 0] (BV tid mid t) (.sl ((GQ t.1).map K0)) []:=by
 have f1:(tid=mid)=False:=Ab8 F;have G:(mid=tid)=False:=Ab8 (Ao0 F);refine Ac (vs:=[.sl ((GQ t.1).map K0)]) Arw (by simp) (by simp[lk]) λn0 E=>?_;have aA:tid.1<n0:=E tid (.box (.agg [.arr mid,.b t.2])) (by simp[BV,lk]);have aB:mid.1<n0:=E mid (.map (DN t.1)) (by simp[BV,lk,F]);clear E;unfold BV;simp only[push_cast,seval];intro k1 k2 k3;refine Bd (Akm O t.1 mid) (λi e h=>by
  simp only[lk] at h⊢;split at h
  .rename_i k;subst k;cases h;simp[f1]
  .cases h) (λA v σo aC hR=>?_)
 obtain⟨kid,ay,az,rfl,rfl⟩:=hR;have J:kid≠tid:=by rintro rfl;omega
 have C:kid≠mid:=by rintro rfl;omega
 have r:over [(mid,AP.map (DN t.1))] [(kid,AP.box (.arr mid)),(mid,AP.map (DN t.1))] [(tid,AP.box (.agg [.arr mid,.b t.2])),(mid,AP.map (DN t.1))]=[(kid,AP.box (.arr mid)),(mid,AP.map (DN t.1)),(tid,AP.box (.agg [.arr mid,.b t.2]))]:=by simp[over,lk,G]
 rw[r];clear r;simp only[push_cast];refine Jn (xB O t.1 ad (by omega) hk kid mid C) (λi e h=>?_) ?_
 .exact AK (σ:=[_,_]) (τ:=[_]) h
 have r:over [(kid,AP.box (.arr mid)),(mid,AP.map (DN t.1))] [(kid,AP.box (.arr mid)),(mid,AP.map (DN t.1))] [(kid,AP.box (.arr mid)),(mid,AP.map (DN t.1)),(tid,AP.box (.agg [.arr mid,.b t.2]))]=[(kid,AP.box (.arr mid)),(mid,AP.map (DN t.1)),(tid,AP.box (.agg [.arr mid,.b t.2]))]:=by simp[over,lk,C,J,G]
 rw[r];clear r;simp only[push_cast,seval];intro k4;generalize hL:Kp t.1=L;have au:L.length<=2^28:=by rw[<-hL,Rk];exact K
 have hA:GQ t.1=L.map λn=>(n,(B0 t.1 n).getD 0):=by unfold GQ;rw[hL]
 rw[hA];clear hA;obtain⟨g,hg⟩:∃g:Aa->V,g=λn=>K0 (n,(B0 t.1 n).getD 0):=⟨_,rfl⟩
 have N:(L.map λn=>(n,(B0 t.1 n).getD 0)).map K0=L.map g:=by simp_all
 rw[N];clear N;generalize R:((A,11):Id)=c;refine Aj L.length (Inv:=λm st=>∃dn a n j,L=dn++a/\m=a.length/\(j=none->dn=[])/\A+1<=n/\(∀o,j=some o->A+1<=o.1/\o.1<n)/\st=⟨[(0,.ref tid 0),(3,sv j),(11,.arr c),(12,.i .i64 L.length),(13,.i .i64 dn.length)],(match j with|none=>[]|some o=>[(o,.arr 74 2 (dn.map g))])++[(c,AP.arr 9 1 (L.map V.s)),(kid,AP.box (.arr mid)),(mid,AP.map (DN t.1)),(tid,AP.box (.agg [.arr mid,.b t.2]))],n⟩) ⟨_,Ag.refl,[],L,A+1+k4,none,rfl,rfl,(λ_=>rfl),(by omega),(λo (h:none=some o)=>by cases h),rfl⟩ ?_;rintro m _ ⟨dn,a,n,j,U,rfl,M,hn,ae,rfl⟩;have aD:c.1=A:=by rw[<-R]
 have Y:(c=tid)=False:=Ab8 (by rintro rfl;omega);have Z:(c=mid)=False:=Ab8 (by rintro rfl;omega);have e3:(kid=tid)=False:=Ab8 J;have e4:(kid=mid)=False:=Ab8 C;cases a with
 | nil=>
  have ac:L=dn:=by rw[U];simp
  subst ac;cases j with
  | none=>have:=M rfl;subst this;simp only[push_cast,seval];intros;exact Nl rfl
  | some o=>simp only[push_cast,seval];intros;refine H7 (id:=o) (e:=74) (sz:=2) rfl (λy hy=>?_) (by simp[lk]);obtain⟨z,_,rfl⟩:=Aov.1 hy;rw[hg];rfl
 | cons x a=>
  have aw:=A9 U;have p:(L.map V.s)[dn.length]?=some (.s x):=by rw[U];simp
  have D:decide ((dn.length:Int)<(L.length:Int))=true:=by simp;omega
  have q:dn.length<L.length:=by omega
  have S:=Ae x (dn:=dn) (by omega);have f:g x=.agg [.s x,.i .i64 ((B0 t.1 x).getD 0)]:=by rw[hg];rfl
  cases j with
  | none=>
   have:=M rfl;subst this;have g1:decide ((0:Int)<(L.length:Int))=true:=by simpa using D
   have g2:(L.map V.s)[0]?=some (.s x):=by simpa using p
   have g3:0<L.length:=by simpa using q
   have g4:IntKind.i64.wrap (0+1)=1:=rfl;have I:(1<=AJ)=True:=Arp (by decide);have s1:sv none=.nil:=rfl;have d:∀(v:Int) (n':Nat) (o:Id),n<=o.1->o.1<n'->g x=.agg [.s x,.i .i64 v]->∃X u,X<a.length+1/\Ag O 30 ⟨[(0,.ref tid 0),(3,.arr o),(11,.arr c),(12,.i .i64 L.length),(13,.i .i64 1)],[(o,.arr 74 2 [.agg [.s x,.i .i64 v]]),(c,AP.arr 9 1 (L.map V.s)),(kid,AP.box (.arr mid)),(mid,AP.map (DN t.1)),(tid,AP.box (.agg [.arr mid,.b t.2]))],n'⟩ u/\(∃dn a n j,L=dn++a/\X=a.length/\(j=none->dn=[])/\A+1<=n/\(∀o,j=some o->A+1<=o.1/\o.1<n)/\u=⟨[(0,.ref tid 0),(3,sv j),(11,.arr c),(12,.i .i64 L.length),(13,.i .i64 dn.length)],(match j with|none=>[]|some o=>[(o,.arr 74 2 (dn.map g))])++[(c,AP.arr 9 1 (L.map V.s)),(kid,AP.box (.arr mid)),(mid,AP.map (DN t.1)),(tid,AP.box (.agg [.arr mid,.b t.2]))],n⟩):=by
    intro v n' o k l B;refine⟨_,_,Ab4 _,Ag.refl,[x],a,n',some o,by simpa using U,rfl,by simp,by omega,λo' h=>?_,?_⟩
    .cases h;omega
    .simp[sv,B]
   rcases Iw x t.1 0 with⟨i,v,k,l,h3⟩|⟨k,l,h3⟩
   .simp only[AzN] at l;rw[k] at f;simp only[push_cast,seval,G,Y,Z,e3,e4,l,g2,g1,g3,I,s1];intros;exact d _ _ _ (by simp only;omega) (by simp only;omega) f
   .rw[k] at f;simp only[push_cast,seval,G,Y,Z,e3,e4,l,g2,g1,g3,I,s1];intros;exact d _ _ _ (by simp only;omega) (by simp only;omega) f
  | some o=>
   have ⟨ho1,ho2⟩:=ae o rfl;have s2:sv (some o)=.arr o:=rfl;have q1:(o=tid)=False:=Ab8 (by rintro rfl;omega);have q2:(o=mid)=False:=Ab8 (by rintro rfl;omega);have q3:(o=c)=False:=Ab8 (by rintro rfl;omega);have q4:(o=kid)=False:=Ab8 (by rintro rfl;omega);have p1:(tid=o)=False:=Ab8 (by rintro rfl;omega);have p2:(mid=o)=False:=Ab8 (by rintro rfl;omega);have p3:(c=o)=False:=Ab8 (by rintro rfl;omega);have p4:(kid=o)=False:=Ab8 (by rintro rfl;omega);have I:(dn.length+1<=AJ)=True:=Arp (by simp only[AJ];omega);have d:∀(v:Int) (n':Nat) (o:Id),n<=o.1->o.1<n'->g x=.agg [.s x,.i .i64 v]->∃X u,X<a.length+1/\Ag O 30 ⟨[(0,.ref tid 0),(3,.arr o),(11,.arr c),(12,.i .i64 L.length),(13,.i .i64 (dn++[x]).length)],[(o,.arr 74 2 (dn.map g++[.agg [.s x,.i .i64 v]])),(c,AP.arr 9 1 (L.map V.s)),(kid,AP.box (.arr mid)),(mid,AP.map (DN t.1)),(tid,AP.box (.agg [.arr mid,.b t.2]))],n'⟩ u/\(∃dn a n j,L=dn++a/\X=a.length/\(j=none->dn=[])/\A+1<=n/\(∀o,j=some o->A+1<=o.1/\o.1<n)/\u=⟨[(0,.ref tid 0),(3,sv j),(11,.arr c),(12,.i .i64 L.length),(13,.i .i64 dn.length)],(match j with|none=>[]|some o=>[(o,.arr 74 2 (dn.map g))])++[(c,AP.arr 9 1 (L.map V.s)),(kid,AP.box (.arr mid)),(mid,AP.map (DN t.1)),(tid,AP.box (.agg [.arr mid,.b t.2]))],n⟩):=by
    intro v n' o k l B;refine⟨_,_,Ab4 _,Ag.refl,dn++[x],a,n',some o,by simpa using U,rfl,by simp,by omega,λo' h=>?_,?_⟩
    .cases h;omega
    .simp[sv,B]
   rcases Iw x t.1 0 with⟨i,v,k,l,h3⟩|⟨k,l,h3⟩
   .simp only[AzN] at l;rw[k] at f;simp only[push_cast,seval,G,Y,Z,e3,e4,q1,q2,q3,p1,p2,p3,p4,l,p,D,q,S,I,s2];intros;exact d _ _ _ (by simp only;omega) (by simp only;omega) f
   .rw[k] at f;simp only[push_cast,seval,G,Y,Z,e3,e4,q1,q2,q3,p1,p2,p3,p4,l,p,D,q,S,I,s2];intros;exact d _ _ _ (by simp only;omega) (by simp only;omega) f
theorem kS m n k:(HA m n k).map Prod.fst=if n∈m.map Prod.fst then m.map Prod.fst else m.map Prod.fst++[n]:=by
 induction m with
 | nil=>rfl
 | cons e m a=>rw[HA];grind
theorem uQ t u:∃k,(C9 t u).1=HA t.1 u.1 k:=by
 unfold C9;split
 .exact⟨_,rfl⟩
 .exact⟨_,rfl⟩
theorem cH(us:List (Aa×Int)):∀t:HI×Bool,(t.1.map Prod.fst).Nodup->((us.foldl C9 t).1.map Prod.fst).Nodup/\(us.foldl C9 t).1.length<=t.1.length+us.length/\∀n∈(us.foldl C9 t).1.map Prod.fst,n∈t.1.map Prod.fst\/∃u∈us,u.1=n:=by
 induction us with
 | nil=>grind
 | cons u us m=>
  intro t h;have ⟨k,hk⟩:=uQ t u;have hp:=kS t.1 u.1 k;rw[<-hk] at hp;have f:(C9 t u).1.length<=t.1.length+1:=by
   have:=A1o List.length hp;rw[Afb] at this;rw[this];split
   .simp
   .simp
  have ⟨h1,h2,h3⟩:=m (C9 t u) (by
   rw[hp];split
   .exact h
   .rename_i d;rw[A0n];refine⟨h,by simp,λa i b e j=>d ?_⟩;simp only[AzE] at e;rw[<-e,<-j];exact i)
  refine⟨h1,by rw[An9];simp only[AyT];omega,λn d=>?_⟩;rcases h3 n d with c|⟨v,l,rfl⟩
  .rw[hp] at c;split at c
   .exact .inl c
   .rcases AfJ.1 c with c|c
    .exact .inl c
    .simp only[AzE] at c;exact .inr ⟨u,by simp,c.symm⟩
  .exact .inr ⟨v,by simp[l],rfl⟩
theorem AcK ps:(Bj ps).length<=A7 ps/\∀u∈Bj ps,u.1.length<=A7 ps:=by
 refine CA (P:=λp=>p.uses.length<=p.wt/\∀u∈p.uses,u.1.length<=p.wt) (Q:=λps=>(Bj ps).length<=A7 ps/\∀u∈Bj ps,u.1.length<=A7 ps)
  (R:=λcs=>(Dp cs).length<=De cs/\∀u∈Dp cs,u.1.length<=De cs) ?_ ?_ ?_ ?_ ?_ ps
 .intro p b a;rw[p.uses_eq,p.wt_eq];refine⟨?_,λu d=>?_⟩
  .grind
  .simp only[AfJ] at d;grind
 .simp[Wm]
 .intro p ps hp a;rw[G3,A5];grind
 .simp[WL]
 .intro c cs a b;rw[G5,Bn];grind
theorem zP ps:((Em ps).1.map Prod.fst).Nodup/\(Em ps).1.length<=A7 ps/\∀e∈(Em ps).1,e.1.length<=A7 ps:=by
 have ⟨h1,h2,h3⟩:=cH (Bj ps) ([],false) (by simp);have ⟨h4,h5⟩:=AcK ps;refine⟨h1,by simp only[AtX] at h2;unfold Em;omega,λe a=>?_⟩;rcases h3 e.1 (Aov.2 ⟨e,a,rfl⟩) with h|⟨u,c,b⟩
 .simp at h
 grind
theorem Afg{m n x}(h:B0 m n=some x):∃e∈m,e.1=n:=by
 induction m with
 | nil=>cases h
 | cons e m a=>rw[B0] at h;grind
theorem Aem{m n x}(h:B0 m n=some x):(n,x)∈GQ m:=by obtain⟨e,a,rfl⟩:=Afg h;exact Aov.2 ⟨e.1,Adx a,by rw[h];rfl⟩
theorem Afc{m B}(h:∀e∈m,e.1.length<=B):(GQ m).length=m.length/\∀a∈GQ m,a.1.length<=B:=by refine⟨by unfold GQ;rw[Afb,Rk],λa b=>?_⟩;obtain⟨x,d,rfl⟩:=Aov.1 b;obtain⟨e,c,rfl⟩:=ZF d;exact h e c
def Dn(ps:List Ad):HI×Int:=if !Ck ps then([],1) else if(Em ps).2 then([],11) else(GQ (Em ps).1,0)
theorem Oi{O nt n env σ e}(b:get env 2=.nil)(c:get env 3=e):ME O nt [.t 2,.t 3] [.sl [],e] [] .ret ⟨env,σ,n⟩:=by
 refine⟨⟨[(2,.sl []),(3,e)],[],n⟩,Ag.weak (λ_=>none) (λ_ _ h=>by cases h) (λt=>?_) (λi e' h=>by cases h) (Ab6 _),⟨by simp[M5,get],by simp[M5,get],trivial⟩,λ_ _ h=>by cases h⟩;by_cases h:2=t
 .subst h;rw[b];simp only[get,AbA];exact .nil
 .by_cases a:3=t
  .subst a;rw[c];simp only[get];simp;exact .refl _
  .simp only[get,AfL h,AfL a];exact .any _
theorem Aca(ps:List Ad)(l:A7 ps<=2^24):Ak π O 6 [.sl (ps.map Ad.enc)] [] (.tup [.sl ((Dn ps).1.map K0),.i .i64 (Dn ps).2]) []:=by
 have g:=MR O ps l;have ⟨b1,b2,b3⟩:=zP ps;unfold Dn;refine Ac (vs:=[.sl _,.i .i64 _]) Axq (by simp) (by simp) λn0 j=>?_;clear j;cases f:Ck ps with
 | false=>
  rw[f] at g;simp only[AbA,AzQ];simp only[push_cast,seval];repeat' (first|(first|((first|apply Ai|apply Am|apply Al)<;>intro _h)|refine Ab g ?_)<;>simp only[push_cast,seval]|intro _)
  all_goals (intros;exact Oi rfl rfl)
 | true=>
  rw[f] at g;simp only[Ab9,reduceCtorEq,Azx];simp only[push_cast,seval];repeat' (first|(first|((first|apply Ai|apply Am|apply Al)<;>intro _h)|refine Ab g ?_)<;>simp only[push_cast,seval]|intro _)
  rename_i k2 k1 r;have ⟨tid,htid⟩:∃tid:Id,tid=(n0+1+k2+1+k1,10):=⟨_,rfl⟩
  have ⟨mid,hmid⟩:∃mid:Id,mid=(n0+1+k2+1+k1,8):=⟨_,rfl⟩
  have a:tid≠mid:=by rw[htid,hmid];simp
  rw[<-htid,<-hmid];have k:=Aek O _ ps tid mid ([],false) (Ab4 _) (by omega) a;refine AX k (λi e h=>h) ?_;have d:over (BV tid mid ([],false)) (BV tid mid ((Bj ps).foldl C9 ([],false))) [(tid,AP.box (V.agg [V.arr mid,V.b false])),(mid,AP.map [])]=BV tid mid ((Bj ps).foldl C9 ([],false)):=by have:=NJ (tid:=tid) (mid:=mid) (t:=([],false)) (t':=(Bj ps).foldl C9 ([],false)) (pre:=[]) (post:=[]) (by simp);simp only[Avc,At9] at this;exact this
  rw[d];clear d;rw[show(Bj ps).foldl C9 ([],false)=Em ps from rfl];have c:=Ajy O (Em ps) tid mid a b1 (by omega) (λe q=>by grind);have o:(tid=mid)=False:=Ab8 a;have p:(mid=tid)=False:=Ab8 (Ao0 a);generalize Em ps=T at *;have ⟨m,w⟩:=T;simp only at c b1 b2 b3;unfold BV at *;cases w with
  | true=>simp only[push_cast,seval];intros;exact Oi rfl rfl
  | false=>simp only[push_cast,seval];intros;refine AX c (λi e h=>h) ?_;simp only[push_cast,seval];intros;refine Ah ?_;simp[push_cast]

end Go.Ir
section
namespace Go.Ir
open Go.RowKit Go.Proofs.YtkejfpeffolhpaaGreatDoor
def HF(ag:Bool)(c:List V):V:=if ag then .agg c else c.headD .any
inductive FU (P:Program):TypeId->List V->Prop where
 | bool (t:TypeId) (b:Bool) (h:P.underlying t=some .bool):FU P t [.b b]
 | int (t:TypeId) (k:IntKind) (n:Int) (h:P.underlying t=some (.int k)) (hw:(Lit.int k n).wf=true):FU P t [.i k n]
 | str (t:TypeId) (l:List UInt8) (h:P.underlying t=some .string):FU P t [.s l]
 | sl (t e:TypeId) (es:List V) (h:P.underlying t=some (.slice e)) (he:∀el∈es,∃c,el=HF ((DU P e).getD false) c/\cells el=c) (hc:∀el∈es,(cells el).length=P.cellsOf e) (hw:∀el∈es,FU P e (cells el)):FU P t [.sl es]
 | st (t:TypeId) (fs:Array Field) (vs:List V) (h:P.underlying t=some (.struct fs)) (hl:vs.length=P.cellsOf t) (hf:∀f∈fs.toList,FU P f.type ((vs.drop f.offset).take (P.cellsOf f.type))):FU P t vs
mutual
def BA:V->Nat
 | .s l=>l.length+1
 | .sl es=>AF es+1
 | .agg cs=>AF cs
 | _=>1
def AF:List V->Nat
 | []=>0
 | v::vs=>BA v+AF vs
end
theorem GS(a b:List V):AF (a++b)=AF a+AF b:=by
 induction a with
 | nil=>simp[AF]
 | cons x a c=>simp[AF,c];omega
def uH(P:Program):List Field->Nat->Option Nat
 | [],a=>some a
 | f::b,a=>if f.offset=a then uH P b (a+P.cellsOf f.type) else none
def AtU(P:Program)(T:List TypeId):Bool:=T.all λt=>match P.underlying t with
 | some .bool|some (.int _)|some .string=>P.cellsOf t==1
 | some (.slice e)=>P.cellsOf t==1&&T.contains e&&decide (0<P.cellsOf e)
 | some (.struct a)=>a.toList.all (λf=>T.contains f.type)&&uH P a.toList 0==some (P.cellsOf t)
 | _=>false
section
variable{H:Type}{enc:TypeId×Value→H}{P:Program}{w:World}{base:Nat}{spare:Nat→Bool}{held:Bool}{T:List TypeId}
theorem Mu{d:DataW H}{a:List (DataW H)}(h:d∈a):Rows.uptoBulk d<=Rows.uptoBulkAll a:=by
 induction a with
 | nil=>cases h
 | cons x a b=>simp only[Rows.uptoBulkAll];grind
theorem Mk{μ:Id->Option Value}{Hc:Addr->Option Value}{cs:List Value} :
  ∀(j:List Field) (b c:Nat) (e:List (DataW H)),uH P j b=some c->cs.length=c->e.length=j.length->
   (∀(i:Nat) (f:Field) (d:DataW H),j[i]?=some f->e[i]?=some d->∃vs,AY μ Hc vs ((cs.drop f.offset).take (P.cellsOf f.type))/\FU P f.type vs/\AF vs<=Rows.uptoBulk d)->
   b<=c/\∃vs,AY μ Hc vs (cs.drop b)/\(∀pre:List V,pre.length=b->∀f∈j,FU P f.type (((pre++vs).drop f.offset).take (P.cellsOf f.type)))/\AF vs<=Rows.uptoBulkAll e
 | [],b,c,e,a,k,g,h=>by simp only[uH,Ao3] at a;subst a;refine⟨Ab6 _,[],?_,λ_ _ f m=>(by cases m),by simp[AF]⟩;rw[List.drop_of_length_le (by omega)];exact AY.nil_
 | f::j,b,c,e,a,k,g,h=>by
  simp only[uH] at a;split at a
  .rename_i s;cases e with
   | nil=>simp at g
   | cons d e=>
    have ⟨hle,vs,h1,h2,h3⟩:=Mk j _ c e a k (by simpa using g) (λi o q m r=>h (i+1) o q (by simpa using m) (by simpa using r));have ⟨us,g1,g2,g3⟩:=h 0 f d rfl rfl;rw[s] at g1;have t:us.length=P.cellsOf f.type:=by have:=g1.len;grind
    refine⟨by omega,us++vs,?_,?_,?_⟩
    .have:=g1.append h1;rw[<-A14,A1Y] at this;exact this
    .intro pre p o l;rcases Ahk.1 l with rfl|l
     .grind
     grind
    .rw[GS];simp only[Rows.uptoBulkAll];omega
  .cases a
theorem VR{t:TypeId}{vs:List V}{ag:Bool}(a:DU P t=some ag)(h:FU P t vs):cells (HF ag vs)=vs:=by
 cases ag with
 | true=>rfl
 | false=>
  cases h with
  | st t b vs h d c=>simp[DU,h,rB] at a
  | _=>rfl
theorem fG{t:TypeId}{vs:List V}{ag:Bool}(a:DU P t=some ag)(h:FU P t vs):BA (HF ag vs)=AF vs:=by
 cases ag with
 | true=>simp[HF,BA]
 | false=>
  cases h with
  | st t b vs h d c=>simp[DU,h,rB] at a
  | _=>simp[HF,AF]
theorem WS{μ:Id->Option Value}(hT:AtU P T=true):∀(n:Nat) (t:TypeId) (cs:List Value) (x:DataW H×List MemPlace),t∈T->DataW.trod enc P w base spare held n t cs=some x->Rows.uptoBulk x.1<=1048576->
  ∃vs,AY μ (λp=>w.cell? p) vs cs/\FU P t vs/\AF vs<=Rows.uptoBulk x.1:=by
 intro n
 induction n with
 | zero=>intro t cs x _ h;simp[DataW.trod] at h
 | succ n ih=>
  intro t cs x ht h hb;have q:=Ao8.1 hT t ht;have one:∀{c:V} {v:Value},Ap μ (λp=>w.cell? p) c v->v.oneCell'=true->AY μ (λp=>w.cell? p) [c] [v]:=λhv E=>
   ⟨VRels.cons hv VRels.nil_,λv' aN=>by grind⟩
  cases z:P.underlying t with
  | none=>simp[z] at q
  | some d=>
   cases d<;>simp only[z] at q<;>(try (cases q;done))
   case bool=>
    unfold DataW.trod at h;rw[z] at h
    match cs,h with
    | [.bool b],h=>cases h;exact⟨[.b b],one (.b b) rfl,.bool t b z,by simp[AF,BA,Rows.uptoBulk]⟩
   case int k=>
    unfold DataW.trod at h;rw[z] at h
    match cs,h with
    | [.int k' m],h=>
     simp only at h;split at h
     .rename_i I;obtain⟨rfl,hw⟩:=I;cases h;exact⟨[.i k' m],one (.i k' m) rfl,.int t k' m z hw,by simp[AF,BA,Rows.uptoBulk]⟩
     .cases h
   case string=>
    unfold DataW.trod at h;rw[z] at h
    match cs,h with
    | [.string s],h=>
     simp only at h;split at h
     .rename_i hs;cases h;simp only[Rows.uptoBulk] at hb;refine⟨[.s s.data.toList],one ?_ rfl,.str t _ z,by simp[AF,BA,Rows.uptoBulk]⟩;have:=Ap.s (μ:=μ) (H:=λp=>w.cell? p) s.data.toList (by unfold AG;omega);simpa using this
     .cases h
   case slice e=>
    simp only[AaS,AjK,A2c,Avv] at q;obtain⟨⟨aG,R⟩,aB⟩:=q;rcases DataW.trod_slice z h with⟨rfl,rfl⟩|⟨a,len,cap,elems,rest,m,hm,rfl,rfl,hbase,hlc,hcm,hel,helem,_,_⟩
    .exact⟨[.sl []],one (.slE none 0) rfl,.sl t e [] z (λ_ h=>by cases h) (λ_ h=>by cases h) (λ_ h=>by cases h),by simp[AF,BA,Rows.uptoBulk]⟩
    .cases hm;simp only[Rows.uptoBulk] at hb;have S:=Ao8.1 hT e R;obtain⟨ag,F⟩:∃ag,DU P e=some ag:=by
      unfold DU;cases am:P.underlying e with
      | none=>simp[am] at S
      | some d=>exact⟨_,rfl⟩
     have L:∀i,i<len->∃(vs:List V) (o:List Value) (y:DataW H×List MemPlace),elems[i]?=some y/\o.length=P.cellsOf e/\(∀k,k<P.cellsOf e->w.cell? (a.add (i*P.cellsOf e+k))=o[k]?)/\AY μ (λp=>w.cell? p) vs o/\FU P e vs/\AF vs<=Rows.uptoBulk y.1:=by
      intro i hi;have E:=helem i hi;have D:i<elems.length:=by omega
      rw[Am7 D] at E;cases u:w.cells? base (a.add (i*P.cellsOf e)) (P.cellsOf e) with
      | none=>rw[u] at E;cases E
      | some o=>
       rw[u] at E;obtain⟨_,hl,G⟩:=World.cells?_some u;have C:elems[i].1∈elems.map (·.1):=Aov.2 ⟨_,A18 D,rfl⟩;have:=Mu C;obtain⟨vs,Z,r2,r3⟩:=ih e o elems[i] R E (by omega);refine⟨vs,o,elems[i],Am7 D,hl,λk I=>?_,Z,r2,r3⟩;have:=G k I
       rwa [show(a.add (i*P.cellsOf e)).add k=a.add (i*P.cellsOf e+k) from by unfold Addr.add;by_cases hi:i*P.cellsOf e=0<;>by_cases hj:k=0<;>simp[hi,A1g]] at this
     have all:∀j,j<=len->∃(es:List V) (g:List Value),es.length=j/\g.length=j*P.cellsOf e/\(∀r∈es,(∃c,r=HF ag c/\cells r=c)/\(cells r).length=P.cellsOf e/\FU P e (cells r))/\AY μ (λp=>w.cell? p) (AQ es) g/\
       (∀(k:Nat) (v:Value),g[k]?=some v->w.cell? (a.add k)=some v)/\AF es<=Rows.uptoBulkAll ((elems.map (·.1)).take j):=by
      intro j
      induction j with
      | zero=>intro _;exact⟨[],[],rfl,by simp,λ_ h=>(by cases h),AY.nil_,λk v h=>(by simp at h),by simp[AF]⟩
      | succ j ap=>
       intro hj;obtain⟨es,g,g1,g2,J,M,g5,g6⟩:=ap (by omega);obtain⟨vs,o,y,e1,e2,e3,e4,e5,e6⟩:=L j (by omega);have N:cells (HF ag vs)=vs:=VR F e5;refine⟨es++[HF ag vs],g++o,by simp[g1],by grind,?_,?_,?_,?_⟩
       .intro r B;rcases AfJ.1 B with h'|h'
        .exact J r h'
        .rw[AzE.1 h',N];exact⟨⟨vs,rfl,rfl⟩,by rw[e4.len,e2],e5⟩
       .rw[GA];refine M.append ?_;have:AQ [HF ag vs]=vs:=by simp[AQ,N]
        rw[this];exact e4
       .intro k v I;rcases Az0 k g.length with D|ah
        .grind
        .rw[Au5 ah] at I;have aA:k-g.length<o.length:=(Ao5.1 I).1;have:=e3 (k-g.length) (by omega);rw[I,g2,show j*P.cellsOf e+(k-j*P.cellsOf e)=k by omega] at this;exact this
       .rw[GS];have ht:(elems.map (·.1)).take (j+1)=(elems.map (·.1)).take j++[y.1]:=by rw[List.take_add_one,ArI,e1];rfl
        have ae:∀(a b:List (DataW H)),Rows.uptoBulkAll (a++b)=Rows.uptoBulkAll a+Rows.uptoBulkAll b:=by
         intro a b
         induction a with
         | nil=>simp[Rows.uptoBulkAll]
         | cons x a ih=>simp[Rows.uptoBulkAll,ih];omega
        rw[ht,ae];have:=fG F e5;simp only[AF,Rows.uptoBulkAll];omega
     obtain⟨es,g,g1,g2,J,M,g5,g6⟩:=all len (Ab6 _);have Y:∀(K:List (DataW H)),K.length<=Rows.uptoBulkAll K:=by
      intro K
      induction K with
      | nil=>simp 
      | cons d K ih=>
       have:1<=Rows.uptoBulk d:=by
        cases d<;>(try simp only[Rows.uptoBulk])<;>(try omega)
        rename_i l;cases l<;>simp[Rows.uptoBulk]
       simp only[Rows.uptoBulkAll,An9];omega
     have aj:=Y (elems.map (·.1));rw[Afb,hel] at aj;refine⟨[.sl es],one ?_ rfl,.sl t e es z (by rw[F];exact λr h=>(J r h).1) (λr h=>(J r h).2.1) (λr h=>(J r h).2.2),?_⟩
     .have:=Ap.slC (μ:=μ) (H:=λp=>w.cell? p) es a cap (P.cellsOf e) g (by omega) (by unfold AJ;omega) (λr B=>(J r B).2.1) M.len M.one g5 M.at_;grind
     .rw[A11 (by simp;omega)] at g6;simp only[AF,BA,Rows.uptoBulk];omega
   case struct fs=>
    simp only[AaS,AjK] at q;obtain⟨aI,X⟩:=q;obtain⟨xs,m,hm,rfl,u,ao,hf⟩:=DataW.trod_struct z h;cases hm;simp only[Rows.uptoBulk] at hb;obtain⟨_,vs,Z,r2,r3⟩:=Mk (P:=P) (μ:=μ) (Hc:=λp=>w.cell? p) (cs:=cs) fs.toList 0 (P.cellsOf t) (xs.map (·.1)) X u (by simp[ao]) (λi f d aJ A=>by
     have U:fs[i]?=some f:=by grind
     have E:=hf i f U;rw[ArI] at A;cases hx:xs[i]? with
     | none=>rw[hx] at A;cases A
     | some y=>rw[hx] at A E;cases A;have C:y.1∈xs.map (·.1):=Aov.2 ⟨y,Ao6 hx,rfl⟩;have:=Mu C;grind
)
    rw[Azv] at Z;refine⟨vs,Z,.st t fs vs z (by rw[Z.len,u]) (λf af=>by simpa using r2 [] rfl f af),?_⟩;simp only[Rows.uptoBulk];omega
end
end Go.Ir
end
section
namespace Go.Ir
open Go.RowKit Go.ChangeShapes Go.WideShapes
section
variable{H:Type}{enc:TypeId×Value→H}{P:Program}{W W':World}
theorem JH(m:laidOutB P=true)(l:Below W.heap.size W W'){o:Nat->Bool}:∀(f:List TypeId) (vs:List Value) (g:List (DataW H)) (ps:List MemPlace),(∀t∈f,P.readableRec t=true/\t<P.types.size)->
  DataW.TrodAll enc P W 0 (λ_=>true) true f vs g ps->(∀x∈ps,x.block<W.heap.size)->(∀x∈ps,o x.block=true)->DataW.TrodAll enc P W' 0 o true f vs g ps
 | [],vs,g,ps,_,h,_,_=>by obtain⟨rfl,rfl,rfl⟩:=trodAll_nil h;exact trodAll_mk0
 | t::f,vs,g,ps,e,h,b,c=>by obtain⟨v,k,d,i,p,q,rfl,rfl,rfl,r,s⟩:=trodAll_cons h;have ⟨hr,hrow⟩:=e t (by simp);refine trodAll_cons_mk (WideElems.Trod_stays m hr hrow r (λx a=>l.same (b x (by simp[a]))) (λx a=>c x (by simp[a]))) (JH m l f k i q (λt' j=>e t' (by simp[j])) s (λx a=>b x (by simp[a])) (λx a=>c x (by simp[a])))
theorem fQ{f:Func}{s:ChangeSpec}{c g d e:Bool}{args:Array Value}{l E:List (DataW H)}{a:List MemPlace}{tb:TypeId}
  (M:laidOutB P=true)(C:∀t∈f.params.toList,P.readableRec t=true/\t<P.types.size)(j:f.resultTypes=#[tb])(k:P.underlying tb=some .bool)(D:s.vars=[])
  (z:s.fn H (l++E)={ results:=[.lit (.bool true)],args:=l })
  (u:DataW.Whole enc P f.params.toList s.vars c W args.toList l E a)(y:Below W.heap.size W W'):s.post enc P f c g d e W args (.bool true) W':=by
 have i:∀p∈a,p.block<W.heap.size:=λp hp=>u.lt p hp;have v:=u;obtain⟨p,q,K,F,rfl,R,N⟩:=u;rw[D] at F;obtain⟨rfl,rfl⟩:=trodVars_none F;simp only[At9] at *;have I:∀x∈p,(λb=>decide (b<W.heap.size)) x.block=true:=λx m=>by simpa using i x m
 have h:∀o:Nat->Bool,(∀x∈p,o x.block=true)->DataW.TrodAll enc P W' 0 o true f.params.toList args.toList l p:=λo B=>JH M y _ _ _ _ C K i B;have J:∀(b:Nat) (o:Nat->Bool) (G:Bool),DataW.TrodAll enc P W' b o G f.resultTypes.toList ((Value.bool true).resultList f.resultTypes.size) [.lit (.bool true)] []:=by intro b o G;rw[j];exact trodAll_cons_mk (p:=[]) (p':=[]) (shut_bool k _) trodAll_mk0
 refine⟨l,[],p,[],p,[],v,?_,?_,?_,World.keptBut_mono (λx m=>⟨m,.inr (.inl m)⟩) (y.frame _),λ_=>?_⟩
 .grind
 .grind
 .rw[D,At9,z];rfl
 .refine⟨ok_one j rfl (okWide_bool_mk k _),.lit (.bool true)::l,[],p,⟨p,[],?_,by rw[D];rfl,by simp,?_,?_⟩,λx m _=>m⟩
  .rw[j];exact trodAll_cons_mk (p:=[]) (shut_bool k _) (h _ (λ_ _=>rfl))
  .intro b r hp;have:=i _ hp;have A:=y.frozen (p:=⟨b,r,none⟩) this;rw[A];exact R b r (by simpa using hp)
  .intro L;exact N L
theorem Hp.start(W:World)(n:Nat):Hp W [] n (λ_=>none) (λa=>W.cell? a) W where
 base:=AyF _ _
 pins _ _ h:=h
 ents _ _ h:=by simp[lk] at h
 unp bk ho:=by have ⟨id,e,h,_⟩:=ho;simp[lk] at h
 sep _ _ _ _ _ h:=by simp[lk] at h
 bd _ _:=rfl
theorem V5{f:FuncId}{args:List V}{a:List Value}(h:Ak P W f args [] (.b true) [])(i:VRels (λ_=>none) (λc=>W.cell? c) args a) :
  Calls P f a.toArray W λe W'=>e=.returned (.bool true)/\Below W.heap.size W W':=
 (h.run 0 W _ _ a (Hp.start W 0) i).mono λe W' ⟨val,j,k,n',d,g,hp,_⟩=>⟨by rw[d,g.b_inv],hp.base⟩
end
end Go.Ir
end
section
namespace Go.Ir
open Go.Proofs
section
variable{P:Program}
theorem FU.int_inv{t:TypeId}{k:IntKind}{v:V}(h:FU P t [v])(a:P.underlying t=some (.int k)):∃n,v=.i k n/\(Lit.int k n).wf=true:=by
 cases h with
 | int _ f n h d=>grind
 | bool _ b h=>rw[a] at h;cases h
 | str _ l h=>rw[a] at h;cases h
 | sl _ e es h _ _ _=>rw[a] at h;cases h
 | st _ c vs h _ _=>rw[a] at h;cases h
theorem FU.str_inv{t:TypeId}{v:V}(h:FU P t [v])(a:P.underlying t=some .string):∃l,v=.s l:=by
 cases h with
 | int _ f n h d=>rw[a] at h;cases h
 | bool _ b h=>rw[a] at h;cases h
 | str _ l h=>exact⟨l,rfl⟩
 | sl _ e es h _ _ _=>rw[a] at h;cases h
 | st _ c vs h _ _=>rw[a] at h;cases h
theorem FU.sl_inv{t e:TypeId}{v:V}(h:FU P t [v])(d:P.underlying t=some (.slice e)):∃es,v=.sl es/\(∀a∈es,∃c,a=HF ((DU P e).getD false) c/\cells a=c)/\(∀a∈es,(cells a).length=P.cellsOf e)/\(∀a∈es,FU P e (cells a)):=by
 cases h with
 | int _ m n h k=>rw[d] at h;cases h
 | bool _ b h=>rw[d] at h;cases h
 | str _ l h=>rw[d] at h;cases h
 | sl _ e' es h g i j=>grind
 | st _ f vs h _ _=>rw[d] at h;cases h
theorem FU.st_inv{t:TypeId}{c:Array Field}{vs:List V}(h:FU P t vs)(a:P.underlying t=some (.struct c)):vs.length=P.cellsOf t/\∀f∈c.toList,FU P f.type ((vs.drop f.offset).take (P.cellsOf f.type)):=by
 cases h with
 | int _ k n h j=>rw[a] at h;cases h
 | bool _ b h=>rw[a] at h;cases h
 | str _ l h=>rw[a] at h;cases h
 | sl _ e' es h e g i=>rw[a] at h;cases h
 | st _ d vs h e g=>grind
end
theorem Acd{l:List V}(h:l.length=2):∃a b,l=[a,b]:=by
 match l,h with
 | [a,b],_=>exact⟨a,b,rfl⟩
theorem AxF{l:List V}(h:l.length=6):∃a b c d e f,l=[a,b,c,d,e,f]:=by
 match l,h with
 | [a,b,c,d,e,f],_=>grind
theorem c9:π.cellsOf 9=1:=by kernel_rfl
theorem c3:π.cellsOf 3=1:=by kernel_rfl
theorem c31:π.cellsOf 31=1:=by kernel_rfl
theorem c50:π.cellsOf 94=1:=by kernel_rfl
theorem c52:π.cellsOf 96=6:=by kernel_rfl
theorem c54:π.cellsOf 101=2:=by kernel_rfl
theorem a52:DU π 96=some true:=by kernel_rfl
theorem a54:DU π 101=some true:=by kernel_rfl
theorem sL:∀(N:Nat) (v:V),BA v<=N->FU π 31 [v]->∃ps,v=.sl (IV ps)/\A7 ps<=BA v:=by
 intro N
 induction N with
 | zero=>intro v h;cases v<;>simp[BA] at h<;>intro e<;>have ⟨es,he,_⟩:=e.sl_inv Tryz.underlying31<;>cases he
 | succ N J=>
  intro v r e;obtain⟨es,rfl,d,q,m⟩:=e.sl_inv Tryz.underlying31;rw[a52] at d;simp only[Option.getD_some] at d;simp only[BA] at r⊢;have f:∀v:V,BA v<=N->FU π 94 [v]->∃cs,v=.sl (K3 cs)/\De cs<=BA v:=by
   intro v B e;obtain⟨es,rfl,d,q,m⟩:=e.sl_inv Tryz.underlying94;rw[a54] at d;simp only[Option.getD_some] at d;simp only[BA] at B⊢;have:∃cs,es=K3 cs/\De cs<=AF es:=by
    clear e
    induction es with
    | nil=>exact⟨[],by simp[K3],by simp[De]⟩
    | cons p es g=>
     simp only[AF] at B⊢;have ⟨cs,f,z⟩:=g (by omega) (λx b=>d x (Ab5 _ b)) (λx b=>q x (Ab5 _ b)) (λx b=>m x (Ab5 _ b));obtain⟨c,rfl,_⟩:=d p (by simp);have a:=m (HF true c) (by simp);have y:cells (HF true c)=c:=rfl;rw[y] at a;have ⟨hl,hf⟩:=a.st_inv Tryz.underlying101;rw[c54] at hl;obtain⟨R,o,rfl⟩:=Acd hl;have j:=hf _ (by exact Aea);have l:=hf _ (by exact Ab5 _ Aea);simp only[c9,c31,Azv,Ay6,AxB,Azg] at j l;obtain⟨k,rfl⟩:=j.str_inv Tryz.underlying9;have u:BA (HF true [.s k,o])=k.length+1+BA o:=by simp[HF,BA,AF]
     rw[u] at B⊢;obtain⟨ps,rfl,A⟩:=J o (by omega) l;refine⟨(k,ps)::cs,by rw[f];simp[K3,HF],?_⟩;rw[Bn];simp only;omega
   obtain⟨cs,rfl,e⟩:=this;exact⟨cs,rfl,by omega⟩
  have:∃ps,es=IV ps/\A7 ps<=AF es:=by
   clear e
   induction es with
   | nil=>exact⟨[],by simp[IV],by simp[A7]⟩
   | cons p es g=>
    simp only[AF] at r⊢;have ⟨ps,hps,A⟩:=g (by omega) (λx b=>d x (Ab5 _ b)) (λx b=>q x (Ab5 _ b)) (λx b=>m x (Ab5 _ b));obtain⟨c,rfl,_⟩:=d p (by simp);have a:=m (HF true c) (by simp);have y:cells (HF true c)=c:=rfl;rw[y] at a;have ⟨hl,hf⟩:=a.st_inv Tryz.underlying96;rw[c52] at hl;obtain⟨R,o,U,X,C,D,rfl⟩:=AxF hl;have j:=hf _ (by exact Aea);have l:=hf _ (by exact Ab5 _ Aea);have E:=hf _ (by exact Ab5 _ (Ab5 _ Aea));have F:=hf _ (by exact Ab5 _ (Ab5 _ (Ab5 _ Aea)));have G:=hf _ (by exact Ab5 _ (Ab5 _ (Ab5 _ (Ab5 _ Aea))));have I:=hf _ (by exact Ab5 _ (Ab5 _ (Ab5 _ (Ab5 _ (Ab5 _ Aea)))));simp only[c9,c31,c3,c50,Azv,Ay6,AxB,Azg] at j l E F G I;obtain⟨k,rfl,S⟩:=j.int_inv Tryz.underlying3;obtain⟨t,rfl⟩:=l.str_inv Tryz.underlying9;obtain⟨n,rfl⟩:=E.str_inv Tryz.underlying9;obtain⟨s,rfl⟩:=F.str_inv Tryz.underlying9;have u:BA (HF true [.i .i64 k,.s t,.s n,.s s,C,D])=1+(t.length+1)+(n.length+1)+(s.length+1)+BA C+BA D:=by simp[HF,BA,AF];omega
    rw[u] at r⊢;obtain⟨cs,rfl,z⟩:=f C (by omega) G;obtain⟨M,rfl,K⟩:=J D (by omega) I;refine⟨⟨k,t,n,s,cs,M⟩::ps,by rw[hps];simp[IV,Ad.enc,HF],?_⟩;rw[A5,Ad.wt_eq];simp only;omega
  obtain⟨ps,rfl,L⟩:=this;exact⟨ps,rfl,by omega⟩
end Go.Ir
end
section
namespace Go.Ir
open Go.Proofs
def EJ{a:Type}(w:a->Nat):List a->Nat
 | []=>0
 | x::xs=>w x+EJ w xs
theorem Sv{c:Type}{G:V->Prop}(enc:c->V)(w:c->Nat)(b:∀a,G a->∃x,a=enc x/\w x<=BA a):∀es,(∀a∈es,G a)->∃xs,es=xs.map enc/\EJ w xs<=AF es:=by
 intro es
 induction es with
 | nil=>intro _;exact⟨[],rfl,by simp[EJ]⟩
 | cons e es f=>intro h;have ⟨xs,h1,h2⟩:=f λx d=>h x (by simp[d]);have ⟨x,h3,h4⟩:=b e (h e (by simp));exact⟨x::xs,by rw[h1,h3];rfl,by simp only[EJ,AF];omega⟩
section
variable{P:Program}
theorem Ff{g:Type}{t e:TypeId}{v:V}(h:FU P t [v])(m:P.underlying t=some (.slice e))(l:DU P e=some true)(enc:g->V)(w:g->Nat)(d:∀c,FU P e c->∃x,V.agg c=enc x/\w x<=AF c) :
  ∃xs:List g,v=.sl (xs.map enc)/\EJ w xs+1<=BA v:=by
 obtain⟨es,rfl,i,o,k⟩:=h.sl_inv m;rw[l] at i;have ⟨xs,hx,hw⟩:=Sv (G:=λa=>∃c,a=V.agg c/\FU P e c) enc w (λa ⟨c,b,f⟩=>by
  subst b;have ⟨x,hx,hwx⟩:=d c f;exact⟨x,hx,by simpa[BA] using hwx⟩) es λa j=>by
  have ⟨c,b,hcc⟩:=i a j;have:=k a j;rw[hcc] at this;exact⟨c,b,this⟩
 exact⟨xs,by rw[hx],by simp only[BA];omega⟩
theorem gD{i:Type}{t e l:TypeId}{v:V}(h:FU P t [v])(q:P.underlying t=some (.slice e))(r:P.underlying e=some (.slice l))(p:DU P e=some false)(d:P.cellsOf e=1)(enc:i->V)(w:i->Nat)(f:∀v,FU P e [v]->∃x,v=enc x/\w x<=BA v) :
  ∃xs:List i,v=.sl (xs.map enc)/\EJ w xs+1<=BA v:=by
 obtain⟨es,rfl,j,m,o⟩:=h.sl_inv q;rw[p] at j;have ⟨xs,hx,hw⟩:=Sv (G:=λa=>FU P e [a]) enc w f es λa g=>by
  have ⟨c,hc,hcc⟩:=j a g;have k:=o a g;have b:=m a g;rw[hcc] at k b;rw[d] at b
  match c,b with
  | [x],_=>have:a=x:=hc;rw[this];exact k
 exact⟨xs,by rw[hx],by simp only[BA];omega⟩
theorem FU.bool_inv{t:TypeId}{v:V}(h:FU P t [v])(a:P.underlying t=some .bool):∃b,v=.b b:=by
 cases h with
 | int _ f n h d=>rw[a] at h;cases h
 | bool _ b h=>exact⟨b,rfl⟩
 | str _ l h=>rw[a] at h;cases h
 | sl _ e es h _ _ _=>rw[a] at h;cases h
 | st _ c vs h _ _=>rw[a] at h;cases h
end
theorem Av6{l:List V}(h:l.length=4):∃a b c d,l=[a,b,c,d]:=by
 match l,h with
 | [a,b,c,d],_=>exact⟨a,b,c,d,rfl⟩
theorem AvK{b:Type}(xs:List b):EJ (λ_=>1) xs=xs.length:=by
 induction xs with
 | nil=>rfl
 | cons x xs a=>simp only[EJ,a,An9];omega
theorem AsR:π.cellsOf 172=2:=by kernel_rfl
theorem Aww:π.cellsOf 158=4:=by kernel_rfl
theorem AqR:π.cellsOf 113=2:=by kernel_rfl
theorem Ap6:π.cellsOf 154=1:=by kernel_rfl
theorem Ank:π.cellsOf 156=1:=by kernel_rfl
theorem AqV:π.cellsOf 111=1:=by kernel_rfl
theorem Ajl:π.cellsOf 22=1:=by kernel_rfl
theorem AfO:π.cellsOf 4=1:=by kernel_rfl
theorem Aqz:π.cellsOf 30=16:=by kernel_rfl
theorem Arc:DU π 172=some true:=by kernel_rfl
theorem Awu:DU π 158=some true:=by kernel_rfl
theorem AtL:DU π 154=some false:=by kernel_rfl
theorem Aiw:DU π 113=some true:=by kernel_rfl
theorem AeE(c:List V)(h:FU π 172 c):∃x:Iv,V.agg c=x.enc/\1<=AF c:=by have ⟨hl,hf⟩:=h.st_inv Tryz.underlying172;rw[AsR] at hl;obtain⟨f,g,rfl⟩:=Acd hl;have d:=hf _ (by exact Aea);have e:=hf _ (by exact Ab5 _ Aea);simp only[c3,Azv,Ay6,AxB,Azg] at d e;obtain⟨a,rfl,_⟩:=d.int_inv Tryz.underlying3;obtain⟨b,rfl,_⟩:=e.int_inv Tryz.underlying3;exact⟨⟨a,b⟩,rfl,by simp[AF,BA]⟩
theorem AkS(c:List V)(h:FU π 158 c):∃x:Hj,V.agg c=x.enc/\x.wt<=AF c:=by have ⟨hl,hf⟩:=h.st_inv Tryz.underlying158;rw[Aww] at hl;obtain⟨j,k,l,m,rfl⟩:=Av6 hl;have d:=hf _ (by exact Aea);have e:=hf _ (by exact Ab5 _ Aea);have f:=hf _ (by exact Ab5 _ (Ab5 _ Aea));have g:=hf _ (by exact Ab5 _ (Ab5 _ (Ab5 _ Aea)));simp only[c3,AfO,Ank,Azv,Ay6,AxB,Azg] at d e f g;obtain⟨a,rfl,_⟩:=d.int_inv Tryz.underlying3;obtain⟨b,rfl,_⟩:=e.int_inv Tryz.underlying3;obtain⟨n,rfl⟩:=f.bool_inv Tryz.underlying4;obtain⟨xs,rfl,i⟩:=Ff g Tryz.underlying156 Arc Iv.enc (λ_=>1) AeE;rw[AvK] at i;refine⟨⟨a,b,n,xs⟩,rfl,?_⟩;simp only[AF,BA] at i⊢;unfold Hj.wt;simp only;omega
theorem l8(xs:List Hj):Dy xs=EJ Hj.wt xs+1:=by
 induction xs with
 | nil=>rfl
 | cons x xs a=>simp only[EJ,Dy,a];omega
theorem pD(xs:List (List Hj)):E0 xs=EJ Dy xs:=by
 induction xs with
 | nil=>rfl
 | cons x xs a=>simp only[EJ,E0,a]
theorem bI(xs:List A8):Ax xs=EJ A8.wt xs:=by
 induction xs with
 | nil=>rfl
 | cons x xs a=>simp only[EJ,Ax,a]
theorem Ac3(v:V)(h:FU π 154 [v]):∃x:List Hj,v=Gv x/\Dy x<=BA v:=by obtain⟨xs,rfl,a⟩:=Ff h Tryz.underlying154 Awu Hj.enc Hj.wt AkS;exact⟨xs,rfl,by rw[l8];exact a⟩
theorem Yd(c:List V)(h:FU π 113 c):∃x:A8,V.agg c=x.enc/\x.wt<=AF c:=by have ⟨hl,hf⟩:=h.st_inv Tryz.underlying113;rw[AqR] at hl;obtain⟨f,g,rfl⟩:=Acd hl;have b:=hf _ (by exact Aea);have d:=hf _ (by exact Ab5 _ Aea);simp only[c9,AqV,Azv,Ay6,AxB,Azg] at b d;obtain⟨a,rfl⟩:=b.str_inv Tryz.underlying9;obtain⟨xs,rfl,e⟩:=gD d Tryz.underlying111 Tryz.underlying154 AtL Ap6 Gv Dy Ac3;refine⟨⟨a,xs⟩,rfl,?_⟩;unfold A8.wt;rw[pD];simp only[AF,BA] at e⊢;omega
end Go.Ir
end
namespace Go.Ir
open Go.Proofs
variable(O:World)
def VLs(φ:Id->Option (List V)):List V->List V->Prop
 | [],[]=>True
 | a::xs,b::ys=>(JI φ a b/\(cells b).length=(cells a).length/\a.ok=true/\b.ok=true)/\VLs φ xs ys
 | _,_=>False
theorem VLs.at_{φ}:∀{xs ys},VLs φ xs ys->xs.length=ys.length/\∀(k:Nat) (c d),xs[k]?=some c->ys[k]?=some d->JI φ c d/\(cells d).length=(cells c).length/\c.ok=true/\d.ok=true
 | [],[],_=>⟨rfl,λk c d h=>by simp at h⟩
 | a::xs,b::ys,h=>by
  have ⟨h1,h2⟩:=h;have ⟨h3,h4⟩:=VLs.at_ h2;refine⟨by simp[h3],λk c d f e=>?_⟩;cases k with
  | zero=>simp at f e;subst f e;exact h1
  | succ k=>exact h4 k c d (by simpa using f) (by simpa using e)
theorem Adu l ps (a:l.rest.length=11)(c:Ax l.card+Ax l.ord<=2^24)(f:A7 ps<=2^20) :
  Ak π O 7 [l.enc,.sl (ps.map Ad.enc)] [] (.tup [GM (Bk l ps).1,.i .i64 (Bk l ps).2]) []:=
 Aoh O l ps rfl a c (by omega) (by have:=Ub ps;omega) (λs b=>by have:=FT ps s b;exact⟨this.1,by omega⟩) (λs b k d=>by have:=d8 ps s b k d;omega)
  (λe=>p8 (KV (by rw[<-DS];exact e)))
theorem NU l ps:(Bk l ps).1=([],[])\/(Dw ps=true/\CS 1 (Bl ps)<=400/\(Bk l ps).1=(Bl ps,Ct (Kz l (Bl ps)) (Bl ps) ps (CS 1 (Bl ps)))):=by
 unfold Bk;rw[DS];cases a:Dw ps with
 | false=>left;rfl
 | true=>
  simp only[Azx,Ab7,Ab9];by_cases h:decide ((CS 1 (Bl ps):Int)>400)=true
  .rw[Amm h];left;rfl
  .rw[AfL h];split
   .left;rfl
   .right;refine⟨trivial,?_,rfl⟩;simp at h;omega
theorem Rs l ps(e:A7 ps<=2^20):(Bk l ps).1.1.length<=2^26/\(Bk l ps).1.2.length<=400/\(∀s∈(Bk l ps).1.1,s.keys.length<=2^26)/\∀v∈(Bk l ps).1.2,A7 v<=2^19:=by
 rcases NU l ps with h|⟨b,d,h⟩
 .rw[h];exact⟨by decide,by decide,(λs (a:s∈[])=>by cases a),(λv (b:v∈[])=>by cases b)⟩
 .rw[h];refine⟨by have:=Ub ps;simp only;omega,by simp[Ct];omega,λs a=>by have:=(FT ps s a).2;omega,λv c=>?_⟩;obtain⟨i,_,rfl⟩:=Aov.1 c;exact ZU l b _ _
end Go.Ir

namespace Go.Ir
open Go.Proofs
def Gm(a b:Aa×Int):Prop:=a.2=b.2/\(a.2=0->a.1=b.1)
theorem Gm.refl a:Gm a a:=⟨rfl,λ_=>rfl⟩
theorem Gm.trans{a b c}(h:Gm a b)(k:Gm b c):Gm a c:=⟨h.1.trans k.1,λe=>(h.2 e).trans (k.2 (h.1 ▸ e))⟩
theorem Gm.run{a b}(h:Gm a b) es:Gm (Db a es) (Db b es):=by
 have ⟨a1,a2⟩:=a;have ⟨b1,b2⟩:=b;have ⟨h1,h2⟩:=h;simp only at h1 h2;subst h1;by_cases c:a2=0
 .rw[h2 c];exact Gm.refl _
 .rw[DC _ (by simp[c]),DC _ (by simp[c])];exact⟨rfl,λe=>absurd e c⟩
def Ih(a b:List Ev):Prop:=∀st,Gm (Db st a) (Db st b)
theorem Ih.refl a:Ih a a:=λ_=>Gm.refl _
theorem Ih.trans{a b c}(h:Ih a b)(k:Ih b c):Ih a c:=λst=>(h st).trans (k st)
theorem Ih.app{a b c d}(h:Ih a b)(k:Ih c d):Ih (a++c) (b++d):=λst=>by rw[KK,KK];exact((h st).run c).trans (k _)
theorem kR s t:Ih [.pc (s++t)] [.pc s,.pc t]:=by
 rintro⟨l,e⟩;by_cases a:e=0
 .subst a;rw[Uv,AnH];by_cases b:((l++s).length:Int)>20000
  .rw[Na _ _ b,DC _ (by simp),Na _ _ (by grind)];exact⟨rfl,λe=>by cases e⟩
  .rw[Rf _ _ b,Uv];by_cases c:((l++s++t).length:Int)>20000
   .rw[Na _ _ c,Na _ _ (by grind),Azs];exact Gm.refl _
   .rw[Rf _ _ c,Rf _ _ (by grind),Azs];exact Gm.refl _
 .rw[DC _ (by simp[a]),DC _ (by simp[a])];exact Gm.refl _
theorem Mc X p c:C6 X [p] c=bE X p c:=by rw[FP,Eo,At9]
theorem Ze X c o x:Ih (C6 X (D8 o x) c) (C6 X o c++bE X x c):=by
 rcases Ay5 o with rfl|⟨d,y,rfl⟩
 .rw[KD,Mc,Eo];exact Ih.refl _
 .rw[Azh,EG];split
  .rename_i h;rw[AaS] at h;rw[IU,IU,Mc,Mc,Azs];refine Ih.app (Ih.refl _) ?_;rw[Gl X y,Gl X x,Gl];simp only[h.1,h.2,AbA];exact kR _ _
  .rw[IU,Mc];exact Ih.refl _
theorem AbK X c:∀(ys o),Ih (C6 X (ys.foldl D8 o) c) (C6 X o c++C6 X ys c):=by
 intro ys
 induction ys with
 | nil=>intro o;rw[Eo,At9];exact Ih.refl _
 | cons y ys a=>intro o;rw[AyT,FP,<-Azs];exact(a (D8 o y)).trans (Ih.app (Ze X c o y) (Ih.refl _))
theorem Abp X p(a:(p.kind==10)=false)(b:(p.kind==11)=false)(f:AI p.kind=false) c d:bE X p c=bE X p d:=by
 have e:(p.kind==7||(p.kind==8||p.kind==9))=false:=by rw[Bool.eq_false_iff];intro h;have:=(Ci p.kind).2 (by simpa using h);grind
 rw[Gl,Gl,a,b,e];rfl
theorem SK w:∀S:List Aa,(AV (λx=>w==x) S<0/\w∉S)\/∃i:Nat,AV (λx=>w==x) S=i/\S[i]?=some w:=by
 intro S
 induction S with
 | nil=>left;exact⟨by simp[AV],by simp⟩
 | cons x S b=>
  cases h:(w==x) with
  | true=>right;refine⟨0,by simp only[AV,h,A00];rfl,?_⟩;grind
  | false=>
   have a:w≠x:=by simpa using h
   rcases b with⟨h1,h2⟩|⟨i,h1,h2⟩
   .left;refine⟨by simp only[AV,h,A0d];grind,?_⟩;grind
   .right;refine⟨i+1,by simp only[AV,h,A0d];grind,?_⟩;simpa using h2
theorem Abn{f} w:∀(cs),(AV (λx=>w==x) (cs.map (·.1))<0/\Cz cs w=none)\/∃(i:Nat) (c:Aa×f),AV (λx=>w==x) (cs.map (·.1))=i/\cs[i]?=some c/\Cz cs w=some c.2:=by
 intro cs
 induction cs with
 | nil=>left;exact⟨by simp[AV],rfl⟩
 | cons c cs e=>
  have b:Cz (c::cs) w=if(c.1==w)=true then some c.2 else Cz cs w:=by unfold Cz;rw[List.find?_cons];cases c.1==w<;>rfl
  rw[b];rw[Ao7];by_cases h:w=c.1
  .right;refine⟨0,c,?_,rfl,?_⟩
   .have:(w==c.1)=true:=by simpa using h
    simp only[AV,this,A00];rfl
   grind
  .have a:(w==c.1)=false:=by simpa using h
   rw[AfL (by grind)];rcases e with⟨h2,h3⟩|⟨i,d,h2,h3,h4⟩
   .left;exact⟨by simp only[AV,a,A0d];grind,h3⟩
   .right;refine⟨i+1,d,by simp only[AV,a,A0d];grind,by simpa using h3,h4⟩
def dJ{a:Type}(cs:List (Aa×a)):List Aa->Option a
 | []=>none
 | w::b=>(Cz cs w).or (dJ cs b)
theorem jP{b} cs:∀a,(CY (cs.map (·.1)) a<0/\dJ cs a=none)\/∃(i:Nat) (c:Aa×b),CY (cs.map (·.1)) a=i/\cs[i]?=some c/\dJ cs a=some c.2:=by
 intro a
 induction a with
 | nil=>left;exact⟨by simp[CY],rfl⟩
 | cons w a d=>
  rw[CY,dJ];rcases Abn w cs with⟨h1,h2⟩|⟨i,c,h1,h2,h3⟩
  .grind
  grind
theorem O7{b}{cs:List (Aa×b)}{S:List Aa}(hS:∀c∈cs,c.1∈S){w}(h:w∉S):Cz cs w=none:=dH λc a e=>h (e ▸ hS c a)
def MI(S a:List Aa):Aa:=S[(I7 S a).toNat]?.getD []
theorem Om{S w} a (h:w∈S):MI S (w::a)=w:=by
 unfold MI;rw[I7];rcases SK w S with⟨_,h2⟩|⟨i,h1,h2⟩
 .exact absurd h h2
 grind
theorem LE{S w} a (h:w∉S):MI S (w::a)=MI S a:=by
 unfold MI;rw[I7];rcases SK w S with⟨h1,_⟩|⟨i,h1,h2⟩
 .rw[Amm h1]
 grind
theorem TY{S D}(hS:S=D++[AH])(a:S.length<=2^40):MI S []=AH:=by
 unfold MI;have hp:S.length=D.length+1:=by rw[hS];simp
 rw[I7,wrap64 (by omega) (by omega)];simp_all
theorem PJ{c:Type}{a}(h:a≠none)(b:Option c):a.or b=a:=by
 cases a with
 | none=>exact absurd rfl h
 | some x=>rfl
theorem tO{i a kind}{cs:List (Aa×i)}{S D} t (d:(kind==9)=true)(hS:S=D++[AH])(f:S.length<=2^40)(e:∀c∈cs,c.1∈S)(g:Cz cs AH≠none):Ea a kind cs (MI S [t])=dJ cs [t,AH]:=by
 have b:(kind !=9)=false:=by simp[bne,d]
 unfold Ea;rw[b,A0j];simp only[dJ,Option.or_none,Ab7,Ab9,Option.none_or];by_cases h:t∈S
 .rw[Om _ h]
 .rw[LE _ h,TY hS f,O7 e h,PJ g];rfl
theorem mJ{k a kind}{cs:List (Aa×k)}{S D}(t:Aa)(f:(kind==9)=false)(i:Cv (a t)=false)(hS:S=D++[AH])(g:S.length<=2^40)(e:∀c∈cs,c.1∈S)(j:Cz cs AH≠none):Ea a kind cs (MI S [61::t,a t])=dJ cs [61::t,a t,AH]:=by
 have d:(kind !=9)=true:=by simp[bne,f]
 unfold Ea;rw[d,A0e];simp only[dJ,Option.or_none];by_cases h:(61::t)∈S
 .rw[Om _ h];have l:Cv (61::t)=true:=by simp[Cv]
  grind
 .rw[LE _ h,O7 e h];by_cases b:a t∈S
  .rw[Om _ b,i];simp
  .rw[LE _ b,TY hS g,O7 e b,PJ j];simp
theorem oZ s:∀(l dn),AW dn l=true->Cv (Mx s l)=false:=by
 intro l
 induction l with
 | nil=>intro _ _;rfl
 | cons r l b=>
  intro dn h;rw[AW,AaS] at h;rw[Mx];cases Qt r.cond s with
  | true=>simp only[A00];have a:=h.1;simp only[AsZ,Azt,Ay9] at a;exact Lq.2.2 _ (by have:=a.1.1;unfold AdS at this;simpa using this)
  | false=>exact b _ h.2
theorem UF l s:Cv (Cs l s).1=false:=by
 unfold Cs;cases h:AW [] l&&E6 s with
 | false=>rfl
 | true=>rw[AaS] at h;exact oZ s l [] h.1
def FL(l:Jp)(vs:List Ch)(s:B4):Aa:=match(MH s.kind s.name vs).1 with
 | some v=>MI s.keys (G2 l s v)
 | none=>[]
theorem bO l vs:∀(L) (a:Int) (n:Nat),0<=a->a<n->n<=400->CS n L<=400->(∀s∈L,s.keys≠[]/\∃v,MH s.kind s.name vs=(some v,0))->
  Cy L (DK l vs L a).1.toNat=(L.map (FL l vs),a.toNat):=by
 intro L
 induction L with
 | nil=>intro a n e u _ _ _;rfl
 | cons s L B=>
  intro a n e u G f p;obtain⟨o,v,q⟩:=p s (by simp);have b:FL l vs s=s.keys[(Vv l s v).toNat]?.getD []:=by unfold FL;rw[q];rfl
  rw[DK,q];simp only;rw[CS] at f;by_cases y:400<n*s.keys.length
  .grind
  rw[AfL y] at f;have d:0<s.keys.length:=A0E.2 o;have i:1<=n:=by omega
  have A:s.keys.length<=400:=AoW (A1T _ i) (by omega);obtain⟨C,k1⟩:=Oc o (by omega) (G2 l s v);have g:Vv l s v=I7 s.keys (G2 l s v):=rfl;rw[g] at b⊢;rw[Cy,Ao7,b];generalize I7 s.keys (G2 l s v)=K at *;generalize F:s.keys.length=m at *;have x:(a+1)*(m:Int)<=(n:Int)*(m:Int):=A10 (by omega) (by omega);rw[Int.add_mul] at x;have D:0<=a*(m:Int):=Int.mul_nonneg e (by omega);have j:n*m<=400:=by omega
  have E:(n:Int)*(m:Int)<=400:=by grind
  have h:a*(m:Int)+K<((n*m:Nat):Int):=by grind
  rw[wrap64 (n:=a*(m:Int)) (by omega) (by omega),wrap64 (by omega) (by omega)];have z:=B (a*(m:Int)+K) (n*m) (by omega) h j f (λt k=>p t (by simp[k]));rw[z];simp only;have k:(a*(m:Int)+K).toNat=K.toNat+a.toNat*m:=by
   have r:((K.toNat+a.toNat*m:Nat):Int)=a*(m:Int)+K:=by rw[A2g,Int.natCast_mul,A2l C,A2l e];omega
   rw[<-r];rfl
  have c:K.toNat<m:=by omega
  rw[k,Nat.add_mul_mod_self_right,Nat.mod_eq_of_lt c,Nat.add_mul_div_right _ _ d,Nat.div_eq_of_lt c,AzN]
theorem Aep{a} p:∀xs:List a,¬AV p xs<0->∃x,xs[(AV p xs).toNat]?=some x/\p x=true:=by
 intro xs
 induction xs with
 | nil=>intro h;exact absurd (by simp[AV]) h
 | cons x xs c=>
  intro h;simp only[AV] at h⊢;cases b:p x with
  | true=>grind
  | false=>grind
def Gp(l b:List B4):Prop:=∀(i:Nat) (s:B4),l[i]?=some s->∃a,b[i]?=some a/\∀k∈s.keys,k∈a.keys
theorem Gp.refl l:Gp l l:=λi s h=>⟨s,h,λ_ h=>h⟩
theorem Gp.trans{a b c}(h:Gp a b)(k:Gp b c):Gp a c:=λi s d=>by have ⟨t,h1,h2⟩:=h i s d;have ⟨u,h3,h4⟩:=k i t h1;grind
theorem Gp.mod l j key:Gp l (l.modify j (AZ key)):=λi s a=>by
 rw[A0P,a];by_cases h:j=i
 .refine⟨AZ key s,by simp[h],λk b=>?_⟩;unfold AZ;grind
 grind
theorem Gp.add l k n:Gp l (Br l k n):=λi s a=>by unfold Br;grind
theorem LM ps:∀l,Gp l (Av ps l):=by
 refine CA (P:=λp=>∀l,Gp l (p.coll l)) (Q:=λps=>∀l,Gp l (Av ps l)) (R:=λcs=>∀j l,Gp l (BG cs j l)) ?_ ?_ ?_ ?_ ?_ ps
 .intro p b a l;rw[p.coll_eq];split
  .exact((a l).trans (Gp.add _ _ _)).trans (b _ _)
  .exact a l
 .intro l;simp only[Av];exact Gp.refl _
 .intro p ps hp a l;rw[CR];exact(hp l).trans (a _)
 .intro j l;simp only[BG];exact Gp.refl _
 .intro c cs a b j l;rw[Cb];exact((Gp.mod l j c.1).trans (a _)).trans (b _ _)
theorem Ml(cs:List AD):∀j l,Gp l (BG cs j l):=by
 induction cs with
 | nil=>intro j l;simp only[BG];exact Gp.refl l
 | cons c cs a=>intro j l;rw[Cb];exact((Gp.mod l j c.1).trans (LM c.2 _)).trans (a _ _)
def MJ(L:List B4)(p:Ad):Prop:=AI p.kind=true->¬B9 L p.kind p.name<0/\∃s,L[(B9 L p.kind p.name).toNat]?=some s/\∀c∈p.cases,c.1∈s.keys
theorem MJ.mono{L a}(h:BH L a)(k:Gp L a){p}(hp:MJ L p):MJ a p:=λb=>by have ⟨h1,s,h2,h3⟩:=hp b;have ⟨s',h4,h5⟩:=k _ s h2;rw[HD h _ _ h1];grind
theorem iE ps:A4 Wk ps->∀l,A4 (MJ (Av ps l)) ps:=by
 refine CA (P:=λp=>p.all Wk->∀l,p.all (MJ (p.coll l))) (Q:=λps=>A4 Wk ps->∀l,A4 (MJ (Av ps l)) ps)
  (R:=λcs=>B8 Wk cs->∀j l,B8 (MJ (BG cs j l)) cs/\∀s,l[j]?=some s->∃v,(BG cs j l)[j]?=some v/\∀c∈cs,c.1∈v.keys) ?_ ?_ ?_ ?_ ?_ ps
 .intro p t a h l;rw[p.all_eq] at h⊢;have ⟨m,h2,b⟩:=h;rw[p.coll_eq];have hp:=a b l;cases i:AI p.kind with
  | true=>simp only[AbA];have x:=Ol (Av p.parts l) p.kind p.name;have u:=Ip p.cases (F5 (Av p.parts l) p.kind p.name) (Br (Av p.parts l) p.kind p.name);have k1:=Gp.add (Av p.parts l) p.kind p.name;have k2:=Ml p.cases (F5 (Av p.parts l) p.kind p.name) (Br (Av p.parts l) p.kind p.name);have ⟨r1,r2⟩:=t h2 (F5 (Av p.parts l) p.kind p.name) (Br (Av p.parts l) p.kind p.name);refine⟨λ_=>?_,r1,EX (λq a=>MJ.mono (x.trans u) (k1.trans k2) a) _ hp⟩;have ⟨g1,g2⟩:=O9 (Av p.parts l) p.kind p.name;have ⟨s,hs1,_⟩:=Qy (Av p.parts l) p.kind p.name;rw[HD u _ _ g1,g2];grind
  | false=>simp only[Ab9,Ab7];refine⟨λz=>(by grind),?_,hp⟩;rw[m.cases0 i];simp only[B8]
 .intro _ l;simp only[A4]
 .intro p ps hp a h l;rw[AA] at h⊢;rw[CR];have e:=HW ps (p.coll l);have k:=LM ps (p.coll l);refine⟨?_,a h.2 _⟩;have b:=hp h.1 l;have:=EX (f:=MJ (p.coll l)) (g:=MJ (Av ps (p.coll l))) (λq a=>MJ.mono e k a) [p] (by rw[AA];exact⟨b,by simp only[A4]⟩);rw[AA] at this;exact this.1
 .intro _ j l;refine⟨by simp only[B8],λs i=>⟨s,by simpa only[BG] using i,λc y=>by cases y⟩⟩
 .intro c cs a t h j l;rw[Bt] at h⊢;rw[Cb];have e:=Ip cs j (Av c.2 (l.modify j (AZ c.1)));have k:=Ml cs j (Av c.2 (l.modify j (AZ c.1)));have ⟨r1,r2⟩:=t h.2 j (Av c.2 (l.modify j (AZ c.1)));refine⟨⟨EX (λq a=>MJ.mono e k a) _ (a h.1 _),r1⟩,λs i=>?_⟩;have m:(l.modify j (AZ c.1))[j]?=some (AZ c.1 s):=by grind
  have o:c.1∈(AZ c.1 s).keys:=by
   unfold AZ;split
   .grind
   .simp
  have ⟨s2,h2,b⟩:=LM c.2 (l.modify j (AZ c.1)) j _ m;have ⟨s3,h4,h5⟩:=r2 s2 h2;have ⟨s4,h6,h7⟩:=k j s2 h2;rw[h4] at h6;cases h6;refine⟨s3,h4,λd r=>?_⟩;rcases Ahk.1 r with rfl|r
  .exact h7 _ (b _ o)
  .exact h5 d r
theorem bH{k}(h:bV k=true):Cv k=true:=by
 cases k with
 | nil=>cases h
 | cons c t=>unfold bV at h;rw[AaS] at h;exact h.1
theorem mB{kind keys k}(a:Lv kind k=true)(h:k∈keys):k∈HG kind keys:=by
 unfold HG;rw[AfJ,AfJ];by_cases d:k=AH
 .grind
 have b:(k==AH)=false:=by simpa using d
 unfold Lv at a;cases c:(kind==9) with
 | true=>left;refine Ayd.2 ⟨h,?_⟩;unfold KI;rw[b,c];rfl
 | false=>
  rw[c,AfL (by simp),AzS] at a;rcases a with a|a
  .right;left;unfold MG;rw[c,AfL (by simp)];refine Ayd.2 ⟨?_,by simpa using h⟩;unfold Kt at a;simp only[AzS,AjK] at a;rcases a with((((a|a)|a)|a)|a)|a
   .rw[a];decide
   .rw[a];decide
   .rw[a];decide
   .rw[a];decide
   .rw[a];decide
   .exact absurd a d
  .left;refine Ayd.2 ⟨h,?_⟩;unfold KI;rw[b,c,A0Q];exact bH a
def SL(vs:List Ch)(a cnt:Aa):Prop:=∃v,Fo vs a=some v/\FA v=true/\v.type=2/\cnt=v.text
def Oa(X:WX)(a:Py)(p:Ad):Prop:=AI p.kind=true->∃(i:Nat) (c:AD) (v:Ch),Fo X.vs p.name=some v/\FA v=true/\(p.kind≠9->v.type=2)/\IA X.L p X.vs=((i:Int),0)/\p.cases[i]?=some c/\
 ∀g:List Ad->List Ad,a p.kind p.name (p.cases.map λd=>(d.1,g d.2))=g c.2
theorem Aj8 X s ps:A4 (Oa X s) ps->∀d c g,Be ps d c g=true->∀a cnt,(c=true->SL X.vs a cnt)->∀b out,Ih (C6 X (BM s a ps out) b) (C6 X out b++C6 X ps cnt):=by
 refine CA (P:=λp=>p.all (Oa X s)->∀d c,p.formedB d c=true->∀a cnt,(c=true->SL X.vs a cnt)->∀b out,Ih (C6 X (p.res s a out) b) (C6 X out b++bE X p cnt))
  (Q:=λps=>A4 (Oa X s) ps->∀d c g,Be ps d c g=true->∀a cnt,(c=true->SL X.vs a cnt)->∀b out,Ih (C6 X (BM s a ps out) b) (C6 X out b++C6 X ps cnt))
  (R:=λcs=>B8 (Oa X s) cs->∀k d c keys,Cc cs k d c keys=true->∀a cnt,((c||w8 k)=true->SL X.vs a cnt)->∀(i:Nat) (x:AD),cs[i]?=some x->∀b,Ih (C6 X (BM s a x.2 []) b) (C6 X x.2 cnt)) ?_ ?_ ?_ ?_ ?_ ps
 .intro p F A m d c j a cnt f b out;rw[p.all_eq] at m;have ⟨hp,ha1,ha2⟩:=m;rw[p.formedB_eq] at j;rw[p.res_eq];cases l:(p.kind==11) with
  | true=>
   have o:p.kind=11:=by simpa using l
   have r:AI p.kind=false:=by rw[o];rfl
   have e:(p.kind==10)=false:=by rw[o];rfl
   have u:(p.kind==1)=false:=by rw[o];rfl
   rw[l,Amm rfl,AaS] at j;rw[r,e];simp only[Ab7,Ab9,AbA];have C:=A ha2 _ _ _ j.2 a cnt f b [];rw[Eo,Avc] at C;rw[IU,Mc,Gl X p cnt,Gl];simp only;rw[u,e,l];simp only[Ab7,Ab9,AbA];refine Ih.app (Ih.refl _) ?_;exact Ih.app (Ih.refl [Ev.pc (60::(p.name++[62]))]) (Ih.app C (Ih.refl _))
  | false=>
   rw[l,AfL (by simp)] at j;cases r:AI p.kind with
   | true=>
    rw[r,Amm rfl,AaS] at j;have ⟨i,x,v,D,z,t,hch,B,hpk⟩:=hp r;have o:=Ux r;simp only[AbA];rw[Hn,hpk (λq=>BM s (if(p.kind==9)=true then a else p.name) q [])];have E:(c||w8 p.kind)=true->SL X.vs (if(p.kind==9)=true then a else p.name) (Pt X p.kind p.name cnt):=by
     intro J;unfold Pt;cases I:(p.kind==9) with
     | true=>rw[Amm rfl,Amm rfl];refine f ?_;rw[Yy r] at J;grind
     | false=>rw[AfL (by simp),AfL (by simp),D];exact⟨v,D,z,t (by simpa using I),rfl⟩
    have C:=F ha1 _ _ _ _ j.2 _ _ E i x B b;refine(AbK X b _ out).trans (Ih.app (Ih.refl _) ?_);refine C.trans ?_;have G:(p.kind==7||(p.kind==8||p.kind==9))=true:=by rcases o with h|h|h<;>rw[h]<;>rfl
    have u:(p.kind==1)=false:=by rcases o with h|h|h<;>rw[h]<;>rfl
    have e:(p.kind==10)=false:=by rcases o with h|h|h<;>rw[h]<;>rfl
    rw[Gl X p cnt,u,e,l,G,hch];simp only[Ab7,Ab9,AbA];rw[Amm (by rfl),A1i,Sn X _ p.cases i x B,Option.getD_some];exact Ih.refl _
   | false=>
    rw[r,AfL (by simp)] at j;simp only[Ab7,Ab9];cases e:(p.kind==10) with
    | true=>
     have o:p.kind=10:=by simpa using e
     simp only[AbA];rw[HY p c l r,e,AaS] at j;obtain⟨v,D,z,t,rfl⟩:=f (by grind);rw[IU,Mc];refine Ih.app (Ih.refl _) ?_;rw[Gl X p v.text,e,Gl];simp only;have u:(p.kind==1)=false:=by rw[o];rfl
     rw[u,D];simp only[Ab7,Ab9,AbA];have m:LG X.L 3 [] v=Dc X.L v.text []:=by
      have K:PW 3 v.type=true:=by rw[t];rfl
      unfold LG;grind
     rw[show LG X.L (3:Int) [] v=Dc X.L v.text [] from m];exact Ih.refl _
    | false=>simp only[Ab7,Ab9];rw[Abp X p e l r cnt b];exact Ze X b out p
 .intro _ d c g _ a cnt _ b out;rw[Eo,At9];simp only[BM];exact Ih.refl _
 .intro p ps hp A m d c g j a cnt f b out;rw[AA] at m;rw[Bv,AaS,AaS] at j;rw[ES,FP,<-Azs];exact(A m.2 _ _ _ j.2.2 a cnt f b _).trans (Ih.app (hp m.1 _ _ j.2.1 a cnt f b out) (Ih.refl _))
 .grind
 .intro y cs A F m k d c keys j a cnt f i x B b;rw[Bt] at m;rw[Dj,AaS,AaS] at j;cases i with
  | zero=>
   have:y=x:=by simpa using B
   subst this;have:=A m.1 _ _ _ j.2.1 a cnt f b [];rw[Eo,Avc] at this;exact this
  | succ i=>exact F m.2 k d c _ j.2.2 a cnt f i x (by simpa using B) b
theorem Aff L vs U ps (hw:A7 ps<=2^24)(S:Dw ps=true)(z:AW [] L.card=true/\AW [] L.ord=true)
  (r:A4 (λp=>F4 p.kind=true->Fit vs (p.name,EM p.kind)) ps):A4 (Oa ⟨L,vs,U⟩ (Kz L.loc (Bl ps) ((Bl ps).map (FL L.loc vs)))) ps:=by
 have C:=KV S;refine EX (λp hp=>?_) ps (Rz ps C (Rz ps (iE ps C []) r));obtain⟨w,hk,F⟩:=hp;intro A;obtain⟨Z,s,h2,h3⟩:=hk A;have q:=Ux A;have G:F4 p.kind=true:=by rcases q with h|h|h<;>rw[h]<;>rfl
 obtain⟨v,R,y,l⟩:=F G;simp only at R l;have B:v.type=if(p.kind==9)=true then 1 else 2:=by rcases q with h|h|h<;>rw[h] at l⊢<;>simp[EM] at l⊢<;>exact l
 obtain⟨b,h4,V⟩:=Aep (BX p.kind p.name) (Av ps []) Z;have M:b=s:=by have:(Av ps [])[(B9 (Av ps []) p.kind p.name).toNat]?=some b:=h4;grind
 subst M;have j:b.kind=p.kind/\b.name=p.name:=by unfold BX at V;simpa using V
 have I:=Uf (w.other A);have f:∀c∈p.cases,c.1∈b.ord.keys:=λc Y=>by show c.1∈HG b.kind b.keys;rw[j.1];exact mB (w.keys A c Y) (h3 c Y)
 have X:b.ord.keys=(b.keys.filter (KI b.kind)++MG b.kind b.keys)++[AH]:=by show HG b.kind b.keys=_;unfold HG;grind
 have x:b.ord∈Bl ps:=Aov.2 ⟨b,Ao6 h2,rfl⟩;have u:b.ord.keys.length<=2^40:=by have:=(FT ps _ x).2;omega
 have o:MH b.ord.kind b.ord.name vs=(some v,0):=by show MH b.kind b.name vs=_;unfold MH;grind
 have t:Nq (Bl ps) ((Bl ps).map (FL L.loc vs)) p.kind p.name=MI b.ord.keys (G2 L.loc b.ord v):=by
  unfold Nq;have hf:B9 (Bl ps) p.kind p.name=B9 (Av ps []) p.kind p.name:=PT _ _ _;have hg:(Bl ps)[(B9 (Av ps []) p.kind p.name).toNat]?=some b.ord:=by unfold Bl;grind
  rw[hf,ArI,hg];show FL L.loc vs b.ord=_;unfold FL;rw[o]
 have k:Ex L p.kind v=G2 L.loc b.ord v++[AH]:=by unfold Ex G2 K5;have e:b.ord.kind=p.kind:=j.1;rw[e];rcases q with h|h|h<;>rw[h]<;>rfl
 have m:Ea (K5 L.loc p.kind) p.kind p.cases (MI b.ord.keys (G2 L.loc b.ord v))=dJ p.cases (Ex L p.kind v):=by
  rw[k];unfold G2;have e:b.ord.kind=p.kind:=j.1;rw[e];cases E:(p.kind==9) with
  | true=>exact tO v.text E X u f I
  | false=>exact mJ v.text E (UF _ _) X u f I
 have J:dJ p.cases (Ex L p.kind v)≠none:=by
  rw[k];have:∀D,dJ p.cases (D++[AH])≠none:=by
   intro D
   induction D with
   | nil=>simp only[Avc,dJ,Option.or_none];exact I
   | cons a D ih=>rw[AvC,dJ];grind
  exact this _
 rcases jP p.cases (Ex L p.kind v) with⟨_,hn⟩|⟨i,c,q1,q2,q3⟩
 .exact absurd hn J
 refine⟨i,c,v,R,y,λE=>?_,?_,q2,λg=>?_⟩
 .grind
 .have N:Og p.kind v=true:=by
   unfold Og;rw[y,B];cases(p.kind==9)<;>rfl
  have K:AW [] (Ib L p.kind)=true:=by
   unfold Ib;split
   .exact z.1
   .split
    .exact z.2
    .rfl
  unfold IA;show(if(!AI p.kind)=true then _ else if(!AW [] (Ib L p.kind))=true then _ else match Fo vs p.name with
   | none=>_
   | some v=>_)=_
  rw[A,K,R];simp only[Azx,Ab7,Ab9,N];rw[q1,AfL (by omega)]
 .show(Ea (K5 L.loc p.kind) p.kind (p.cases.map λd=>(d.1,g d.2)) (Nq (Bl ps) ((Bl ps).map (FL L.loc vs)) p.kind p.name)).getD []=g c.2;rw[t,Qh,m,q3];rfl
theorem eO(L:Du)(ps:List Ad)(vs:List Ch)(b:Bool)(F:A7 ps<=2^24)(h:(Bk L.loc ps).2=0)(args:HI)(c:(Em ps).2=false)(l:∀n x,B0 (Em ps).1 n=some x->(n,x)∈args)(m:(Es vs args 0).2=0)
  (q:List Ad)(r:(Bk L.loc ps).1.2[(DK L.loc vs (Bk L.loc ps).1.1 0).1.toNat]?=some q)(k:Ck q=true):HN L q vs b=HN L ps vs b:=by
 have ⟨r1,r2,r3,r4,r5⟩:=sJ L.loc ps vs h args c l m;have f:=Acl ps vs args c l m;have d:=LW args 0 m;have j:=(Mf (Bj ps) ([],false) c).2;rcases NU L.loc ps with z|⟨a,o,z⟩
 .grind
 have y:Ck ps=true:=by rw[DS];exact a
 rw[z] at r r3 r4 r5;simp only at r r3 r4 r5;have g:∀s∈Bl ps,s.keys≠[]/\∃v,MH s.kind s.name vs=(some v,0):=by
  intro s u;refine⟨(FT ps s u).1,?_⟩;have E:=Tx ps s u;have i:AI s.kind=true:=Of _ _ (Ki a) s u;have p:EM s.kind≠0:=by rcases(Ci _).1 i with h|h|h<;>rw[h]<;>decide
  have ⟨v,k,hp,hacc⟩:=d _ (l _ _ (j _ E p));refine⟨v,?_⟩;unfold MH;simp only at k hacc;rw[k];simp only;have D:v.type=if(s.kind==9)=true then 1 else 2:=by unfold Pf at hacc;rcases(Ci _).1 i with h|h|h<;>rw[h] at hacc⊢<;>simp[EM] at hacc⊢<;>exact hacc
  rw[AfL];rw[hp,D];simp
 have A:=bO L.loc vs (Bl ps) 0 1 (by omega) (by omega) (by omega) o g;generalize G:(DK L.loc vs (Bl ps) 0).1.toNat=K at *;have t:q=BM (Kz L.loc (Bl ps) ((Bl ps).map (FL L.loc vs))) [] ps []:=by unfold Ct at r;grind
 have C:Be ps 1 false false=true:=by have:=a;unfold Dw at this;grind
 have B:=Aj8 ⟨L,vs,b⟩ _ ps (Aff L vs b ps F a ⟨r1,r2⟩ f) _ _ _ C [] [] (λe=>by cases e) [] [] ([],0);rw[<-t,Eo,Avc] at B;unfold HN;rw[k,y];simp only[AbA];have ⟨e1,e2⟩:=B;rw[e1];split
 .grind
 .rfl
end Go.Ir

namespace Go.Ir
open Go.Proofs
variable{P:Program}{O:World}{nt n:Nat}{Q:Exit→St→Prop}{env:BB}{σ:Aq}
def AiO:IC:=oR [fA 88 5 1,l1 89 88,m1 90 9,iA 91 89 90 31 1,l1 92 91,q1 93 11 92,nT 94 93,m1 95 94,BU 96 95 11,BU 97 95 13,gF 98 95 (.bin .eql (.t 96) (.t 97)),BU 99 95 98,BY 100 99 12,BY 101 99 14,gT 102 99 (.bin .eql (.t 100) (.t 101)),gF 103 95 (.pick (.t 99) (.t 102) (.c (.b false))),pO 104 95 103,m1 2 104] [2]
def AiQ:IC:=sQ (.ops [lA 79 1 19,fA 80 5 1,l1 81 80,m1 82 9,iA 83 81 82 31 1,l1 84 83,q2 85 10 79 84,m1 78 85,xT 86 78 0,xT 87 78 1,m1 13 86,m1 14 87] [5,9,11,12,13,14] [[1,2],[2,4],[3,4],[4,5],[0,6],[5,6],[6,7],[7,8],[7,9],[8,10],[9,11]]) AiO
def AgX:IC:=sQ (oS [m1 58 10,bZ 59 .neq 58 0,m1 60 59,BU 61 60 9,Fg 62 60 .lss 61 0,pO 63 60 62,m1 64 63,BU 65 64 9,E5 66 64 5 1,Eh 67 64 66,gF 68 64 (.lenL (.t 67)),gF 69 64 (.bin .geq (.t 65) (.t 68)),pO 70 64 69] [1,5,9,70] (cD 70 (oR [mC 2 (.b false)] [2]) .skip)) (oS [lA 72 1 19,fA 73 1 16,l1 74 73,q2 75 10 72 74,m1 71 75,xT 76 71 0,xT 77 71 1,m1 11 76,m1 12 77] [1,5,9,11,12] AiQ)
def AiF:IC:=sQ (oS [m1 41 3,fA 42 1 17,l1 43 42,q2 44 8 41 43,m1 40 44,xT 45 40 0,xT 46 40 1,m1 7 45,m1 8 46] [1,5,8] (oS [m1 47 8,bZ 48 .neq 47 0] [1,5,48] (cD 48 (oR [mC 2 (.b true)] [2]) .skip))) (oS [fA 50 1 0,lA 51 50 16,lA 52 5 2,fA 53 1 17,l1 54 53,q3 55 9 51 52 54,m1 49 55,xT 56 49 0,xT 57 49 1,m1 9 56,m1 10 57] [1,5,9,10] AgX)
def AiA:IC:=sQ (oS [m1 34 4,bZ 35 .neq 34 0,m1 36 35,BU 37 36 6,Fg 38 36 .neq 37 0,pO 39 36 38] [1,3,5,39] (cD 39 (oR [mC 2 (.b true)] [2]) .skip)) AiF
def AhU:IC:=oS [fA 27 1 0,lA 28 27 16,fA 29 1 16,l1 30 29,q2 31 7 28 30,m1 26 31,xT 32 26 0,xT 33 26 1,o1 5 (.alloc (.agg [.nil,.nil])),sT 5 32 2,m1 6 33] [1,3,4,5,6] AiA
def ArS:IC:=sQ (oS [lA 17 1 19,q1 18 5 17,nT 19 18] [1,19] (cD 19 (oR [mC 2 (.b true)] [2]) .skip)) (oS [fA 21 1 16,l1 22 21,q1 23 6 22,m1 20 23,xT 24 20 0,xT 25 20 1,m1 3 24,m1 4 25] [1,3,4] AhU)
def AtV:IC:=oS [bX 1 0,mC 2 (.b false)] [1] (sQ (oS [o1 15 (.call 4 []),nT 16 15] [1,16] (cD 16 (oR [mC 2 (.b false)] [2]) .skip)) ArS)
def f3R:List R:=[.t 2]
def f3e:=An AiO.eq_1<|An AiQ.eq_1<|An AgX.eq_1<|An AiF.eq_1<|An AiA.eq_1<|An AhU.eq_1<|An ArS.eq_1<|AR AtV.eq_1
theorem eM:Ao π 3 105 AtV f3R=true:=by kernel_rfl
attribute[push_cast]f3R f3e
end Go.Ir

namespace Go.Ir
open Go.Proofs
variable(O:World)
theorem VH(hM:BS O)(hT:Cu O)(L:Du)(ps:List Ad)(vs:List Ch)(d:Bool)(hp:-9223372036854775808<=L.prim)(hs:L.sec<9223372036854775808)(h1:Pa L<=2^40)(h2:Ax L.card+Ax L.ord<=2^24)(h3:A7 ps<=2^20)(h4:vs.length<=2^40)(h5:∀v∈vs,v.list.length<=2^40) :
  Ak π O 3 [Qi L ps vs d] [] (.b true) []:=by
 have o:=zI O hM hT;have c:=dY O L ps vs d h1 h2 (by omega) h4 h5;cases D:(J8 L&&KA ps&&Dr (decide ((vs.length:Int)<=30)) vs) with
 | false=>
  rw[D] at c;rw[II] at c⊢;refine Ac (vs:=[.b true]) eM (by simp) (by simp) λn0 f=>?_;clear f;simp only[push_cast,seval];repeat' (first|(first|((first|apply Ai|apply Am|apply Al)<;>intro _h)|refine Ab o ?_|refine Ab c ?_)<;>simp only[push_cast,seval]|intro _)
  exact Af (by simp[get])
 | true=>
 rw[D] at c;rw[AaS,AaS] at D;have hX:=Ac9 O hT L vs d hp hs h2 h4 D.1.1 D.2;have l:=Aca O ps (by omega);have g:=Adu O L.loc ps rfl h2 h3;have Y:=ND O hM hT _ L ps vs d ps hX (by omega);have J:=Ks D.2;have ay:vs.length<=30:=by grind
 have ⟨b1,b2,b3,b4⟩:=Rs L.loc ps h3;have aa:=Afs L.loc ps;have ⟨t1,t2,t3⟩:=zP ps;have V:(Dn ps).1.length<=2^20/\∀a∈(Dn ps).1,a.1.length<=2^20:=by
  unfold Dn;split
  .grind
  .split
   .grind
   .have ⟨a1,a2⟩:=Afc (m:=(Em ps).1) (B:=2^20) (λe he=>by grind);grind
 have z:=lP O (Dn ps).1 vs (λa ha=>by have:=V.2 a ha;simp only[AG];omega) (by omega) (by omega) (λv M=>by have q1:=(J.2 v M).1.len;grind);have u:=lB O L.loc (Bk L.loc ps).1 vs rfl h2 b1 (λs hs=>⟨b3 s hs,by
  rcases aa with⟨_,hE⟩|⟨_,D⟩
  .grind
  .have:=D.5 s hs;omega⟩) (by omega) (λv M=>by have q1:=(J.2 v M).1.len;grind)
 have t:(Bk L.loc ps).2=0->(Dn ps).2=0->(Kc (Dn ps).1 vs).2=0->∃(k:Nat) (q:List Ad),(if !Gf (Bk L.loc ps).1 then((0,1):Int×Int) else if !AW [] L.loc.card||!AW [] L.loc.ord then(0,18) else DK L.loc vs (Bk L.loc ps).1.1 0)=((k:Int),0)/\(Bk L.loc ps).1.2[k]?=some q/\(Ck q=true->HN L q vs d=HN L ps vs d):=by
  intro p I e3;have R:(Em ps).2=false/\(Dn ps).1=GQ (Em ps).1:=by
   unfold Dn at I⊢;split at I
   .cases I
   .rename_i M;rw[AfL M];split at I
    .cases I
    grind
  have X:(Es vs (Dn ps).1 0).2=0:=by
   unfold Kc at e3;split at e3
   .cases e3
   .exact e3
  have ha:∀n x,B0 (Em ps).1 n=some x->(n,x)∈(Dn ps).1:=λn x h=>by rw[R.2];exact Aem h
  have ⟨q1,q2,q3,q4,q5⟩:=sJ L.loc ps vs p (Dn ps).1 R.1 ha X;have ⟨k,hk⟩:∃k:Nat,(DK L.loc vs (Bk L.loc ps).1.1 0).1=k:=⟨_,(A2l q4).symm⟩
  have ab:k<(Bk L.loc ps).1.2.length:=by omega
  have j:(Bk L.loc ps).1.2[k]?=some (Bk L.loc ps).1.2[k]:=Am7 ab;refine⟨k,(Bk L.loc ps).1.2[k],?_,j,λM=>eO L ps vs d (by omega) p (Dn ps).1 R.1 ha X _ (by rw[hk];exact j) M⟩;rw[Nr L.loc p,q1,q2];exact Prod.ext hk q3
 have r:∀q,q∈(Bk L.loc ps).1.2->Ak π O 10 [Qi L ps vs d,.sl (q.map Ad.enc)] [] (.tup [.s (HN L q vs d).1,.i .i64 (HN L q vs d).2]) []:=λq U=>ND O hM hT _ L ps vs d q hX (by grind);have y:∀q,q∈(Bk L.loc ps).1.2->Ak π O 11 [.sl (q.map Ad.enc)] [] (.b (Ck q)) []:=λq U=>MR O q (by have:=b4 q U;omega);rw[Du.loc_enc,Du.enc_eq] at g u;generalize(if !Gf (Bk L.loc ps).1 then((0,1):Int×Int) else if !AW [] L.loc.card||!AW [] L.loc.ord then(0,18) else DK L.loc vs (Bk L.loc ps).1.1 0)=K at *;generalize Kc (Dn ps).1 vs=CH at *;clear aa b1 b3 t1 t2 t3 V hX;generalize(Bk L.loc ps).2=E at *;generalize(Bk L.loc ps).1=F at *;generalize(Dn ps).2=G at *;generalize(Dn ps).1=A at *;have ⟨F1,F2⟩:=F;have ⟨C1,C2⟩:=CH;unfold GM at g u;simp only at g u z t r y b2;rw[II] at *;by_cases hG:G=0
 .subst hG;by_cases hE:E=0
  .subst hE;by_cases hC:C2=0
   .subst hC;obtain⟨k,q,rfl,U,am⟩:=t rfl rfl rfl;have ac:=Ao6 U;have Z:=r q ac;have C:=y q ac;have ab:k<F2.length:=(Ao5.1 U).1;have j:(F2.map J7)[k]?=some (.sl (q.map Ad.enc)):=by rw[ArI,U];rfl
    have d1:decide ((k:Int)<0)=false:=by simp
    have d2:decide ((k:Int)>=(F2.length:Int))=false:=by simp;omega
    clear t r y J;generalize HN L ps vs d=S at *;generalize HN L q vs d=T at *;cases N:Ck q with
    | true=>
     have ak:=am N;subst ak;rw[N] at C;have ⟨S1,S2⟩:=T;have p:(S1==S1)=true:=by simp
     have I:(S2==S2)=true:=by simp
     refine Ac (vs:=[.b true]) eM (by simp) (by simp) λn0 f=>?_;clear f;simp only[push_cast,seval];repeat' (first|(first|((first|apply Ai|apply Am|apply Al)<;>intro _h)|refine Ab o ?_|refine Ab c ?_|refine Ab l ?_|refine Ab g ?_|refine Ab z ?_|refine Ab u ?_|refine Ab Y ?_|refine Ab Z ?_|refine Ab C ?_)<;>simp only[push_cast,seval,d1,d2,j,p,I]|intro _)
     all_goals exact Af (by simp[get])
    | false=>
     rw[N] at C;have ⟨S1,S2⟩:=S;have ⟨T1,T2⟩:=T;refine Ac (vs:=[.b true]) eM (by simp) (by simp) λn0 f=>?_;clear f;simp only[push_cast,seval];repeat' (first|(first|((first|apply Ai|apply Am|apply Al)<;>intro _h)|refine Ab o ?_|refine Ab c ?_|refine Ab l ?_|refine Ab g ?_|refine Ab z ?_|refine Ab u ?_|refine Ab Y ?_|refine Ab Z ?_|refine Ab C ?_)<;>simp only[push_cast,seval,d1,d2,j]|intro _)
     all_goals exact Af (by simp[get])
   .have p:(C2 !=0)=true:=by simpa using hC
    refine Ac (vs:=[.b true]) eM (by simp) (by simp) λn0 f=>?_;clear f;simp only[push_cast,seval];repeat' (first|(first|((first|apply Ai|apply Am|apply Al)<;>intro _h)|refine Ab o ?_|refine Ab c ?_|refine Ab l ?_|refine Ab g ?_|refine Ab z ?_)<;>simp only[push_cast,seval,p]|intro _)
    all_goals exact Af (by simp[get])
  .have p:(E !=0)=true:=by simpa using hE
   refine Ac (vs:=[.b true]) eM (by simp) (by simp) λn0 f=>?_;clear f;simp only[push_cast,seval];repeat' (first|(first|((first|apply Ai|apply Am|apply Al)<;>intro _h)|refine Ab o ?_|refine Ab c ?_|refine Ab l ?_|refine Ab g ?_)<;>simp only[push_cast,seval,p]|intro _)
   all_goals exact Af (by simp[get])
 .have p:(G !=0)=true:=by simpa using hG
  refine Ac (vs:=[.b true]) eM (by simp) (by simp) λn0 f=>?_;clear f;simp only[push_cast,seval];repeat' (first|(first|((first|apply Ai|apply Am|apply Al)<;>intro _h)|refine Ab o ?_|refine Ab c ?_|refine Ab l ?_|refine Ab g ?_)<;>simp only[push_cast,seval,p]|intro _)
  all_goals exact Af (by simp[get])
end Go.Ir

namespace Go.Ir
open Go.Proofs
def bw(s:Aa):Nat:=s.length+1
theorem AwW:DU π 9=some false:=by kernel_rfl
theorem QH(v:V)(h:FU π 28 [v]):∃l:List Aa,v=.sl (l.map V.s)/\EJ bw l+1<=BA v:=by
 obtain⟨es,rfl,e,g,i⟩:=h.sl_inv Tryz.underlying28;rw[AwW] at e;have ⟨xs,hx,hw⟩:=Sv (G:=λa=>FU π 9 [a]) V.s bw (λa h=>by
  obtain⟨s,rfl⟩:=h.str_inv Tryz.underlying9;exact⟨s,rfl,by unfold bw;simp[BA]⟩) es λa d=>by
  have ⟨c,hc,hcc⟩:=e a d;have f:=i a d;have b:=g a d;rw[hcc] at f b;rw[c9] at b
  match c,b with
  | [x],_=>have:a=x:=hc;rw[this];exact f
 exact⟨xs,by rw[hx],by simp only[BA];omega⟩
theorem lJ{a:Type}{w:a->Nat}{l:List a}{x:a}(h:x∈l):w x<=EJ w l:=by
 induction l with
 | nil=>cases h
 | cons y l b=>
  simp only[EJ];rcases Ahk.1 h with rfl|h
  .omega
  .have:=b h;omega
theorem Lm{a:Type}{w:a->Nat}{l:List a}(h:∀x,1<=w x):l.length<=EJ w l:=by
 induction l with
 | nil=>simp 
 | cons y l b=>simp only[EJ,An9];have:=h y;omega
theorem Apa{l:List V}(h:l.length=3):∃a b c,l=[a,b,c]:=by
 match l,h with
 | [a,b,c],_=>exact⟨a,b,c,rfl⟩
theorem ApT{l:List V}(h:l.length=5):∃a b c d e,l=[a,b,c,d,e]:=by
 match l,h with
 | [a,b,c,d,e],_=>exact⟨a,b,c,d,e,rfl⟩
theorem Ain:π.cellsOf 28=1:=by kernel_rfl
theorem Awx:π.cellsOf 55=5:=by kernel_rfl
theorem AwP:DU π 55=some true:=by kernel_rfl
theorem Ajr(c:List V)(h:FU π 55 c):∃x:Ch,V.agg c=x.enc/\x.wt<=AF c:=by have ⟨hl,hf⟩:=h.st_inv Tryz.underlying55;rw[Awx] at hl;obtain⟨k,m,o,p,j,rfl⟩:=ApT hl;have a:=hf _ (by exact Aea);have b:=hf _ (by exact Ab5 _ Aea);have e:=hf _ (by exact Ab5 _ (Ab5 _ Aea));have f:=hf _ (by exact Ab5 _ (Ab5 _ (Ab5 _ Aea)));have g:=hf _ (by exact Ab5 _ (Ab5 _ (Ab5 _ (Ab5 _ Aea))));simp only[c9,c3,Ain,Azv,Ay6,AxB,Azg] at a b e f g;obtain⟨n,rfl⟩:=a.str_inv Tryz.underlying9;obtain⟨t,rfl,_⟩:=b.int_inv Tryz.underlying3;obtain⟨x,rfl⟩:=e.str_inv Tryz.underlying9;obtain⟨d,rfl,_⟩:=f.int_inv Tryz.underlying3;obtain⟨xs,rfl,i⟩:=QH j g;refine⟨⟨n,t,x,d,xs⟩,rfl,?_⟩;have:=Lm (w:=bw) (l:=xs) (λ_=>by unfold bw;omega);simp only[AF,BA] at i⊢;unfold Ch.wt;simp only;omega
theorem AdO(v:V)(h:FU π 32 [v]):∃l:List Ch,v=.sl (l.map Ch.enc)/\EJ Ch.wt l<=BA v:=by obtain⟨xs,rfl,a⟩:=Ff h Tryz.underlying32 AwP Ch.enc Ch.wt Ajr;exact⟨xs,rfl,by omega⟩
theorem AbT{l:List Ch}{n:Nat}(h:EJ Ch.wt l<=n):l.length<=n/\∀v∈l,v.text.length<=n/\v.list.length<=n:=by have:=Lm (w:=Ch.wt) (l:=l) (λx=>by unfold Ch.wt;omega);refine⟨by omega,λv a=>?_⟩;have b:=lJ (w:=Ch.wt) a;have c:v.wt=1+v.name.length+v.text.length+v.list.length:=rfl;exact⟨by omega,by omega⟩
theorem Ax0:π.cellsOf 193=5:=by kernel_rfl
theorem Axr:π.cellsOf 195=3:=by kernel_rfl
theorem Avg:π.cellsOf 197=2:=by kernel_rfl
theorem Aw9:π.cellsOf 24=6:=by kernel_rfl
theorem Aqe:π.cellsOf 25=1:=by kernel_rfl
theorem ApA:π.cellsOf 26=1:=by kernel_rfl
theorem AoU:π.cellsOf 27=1:=by kernel_rfl
theorem Aqo:π.cellsOf 32=1:=by kernel_rfl
theorem AdD:π.cellsOf 34=19:=by kernel_rfl
theorem Av4:DU π 193=some true:=by kernel_rfl
theorem AvL:DU π 195=some true:=by kernel_rfl
theorem Avd:DU π 197=some true:=by kernel_rfl
def yH(x:Ed):Nat:=bw x.style+bw x.two+bw x.start+bw x.mid+bw x.fin
def qT(x:Fv):Nat:=bw x.unit+bw x.cls+bw x.pat
def sP(x:E4):Nat:=bw x.skel+bw x.pat
theorem AlH(c:List V)(h:FU π 193 c):∃x:Ed,V.agg c=x.enc/\yH x<=AF c:=by have ⟨hl,hf⟩:=h.st_inv Tryz.underlying193;rw[Ax0] at hl;obtain⟨m,o,p,q,r,rfl⟩:=ApT hl;have a:=hf _ (by exact Aea);have b:=hf _ (by exact Ab5 _ Aea);have d:=hf _ (by exact Ab5 _ (Ab5 _ Aea));have e:=hf _ (by exact Ab5 _ (Ab5 _ (Ab5 _ Aea)));have f:=hf _ (by exact Ab5 _ (Ab5 _ (Ab5 _ (Ab5 _ Aea))));simp only[c9,Azv,Ay6,AxB,Azg] at a b d e f;obtain⟨g,rfl⟩:=a.str_inv Tryz.underlying9;obtain⟨i,rfl⟩:=b.str_inv Tryz.underlying9;obtain⟨j,rfl⟩:=d.str_inv Tryz.underlying9;obtain⟨k,rfl⟩:=e.str_inv Tryz.underlying9;obtain⟨l,rfl⟩:=f.str_inv Tryz.underlying9;exact⟨⟨g,i,j,k,l⟩,rfl,by simp only[yH,bw,AF,BA];omega⟩
theorem Akw(c:List V)(h:FU π 195 c):∃x:Fv,V.agg c=x.enc/\qT x<=AF c:=by have ⟨hl,hf⟩:=h.st_inv Tryz.underlying195;rw[Axr] at hl;obtain⟨i,j,k,rfl⟩:=Apa hl;have a:=hf _ (by exact Aea);have b:=hf _ (by exact Ab5 _ Aea);have d:=hf _ (by exact Ab5 _ (Ab5 _ Aea));simp only[c9,Azv,Ay6,AxB,Azg] at a b d;obtain⟨e,rfl⟩:=a.str_inv Tryz.underlying9;obtain⟨f,rfl⟩:=b.str_inv Tryz.underlying9;obtain⟨g,rfl⟩:=d.str_inv Tryz.underlying9;exact⟨⟨e,f,g⟩,rfl,by simp only[qT,bw,AF,BA];omega⟩
theorem AkW(c:List V)(h:FU π 197 c):∃x:E4,V.agg c=x.enc/\sP x<=AF c:=by have ⟨hl,hf⟩:=h.st_inv Tryz.underlying197;rw[Avg] at hl;obtain⟨f,g,rfl⟩:=Acd hl;have a:=hf _ (by exact Aea);have b:=hf _ (by exact Ab5 _ Aea);simp only[c9,Azv,Ay6,AxB,Azg] at a b;obtain⟨d,rfl⟩:=a.str_inv Tryz.underlying9;obtain⟨e,rfl⟩:=b.str_inv Tryz.underlying9;exact⟨⟨d,e⟩,rfl,by simp only[sP,bw,AF,BA];omega⟩
theorem Ajn{l:List V}(h:l.length=16):∃a b c d e m o p q r s f g i j k,l=[a,b,c,d,e,m,o,p,q,r,s,f,g,i,j,k]:=by
 match l,h with
 | [a,b,c,d,e,m,o,p,q,r,s,f,g,i,j,k],_=>grind
theorem Aum{n:Int}(h:(Lit.int .i64 n).wf=true):-9223372036854775808<=n/\n<9223372036854775808:=by
 simp only[Lit.wf,AaS,Avv] at h;have a:IntKind.i64.min=-9223372036854775808:=by decide
 have b:IntKind.i64.max=9223372036854775807:=by decide
 omega
theorem VY(l:List Aa):Gu l<=30*EJ bw l:=by
 induction l with
 | nil=>simp[Gu,BT]
 | cons x l a=>unfold Gu at *;simp only[BT,EJ,Ju,bw] at *;omega
theorem R0{a:Type}{f g:a->Nat}(h:∀x,f x<=30*g x)(l:List a):BT f l<=30*EJ g l:=by
 induction l with
 | nil=>simp[BT]
 | cons x l b=>simp only[BT,EJ];have:=h x;omega
theorem Aoc(c:List V)(h:FU π 30 c):∃l:Du,V.agg c=l.enc/\Pa l<=200*AF c/\Ax l.card+Ax l.ord<=AF c/\-9223372036854775808<=l.prim/\l.sec<9223372036854775808:=by
 have ⟨hl,hf⟩:=h.st_inv Tryz.underlying30;rw[Aqz] at hl;obtain⟨x0,x1,x2,x3,x4,y0,y1,y2,y3,y4,y5,x6,x7,x8,Y,q,rfl⟩:=Ajn hl;have t:=hf _ (by exact Aea);have u:=hf _ (by exact Ab5 _ Aea);have v:=hf _ (by exact Ab5 _ (Ab5 _ Aea));have y:=hf _ (by exact Ab5 _ (Ab5 _ (Ab5 _ Aea)));have z:=hf _ (by exact Ab5 _ (Ab5 _ (Ab5 _ (Ab5 _ Aea))));have j:=hf _ (by exact Ab5 _ (Ab5 _ (Ab5 _ (Ab5 _ (Ab5 _ Aea)))));have f6:=hf _ (by exact Ab5 _ (Ab5 _ (Ab5 _ (Ab5 _ (Ab5 _ (Ab5 _ Aea))))));have f7:=hf _ (by exact Ab5 _ (Ab5 _ (Ab5 _ (Ab5 _ (Ab5 _ (Ab5 _ (Ab5 _ Aea)))))));have f8:=hf _ (by exact Ab5 _ (Ab5 _ (Ab5 _ (Ab5 _ (Ab5 _ (Ab5 _ (Ab5 _ (Ab5 _ Aea))))))));have f9:=hf _ (by exact Ab5 _ (Ab5 _ (Ab5 _ (Ab5 _ (Ab5 _ (Ab5 _ (Ab5 _ (Ab5 _ (Ab5 _ Aea)))))))));have f10:=hf _ (by exact Ab5 _ (Ab5 _ (Ab5 _ (Ab5 _ (Ab5 _ (Ab5 _ (Ab5 _ (Ab5 _ (Ab5 _ (Ab5 _ Aea))))))))));clear hf;simp only[c9,Ajl,Aw9,Aqe,ApA,AoU,Ain,Azv,Ay6,AxB,Azg] at t u v y z j f6 f7 f8 f9 f10;obtain⟨i,rfl⟩:=t.str_inv Tryz.underlying9;obtain⟨e,rfl⟩:=u.str_inv Tryz.underlying9;obtain⟨a,rfl⟩:=v.str_inv Tryz.underlying9;obtain⟨xs,rfl,G⟩:=Ff y Tryz.underlying22 Aiw A8.enc A8.wt Yd;obtain⟨ys,rfl,d⟩:=Ff z Tryz.underlying22 Aiw A8.enc A8.wt Yd;have ⟨_,hs⟩:=j.st_inv Tryz.underlying24;have A:=hs _ (by exact Aea);have B:=hs _ (by exact Ab5 _ Aea);have C:=hs _ (by exact Ab5 _ (Ab5 _ Aea));have D:=hs _ (by exact Ab5 _ (Ab5 _ (Ab5 _ Aea)));have E:=hs _ (by exact Ab5 _ (Ab5 _ (Ab5 _ (Ab5 _ Aea))));have F:=hs _ (by exact Ab5 _ (Ab5 _ (Ab5 _ (Ab5 _ (Ab5 _ Aea)))));clear hs j;simp only[c9,c3,Azv,Ay6,AxB,Azg] at A B C D E F;obtain⟨J,rfl⟩:=A.str_inv Tryz.underlying9;obtain⟨K,rfl⟩:=B.str_inv Tryz.underlying9;obtain⟨L,rfl⟩:=C.str_inv Tryz.underlying9;obtain⟨M,rfl⟩:=D.str_inv Tryz.underlying9;obtain⟨R,rfl,U⟩:=E.int_inv Tryz.underlying3;obtain⟨S,rfl,X⟩:=F.int_inv Tryz.underlying3;obtain⟨I,rfl,k⟩:=Ff f6 Tryz.underlying25 Av4 Ed.enc yH AlH;obtain⟨us,rfl,m⟩:=Ff f7 Tryz.underlying26 AvL Fv.enc qT Akw;obtain⟨r,rfl,o⟩:=Ff f8 Tryz.underlying27 Avd E4.enc sP AkW;obtain⟨ms,rfl,p⟩:=QH Y f9;obtain⟨s,rfl,b⟩:=QH q f10;refine⟨⟨i,e,a,xs,ys,J,K,L,M,R,S,I,us,r,ms,s⟩,rfl,?_,?_,(Aum U).1,(Aum X).2⟩
 .have N:=VY [i,e,a,J,K,L,M];have Z:=VY s;have h3:=VY ms;have h4:=R0 (f:=Ed.sz) (g:=yH) (λx=>by simp only[Ed.sz,Gu,BT,Ju,yH,bw];omega) I;have h5:=R0 (f:=Fv.sz) (g:=qT) (λx=>by simp only[Fv.sz,Gu,BT,Ju,qT,bw];omega) us;have h6:=R0 (f:=E4.sz) (g:=sP) (λx=>by simp only[E4.sz,Gu,BT,Ju,sP,bw];omega) r;have h7:=Lm (w:=A8.wt) (l:=xs) (λ_=>by unfold A8.wt;omega);have h8:=Lm (w:=A8.wt) (l:=ys) (λ_=>by unfold A8.wt;omega);simp only[EJ,bw] at N;unfold Pa;simp only[AF,BA] at G d k m o p b⊢;omega
 .simp only[bI];simp only[AF,BA] at G d⊢;omega
theorem AcO(c:List V)(h:FU π 34 c):∃L ps vs d,V.agg c=Qi L ps vs d/\Pa L<=200*AF c/\Ax L.card+Ax L.ord<=AF c/\A7 ps<=AF c/\EJ Ch.wt vs<=AF c/\-9223372036854775808<=L.prim/\L.sec<9223372036854775808:=by
 have ⟨hl,hf⟩:=h.st_inv Tryz.underlying34;rw[AdD] at hl;obtain⟨a,r,rfl,t,v⟩:∃a r,c=a++r/\a.length=16/\r.length=3:=⟨c.take 16,c.drop 16,(A1Y 16 c).symm,by simp;omega,by simp;omega⟩
 obtain⟨g,e,f,rfl⟩:=Apa v;have o:=hf _ (by exact Aea);have p:=hf _ (by exact Ab5 _ Aea);have q:=hf _ (by exact Ab5 _ (Ab5 _ Aea));have s:=hf _ (by exact Ab5 _ (Ab5 _ (Ab5 _ Aea)));clear hf;have b:(a++[g,e,f]).drop 16=[g,e,f]:=by rw[<-t,A2m]
 have k:(a++[g,e,f]).drop 17=[e,f]:=by rw[<-A14 (i:=1) (j:=16),b];rfl
 have l:(a++[g,e,f]).drop 18=[f]:=by rw[<-A14 (i:=2) (j:=16),b];rfl
 have m:(a++[g,e,f]).take 16=a:=by rw[<-t,List.take_left]
 simp only[Aqz,c31,Aqo,AfO,Azv,b,k,l,m,AxB,Azg] at o p q s;have ⟨L,hL,hb1,hb2,hb3,hb4⟩:=Aoc a o;obtain⟨ps,rfl,u⟩:=sL _ g (Ab6 _) p;obtain⟨vs,rfl,x⟩:=AdO e q;obtain⟨d,rfl⟩:=s.bool_inv Tryz.underlying4;refine⟨L,ps,vs,d,?_,?_,?_,?_,?_,hb3,hb4⟩
 .rw[Du.enc_eq] at hL;cases hL;rw[II,Jw];rfl
 all_goals (rw[GS];simp only[AF];omega)
end Go.Ir
