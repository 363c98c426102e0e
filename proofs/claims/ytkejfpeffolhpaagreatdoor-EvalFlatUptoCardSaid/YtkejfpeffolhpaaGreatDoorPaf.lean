/- A part of the proof that the law EvalFlat answers true at every input of a bulk of at most 2^20. -/
import Derived.Test.YtkejfpeffolhpaaGreatDoorPae
import Derived.Lib.RuneBytes
import Derived.Lib.RuneCount
import Derived.RangeFuncNested
import Derived.RangeFuncBound
import Derived.RangeFuncCalls
import Derived.RangeFuncLeaves
import Derived.RangeFuncBox
import Derived.Shelf.Abstract
import Derived.Shelf.RegionOpen
import Derived.WalkKit
import Derived.OwnWalkIn
import Derived.TacticsInMore
import Derived.LoopNIn
import Derived.LoopIn
set_option linter.all false
set_option maxHeartbeats 4000000
set_option maxRecDepth 100000
open Nat renaming reduceEqDiff→rq
namespace Go.Ir
structure Wk (p:Ad):Prop where
 keys:AI p.kind=true->∀c∈p.cases,Lv p.kind c.1=true
 other:AI p.kind=true->∃c∈p.cases,c.1=AH
 cases0:AI p.kind=false->p.cases=[]
 parts0:(p.kind==11)=false->p.parts=[]
 elem:(p.kind==11)=true->p.text=[]/\p.style=[]
 name:AI p.kind=true->p.name.length<=40
theorem Q2{s}(h:BF s=true):s.length<=40:=by
 cases s with
 | nil=>simp
 | cons c r=>unfold BF at h;grind
theorem RS{p c}(a:(p.kind==11)=false)(b:AI p.kind=false)(h:IB p c=true):p.fieldsB=true:=by rw[HY p c a b,AaS] at h;exact h.1
theorem LZ ps:∀d c a,Be ps d c a=true->A4 Wk ps:=by
 refine CA (P:=λp=>∀d c,p.formedB d c=true->p.all Wk)
  (Q:=λps=>∀d c a,Be ps d c a=true->A4 Wk ps)
  (R:=λcs=>∀k d c keys,Cc cs k d c keys=true->B8 Wk cs/\(∀x∈cs,Lv k x.1=true)/\(keys.contains AH=true\/∃x∈cs,x.1=AH)) ?_ ?_ ?_ ?_ ?_ ps
 .intro p i g d c h;rw[p.formedB_eq] at h;rw[p.all_eq];cases b:p.kind==11 with
  | true=>
   have f:AI p.kind=false:=by
    have:p.kind=11:=by simpa using b
    rw[this];rfl
   rw[b,Amm rfl,AaS] at h;have ⟨h1,h2⟩:=h;unfold N5 at h1;simp at h1;have l:p.cases=[]:=by simpa using h1.2
   refine⟨⟨λe=>(by grind),λe=>(by grind),λ_=>l,λe=>(by grind),λ_=>⟨h1.1.1.2,h1.1.2⟩,λe=>(by grind)⟩,?_,g _ _ _ h2⟩;rw[l];simp only[B8]
  | false=>
   rw[b,AfL (by simp)] at h;cases f:AI p.kind with
   | true=>
    rw[f,Amm rfl,AaS] at h;have ⟨h1,h2⟩:=h;unfold Jc at h1;simp at h1;have hp:p.parts=[]:=by simpa using h1.1.1.2
    have ⟨a1,a2,a3⟩:=i _ _ _ _ h2;refine⟨⟨λ_=>a2,λ_=>?_,λe=>(by grind),λ_=>hp,λe=>(by grind),λ_=>Q2 h1.1.1.1.1.1.2⟩,a1,?_⟩
    .grind
    .rw[hp];simp only[A4]
   | false=>
    rw[f,AfL (by simp)] at h;have ⟨f1,f2,f3⟩:=Lb (RS b f h);refine⟨⟨λe=>(by grind),λe=>(by grind),f1,f2,λe=>(by grind),λe=>(by grind)⟩,?_,?_⟩
    .rw[f1 f];simp only[B8]
    .rw[f2 b];simp only[A4]
 .intro d c a _;simp only[A4]
 .intro p ps hp g d c a h;rw[Bv,AaS,AaS] at h;rw[AA];grind
 .intro k d c keys h;refine⟨by simp only[B8],λx o=>(by cases o),.inl ?_⟩;simpa only[Cc] using h
 .intro x cs g i k d c keys h;rw[Dj,AaS,AaS] at h;have ⟨h0,h1,h2⟩:=h;have ⟨a1,a2,a3⟩:=i _ _ _ _ h2;have q:Lv k x.1=true:=by grind
  rw[Bt];refine⟨⟨g _ _ _ h1,a1⟩,λy m=>?_,?_⟩
  .grind
  .rcases a3 with a3|⟨y,m,j⟩
   .have:AH∈keys\/AH=x.1:=by simpa using a3
    rcases this with h|h
    .left;simpa using h
    .right;exact⟨x,by simp,h.symm⟩
   .right;exact⟨y,by simp[m],j⟩
theorem KV{ps}(h:Dw ps=true):A4 Wk ps:=by unfold Dw at h;rw[AaS,AaS] at h;exact LZ ps _ _ _ h.1.1
theorem EX{f g}(b:∀p,f p->g p) ps:A4 f ps->A4 g ps:=by
 refine CA (P:=λp=>p.all f->p.all g) (Q:=λps=>A4 f ps->A4 g ps) (R:=λcs=>B8 f cs->B8 g cs) ?_ ?_ ?_ ?_ ?_ ps
 .intro p d a;rw[p.all_eq,p.all_eq];grind
 .intro _;simp only[A4]
 .intro p ps hp a;rw[AA,AA];grind
 .intro _;simp only[B8]
 .intro c cs a d;rw[Bt,Bt];grind
theorem Rz{f g} ps:A4 f ps->A4 g ps->A4 (λp=>f p/\g p) ps:=by
 refine CA (P:=λp=>p.all f->p.all g->p.all (λp=>f p/\g p)) (Q:=λps=>A4 f ps->A4 g ps->A4 (λp=>f p/\g p) ps) (R:=λcs=>B8 f cs->B8 g cs->B8 (λp=>f p/\g p) cs) ?_ ?_ ?_ ?_ ?_ ps
 .intro p b a;rw[p.all_eq,p.all_eq,p.all_eq];grind
 .intro _ _;simp only[A4]
 .intro p ps hp a;rw[AA,AA,AA];grind
 .intro _ _;simp only[B8]
 .intro c cs a b;rw[Bt,Bt,Bt];grind
theorem bK(ps:List Ad):∀M,A7 ps<=M->A4 (λp=>∀c∈p.cases,c.1.length<=M) ps:=by
 refine CA (P:=λp=>∀M,p.wt<=M->p.all (λp=>∀c∈p.cases,c.1.length<=M)) (Q:=λps=>∀M,A7 ps<=M->A4 (λp=>∀c∈p.cases,c.1.length<=M) ps) (R:=λcs=>∀M,De cs<=M->B8 (λp=>∀c∈p.cases,c.1.length<=M) cs) ?_ ?_ ?_ ?_ ?_ ps
 .intro p b a M h;rw[p.wt_eq] at h;rw[p.all_eq];exact⟨λc d=>by have:=B7 d;omega,b M (by omega),a M (by omega)⟩
 .intro M _;simp only[A4]
 .intro p ps hp a M h;rw[A5] at h;rw[AA];exact⟨hp M (by omega),a M (by omega)⟩
 .intro M _;simp only[B8]
 .intro c cs a b M h;rw[Bn] at h;rw[Bt];exact⟨a M (by omega),b M (by omega)⟩
theorem HW ps l:BH l (Av ps l):=(IZ _ ps (Ab4 _) l).2
theorem Ip(cs:List AD):∀j l,BH l (BG cs j l):=by
 induction cs with
 | nil=>intro j l;simp only[BG];exact BH.refl l
 | cons c cs a=>intro j l;rw[Cb];exact((BH.mod l j c.1).trans (HW c.2 _)).trans (a _ _)
theorem Ol l k n:BH l (Br l k n):=by
 unfold Br;split
 .exact BH.app _ _
 .exact BH.refl _
def Fx(L:List B4)(p:Ad):Prop:=AI p.kind=true->¬B9 L p.kind p.name<0
theorem Fx.mono{L a}(h:BH L a){p}(hp:Fx L p):Fx a p:=λb=>by have:=hp b;rw[HD h _ _ this];exact this
theorem Wu ps:A4 Wk ps->∀l,A4 (Fx (Av ps l)) ps:=by
 refine CA (P:=λp=>p.all Wk->∀l,p.all (Fx (p.coll l))) (Q:=λps=>A4 Wk ps->∀l,A4 (Fx (Av ps l)) ps) (R:=λcs=>B8 Wk cs->∀j l,B8 (Fx (BG cs j l)) cs) ?_ ?_ ?_ ?_ ?_ ps
 .intro p d a h l;rw[p.all_eq] at h⊢;have ⟨h1,h2,b⟩:=h;rw[p.coll_eq];have hp:=a b l;cases m:AI p.kind with
  | true=>simp only[AbA];have k:=Ol (Av p.parts l) p.kind p.name;have i:=Ip p.cases (F5 (Av p.parts l) p.kind p.name) (Br (Av p.parts l) p.kind p.name);refine⟨λ_=>?_,d h2 _ _,EX (λq a=>Fx.mono (k.trans i) a) _ hp⟩;have:=(O9 (Av p.parts l) p.kind p.name).1;rw[HD i _ _ this];exact this
  | false=>simp only[Ab9,Ab7];refine⟨λo=>(by grind),?_,hp⟩;rw[h1.cases0 m];simp only[B8]
 .intro _ l;simp only[A4]
 .intro p ps hp a h l;rw[AA] at h⊢;rw[CR];have e:=HW ps (p.coll l);refine⟨?_,a h.2 _⟩;have b:=hp h.1 l;have:=EX (f:=Fx (p.coll l)) (g:=Fx (Av ps (p.coll l))) (λq a=>Fx.mono e a) [p] (by rw[AA];exact⟨b,by simp only[A4]⟩);rw[AA] at this;exact this.1
 .intro _ j l;simp only[B8]
 .intro c cs a d h j l;rw[Bt] at h⊢;rw[Cb];have e:=Ip cs j (Av c.2 (l.modify j (AZ c.1)));exact⟨EX (λq a=>Fx.mono e a) _ (a h.1 _),d h.2 _ _⟩
def KS(G:Int->Aa->Prop)(l:List B4):Prop:=∀s∈l,∀k∈s.keys,G s.kind k
theorem KS.mod{G l}(h:KS G l){j key s}(d:l[j]?=some s)(g:G s.kind key):KS G (l.modify j (AZ key)):=by
 intro t m k a;have ⟨i,hi⟩:=A2h m;rw[A0P] at hi;by_cases f:j=i
 .subst f;rw[d] at hi;have e:AZ key s=t:=by simpa using hi
  subst e;have c:=Ao6 d;unfold AZ at a⊢;split at a
  .rename_i b;rw[Amm b];exact h s c k a
  .rename_i b;rw[AfL b];simp only[AfJ,AzE] at a;rcases a with a|rfl
   .exact h s c k a
   .exact g
 .have:l[i]?=some t:=by
   grind
  exact h t (Ao6 this) k a
theorem KS.add{G l}(h:KS G l) k n:KS G (Br l k n):=by
 unfold Br;split
 .intro s a k b;rcases AfJ.1 a with a|a
  .exact h s a k b
  grind
 .exact h
def Zh(G:Int->Aa->Prop)(p:Ad):Prop:=AI p.kind=true->∀c∈p.cases,G p.kind c.1
theorem Qy l k n:∃s,(Br l k n)[F5 l k n]?=some s/\s.kind=k:=by
 unfold Br F5;by_cases h:B9 l k n<0
 .simp_all
 .rw[AfL h,AfL h];unfold B9 at h⊢
  induction l with
  | nil=>exact absurd (by simp[AV]) h
  | cons s l b=>
   simp only[AV] at h⊢;cases a:BX k n s with
   | true=>refine⟨s,rfl,?_⟩;unfold BX at a;grind
   | false=>grind
theorem AkE{l a}(h:BH l a){j:Nat}{k}(c:∃s,l[j]?=some s/\s.kind=k):∃s,a[j]?=some s/\s.kind=k:=by have ⟨s,h1,h2⟩:=c;have b:j<a.length:=AuD (Ao5.1 h1).1 h.1;exact⟨a[j],Am7 b,by rw[<-(h.2 j s _ h1 (Am7 b)).1];exact h2⟩
theorem eN G ps:A4 (Zh G) ps->∀l,KS G l->KS G (Av ps l):=by
 refine CA (P:=λp=>p.all (Zh G)->∀l,KS G l->KS G (p.coll l)) (Q:=λps=>A4 (Zh G) ps->∀l,KS G l->KS G (Av ps l))
  (R:=λcs=>B8 (Zh G) cs->∀k,(∀c∈cs,G k c.1)->∀j l,(∃s,l[j]?=some s/\s.kind=k)->KS G l->KS G (BG cs j l)) ?_ ?_ ?_ ?_ ?_ ps
 .intro p f b h l a;rw[p.all_eq] at h;rw[p.coll_eq];have g:=b h.2.2 l a;cases e:AI p.kind with
  | true=>simp only[AbA];exact f h.2.1 p.kind (h.1 e) _ _ (Qy _ _ _) (g.add _ _)
  | false=>simpa using g
 .intro _ l a;simpa only[Av] using a
 .intro p ps hp b h l a;rw[AA] at h;rw[CR];grind
 .intro _ k _ j l _ a;simpa only[BG] using a
 .intro c cs b f h k i j l q a;rw[Bt] at h;rw[Cb];have ⟨s,e,hsk⟩:=q;have m:=b h.1 _ (a.mod e (by rw[hsk];exact i c (by simp)));exact f h.2 k (λd o=>i d (by simp[o])) j _ (AkE ((BH.mod l j c.1).trans (HW c.2 _)) ⟨s,e,hsk⟩) m
theorem PT l k n:B9 (l.map B4.ord) k n=B9 l k n:=by
 unfold B9
 induction l with
 | nil=>rfl
 | cons s l a=>have:BX k n s.ord=BX k n s:=rfl;simp only[Ao7,AV,this,a]
theorem Uf{cs:List AD}{k}(h:∃c∈cs,c.1=k):Cz cs k≠none:=by
 have ⟨c,hc,hk⟩:=h;intro a;have:(cs.find? λc=>c.1==k)=none:=by unfold Cz at a;simpa using a
 grind
theorem Ach{kind keys k}(h:k∈HG kind keys):k∈keys\/k=AH:=by
 unfold HG at h;simp only[AfJ,AzE] at h;rcases h with h|h|h
 .grind
 .unfold MG at h;grind
 .right;exact h
theorem Aog kind keys:HG kind keys≠[]:=by unfold HG;simp
theorem AdN kind keys:(HG kind keys).length<=keys.length+6:=by
 unfold HG;rw[Ajd,Ajd];have a:=List.length_filter_le (KI kind) keys;have b:(MG kind keys).length<=5:=by
  unfold MG;split
  .simp
  .exact List.length_filter_le _ Hw
 simp;omega
theorem Ub ps:(Bl ps).length<=A7 ps:=by unfold Bl;rw[Afb];have:=Fm ps [];have a:=KL (Av ps []);simp only[DA] at this;omega
theorem FT ps:∀s∈Bl ps,s.keys≠[]/\s.keys.length<=A7 ps+6:=by intro s b;obtain⟨t,c,rfl⟩:=Aov.1 b;refine⟨Aog _ _,?_⟩;have d:=AdN t.kind t.keys;have e:=LS c;have a:=Fm ps [];simp only[DA] at a;show(HG t.kind t.keys).length<=_;omega
theorem KS.nil G:KS G []:=λs a=>by cases a
theorem d8 ps:∀s∈Bl ps,∀k∈s.keys,k.length<=A7 ps+5:=by
 intro s e k d;obtain⟨t,f,rfl⟩:=Aov.1 e;have h:=eN (λ_ k=>k.length<=A7 ps) ps (EX (λp hp _ c b=>hp c b) ps (bK ps _ (Ab6 _))) [] (KS.nil _);rcases Ach (kind:=t.kind) (keys:=t.keys) d with a|rfl
 .have:=h t f k a;omega
 .show 5<=_;omega
theorem p8{ps}(h:A4 Wk ps):A4 (ZV (Bl ps)) ps:=by refine EX (λp hp=>?_) ps (Rz ps h (Wu ps h []));intro a;refine⟨?_,Uf (hp.1.other a)⟩;unfold Bl;rw[PT];exact hp.2 a
def nj:List Ad->Bool
 | x::y::t=>!(x.kind==1&&y.kind==1)&&nj (y::t)
 | _=>true
theorem Ua x y t:nj (x::y::t)=(!(x.kind==1&&y.kind==1)&&nj (y::t)):=rfl
theorem yZ t:∀(d) (y),nj (y::t)=true->t.foldl D8 (d++[y])=d++[y]++t:=by
 induction t with
 | nil=>intro d y _;simp
 | cons x t b=>
  intro d y h;rw[Ua,AaS] at h;have a:(x.kind==1&&y.kind==1)=false:=by grind
  rw[AyT,EG,AfL (by rw[a];simp),b (d++[y]) x h.2];simp

structure J2 (p:Ad):Prop where
 sel:AI p.kind=false
 ten:(p.kind==10)=false
 cs:p.cases=[]
theorem Jv f a b:A4 f (a++b)↔A4 f a/\A4 f b:=by
 induction a with
 | nil=>simp[A4]
 | cons x a c=>rw[AvC,AA,AA,c,and_assoc]
theorem EW f x:A4 f [x]↔x.all f:=by rw[AA];simp[A4]
theorem Qw{o x}(h:A4 J2 o)(a:x.all J2):A4 J2 (D8 o x):=by
 rcases Ay5 o with rfl|⟨d,y,rfl⟩
 .rw[KD,EW];exact a
 .rw[Azh] at *;rw[EG];split
  .rw[Jv,EW] at h⊢;refine⟨h.1,?_⟩;have:=(Ad.all_eq _ _).1 h.2;exact(Ad.all_eq _ _).2 ⟨⟨this.1.sel,this.1.ten,this.1.cs⟩,this.2⟩
  .rw[Jv,EW];exact⟨h,a⟩
theorem d7 l:∀{o},A4 J2 o->A4 J2 l->A4 J2 (l.foldl D8 o):=by
 induction l with
 | nil=>intro o h _;exact h
 | cons x l b=>intro o h a;rw[AA] at a;exact b (Qw h a.1) a.2
theorem Aad o (l:SF o):∀(N) (ps),A7 ps<N->A4 Wk ps->∀a out,A4 J2 out->A4 J2 (BM o a ps out):=by
 intro N
 induction N with
 | zero=>intro ps h;omega
 | succ N s=>
  intro ps
  induction ps with
  | nil=>intro _ _ a out h;simpa[BM] using h
  | cons p ps m=>
   intro h e a out g;rw[A5] at h;rw[AA] at e;rw[ES];refine m (by omega) e.2 a _ ?_;have v:=p.wt_eq;have ⟨hp,hcs,hps⟩:=(Ad.all_eq _ _).1 e.1;rw[p.res_eq];split
   .rename_i r;rcases l p.kind p.name (Gc o (if p.kind==9 then a else p.name) p.cases) with i|⟨key,i⟩
    .rw[i];exact g
    .refine d7 _ g ?_;rw[Hn] at i;have ⟨c,hc,he⟩:=Aov.1 i;have u:=B7 hc;have t:=s c.2 (by omega) (Qd hcs hc) (if p.kind==9 then a else p.name) [] trivial;have q:=A1o Prod.snd he;simp only at q;rw[Hn,<-q];exact t
   .rename_i r;have b:AI p.kind=false:=by simpa using r
    split
    .rw[Jv,EW];exact⟨g,(Ad.all_eq _ _).2 ⟨⟨(rfl:AI 3=false),rfl,rfl⟩,trivial,trivial⟩⟩
    .rename_i j;have d:(p.kind==10)=false:=by simpa using j
     split
     .rw[Jv,EW];refine⟨g,(Ad.all_eq _ _).2 ⟨⟨b,d,hp.cases0 b⟩,?_,?_⟩⟩
      .show B8 J2 p.cases;rw[hp.cases0 b];trivial
      .exact s p.parts (by omega) hps a [] trivial
     .rename_i k;have f:(p.kind==11)=false:=by simpa using k
      refine Qw g ((Ad.all_eq _ _).2 ⟨⟨b,d,hp.cases0 b⟩,?_,?_⟩)
      .rw[hp.cases0 b];trivial
      .rw[hp.parts0 f];trivial
theorem WO:∀(N) (ps),A7 ps<N->A4 J2 ps->Da ps=true:=by
 intro N
 induction N with
 | zero=>intro ps h;omega
 | succ N e=>
  intro ps
  induction ps with
  | nil=>intro _ _;simp[Da]
  | cons p ps b=>intro h a;rw[A5] at h;rw[AA] at a;have f:=p.wt_eq;have ⟨hp,hcs,hps⟩:=(Ad.all_eq _ _).1 a.1;have c:=e p.parts (by omega) hps;have d:=b (by omega) a.2;simp only[Da,Ad.solid_eq,hp.sel,hp.cs,c,d];simp[Ni]
theorem WN:∀(N:Nat) (ps:List Ad),A7 ps<N->Da ps=true->∀l,Av ps l=l:=by
 intro N
 induction N with
 | zero=>intro ps h;omega
 | succ N d=>
  intro ps
  induction ps with
  | nil=>intro _ _ l;simp[Av]
  | cons p ps b=>intro h a l;rw[A5] at h;have c:=p.wt_eq;simp only[Da,Ad.solid_eq,AaS,AsZ] at a;have ⟨⟨⟨h1,h2⟩,h3⟩,h4⟩:=a;simp only[Av,Ad.coll_eq,h1];grind
theorem PC ps:∀d c a,Be ps d c a=true->nj ps=true:=by
 induction ps with
 | nil=>intro d c a _;rfl
 | cons x t f=>
  intro d c a h;rw[Bv,AaS,AaS] at h;have e:=f _ _ _ h.2.2;cases t with
  | nil=>rfl
  | cons y t=>have b:=h.2.2;rw[Bv,AaS] at b;rw[Ua,e,Bool.and_comm (x.kind==1),b.1];rfl
theorem aG{ps}(h:nj ps=true):ps.foldl D8 []=ps:=by
 cases ps with
 | nil=>rfl
 | cons y t=>have:=yZ t [] y h;simpa[KD] using this
theorem AcU{o x}(h:(x.kind==1)=false):D8 o x=o++[x]:=by
 rcases Ay5 o with rfl|⟨d,y,rfl⟩
 .rfl
 .rw[Azh,EG,h];simp
theorem An7 m:∀(N) (ps),A7 ps<N->A4 J2 ps->∀d c b,Be ps d c b=true->∀a out,BM m a ps out=ps.foldl D8 out:=by
 intro N
 induction N with
 | zero=>intro ps h;omega
 | succ N l=>
  intro ps
  induction ps with
  | nil=>intro _ _ d c b _ a out;simp[BM]
  | cons p ps j=>
   intro h f d c b g a out;rw[A5] at h;rw[AA] at f;rw[Bv,AaS,AaS] at g;have o:=p.wt_eq;have ⟨hp,hcs,hps⟩:=(Ad.all_eq _ _).1 f.1;rw[ES,AyT,j (by omega) f.2 _ _ _ g.2.2];congr 1;rw[p.res_eq,AfL (by rw[hp.sel];simp),AfL (by rw[hp.ten];simp)];split
   .rename_i e;have i:=g.2.1;rw[p.formedB_eq,Amm e,AaS] at i;rw[l p.parts (by omega) hps _ _ _ i.2,aG (PC _ _ _ _ i.2)];have k:(p.kind==1)=false:=by grind
    rw[AcU k];cases p;rfl
   .rfl
theorem Qv l {ps}(b:A4 J2 ps)(c:Ck ps=true)(d:(!AW [] l.card||!AW [] l.ord)=false):Bk l ps=(([],[ps]),0):=by
 have f:Bl ps=[]:=by unfold Bl;rw[WN _ ps (Ab4 _) (WO _ ps (Ab4 _) b)];rfl
 have a:=c;rw[DS] at a;unfold Dw at a;rw[AaS,AaS] at a;unfold Bk;rw[c,f,d];have e:BM (Kz l [] (Cy [] 0).1) [] ps []=ps:=by rw[An7 _ _ ps (Ab4 _) b _ _ _ a.1.1,aG (PC _ _ _ _ a.1.1)]
 simp[CS,Ct,e]
theorem SY(G:Int->Aa->Prop)(I:List B4->Prop)(f:∀l k n,G k n->I l->I (Br l k n))(g:∀l j key,I l->I (l.modify j (AZ key)))(ps:List Ad) :
  A4 (λp=>AI p.kind=true->G p.kind p.name) ps->∀l,I l->I (Av ps l):=by
 refine CA (P:=λp=>p.all (λp=>AI p.kind=true->G p.kind p.name)->∀l,I l->I (p.coll l)) (Q:=λps=>A4 (λp=>AI p.kind=true->G p.kind p.name) ps->∀l,I l->I (Av ps l))
  (R:=λcs=>B8 (λp=>AI p.kind=true->G p.kind p.name) cs->∀j l,I l->I (BG cs j l)) ?_ ?_ ?_ ?_ ?_ ps
 .intro p e b h l a;rw[p.all_eq] at h;rw[p.coll_eq];have d:=b h.2.2 l a;cases i:AI p.kind with
  | true=>grind
  | false=>simpa using d
 .intro _ l a;simpa only[Av] using a
 .intro p ps hp b h l a;rw[AA] at h;rw[CR];grind
 .intro _ j l a;simpa only[BG] using a
 .intro c cs b e h j l a;rw[Bt] at h;rw[Cb];grind
theorem Ry(ps:List Ad):∀d c a,Be ps d c a=true->A4 (λp=>AI p.kind=true->BF p.name=true) ps:=by
 refine CA (P:=λp=>∀d c,p.formedB d c=true->p.all (λp=>AI p.kind=true->BF p.name=true))
  (Q:=λps=>∀d c a,Be ps d c a=true->A4 (λp=>AI p.kind=true->BF p.name=true) ps)
  (R:=λcs=>∀k d c keys,Cc cs k d c keys=true->B8 (λp=>AI p.kind=true->BF p.name=true) cs) ?_ ?_ ?_ ?_ ?_ ps
 .intro p o i d c h;have l:=LZ [p] d c false (by rw[Bv,h];simp[Be]);rw[EW] at l;have j:=((Ad.all_eq _ _).1 l).1;rw[p.formedB_eq] at h;rw[p.all_eq];cases b:p.kind==11 with
  | true=>
   have f:AI p.kind=false:=by
    have:p.kind=11:=by simpa using b
    rw[this];rfl
   rw[b,Amm rfl,AaS] at h;refine⟨λm=>(by grind),?_,i _ _ _ h.2⟩;rw[j.cases0 f];simp only[B8]
  | false=>
   rw[b,AfL (by simp)] at h;have e:=j.parts0 b;cases f:AI p.kind with
   | true=>rw[f,Amm rfl,AaS] at h;have g:=h.1;unfold Jc at g;simp at g;refine⟨λ_=>g.1.1.1.1.1.2,o _ _ _ _ h.2,?_⟩;rw[e];simp only[A4]
   | false=>
    refine⟨λm=>(by cases m),?_,?_⟩
    .rw[j.cases0 f];simp only[B8]
    .rw[e];simp only[A4]
 .intro d c a _;simp only[A4]
 .intro p ps hp i d c a h;rw[Bv,AaS,AaS] at h;rw[AA];grind
 .intro k d c keys _;simp only[B8]
 .intro c cs i o k d q keys h;rw[Dj,AaS,AaS] at h;rw[Bt];grind
structure P4 (l:List B4):Prop where
 nm:∀s∈l,AI s.kind=true/\BF s.name=true
 nd:(l.map fun s=>(s.kind,s.name)).Nodup
 ks:∀s∈l,s.keys.Nodup
theorem eH l k n (i:AI k=true/\BF n=true)(h:P4 l):P4 (Br l k n):=by
 unfold Br;split
 .rename_i g;have f:l.any (BX k n)=false:=by rw[<-EY];unfold B9 at g;simp;omega
  refine⟨λs c=>?_,?_,λs c=>?_⟩
  .rcases AfJ.1 c with c|c
   .exact h.nm s c
   grind
  .rw[A0D,A0n];refine⟨h.nd,by simp,?_⟩;intro a d b e;simp at e;obtain⟨s,c,rfl⟩:=Aov.1 d;subst e;have:=A2s.1 f s c;unfold BX at this;grind
  .rcases AfJ.1 c with c|c
   .exact h.ks s c
   grind
 .exact h
theorem Kg{l:List B4}{j f t}(h:t∈l.modify j f):t∈l\/∃s∈l,t=f s:=by have ⟨i,hi⟩:=A2h h;grind
theorem WG{β:Type}{g:B4->β}{f}(a:∀s,g (f s)=g s):∀(l:List B4) (j),(l.modify j f).map g=l.map g:=by intro l j;apply Az7;grind
theorem fL l j key (h:P4 l):P4 (l.modify j (AZ key)):=by
 refine⟨λs c=>?_,?_,λs c=>?_⟩
 .rcases Kg c with c|⟨t,d,rfl⟩
  .exact h.nm s c
  .have:=Fe key t;rw[this.1,this.2];exact h.nm t d
 .rw[WG (λs=>by have:=Fe key s;rw[this.1,this.2])];exact h.nd
 .rcases Kg c with c|⟨t,d,rfl⟩
  .exact h.ks s c
  .unfold AZ;split
   .exact h.ks t d
   .rename_i g;rw[A0n];refine⟨h.ks t d,by simp,λa e b f=>?_⟩;grind
theorem eB:∀(l d),(d++l).Nodup->I1 d l=true:=by
 intro l
 induction l with
 | nil=>intro d _;simp[I1]
 | cons k r a=>intro d h;rw[I1,a (d++[k]) (by simpa using h)];grind
theorem Lq:Hw.Nodup/\AH∉Hw/\(∀k∈Hw,Cv k=false):=by
 refine⟨by decide,by decide,?_⟩;intro k a;have:∀k∈Hw,Cv k=false:=by decide
 exact this k a
theorem fP kind {keys}(h:keys.Nodup):(HG kind keys).Nodup:=by
 unfold HG;rw[A0n,A0n];refine⟨h.filter _,⟨?_,by simp,?_⟩,?_⟩
 .unfold MG;split
  .exact A1O
  .exact Lq.1.filter _
 .intro a d b c;simp at c;subst c;rintro rfl;unfold MG at d;split at d
  .cases d
  .exact Lq.2.1 (Ayd.1 d).1
 .intro a d b c;have e:=(Ayd.1 d).2;unfold KI at e;simp only[AaS,AzS,AsZ] at e;rintro rfl;rcases AfJ.1 c with c|c
  .unfold MG at c;split at c
   .cases c
   .rename_i i;have f:=(Ayd.1 c).1;have g:=Lq.2.2 _ f;grind
  grind
theorem Vz:∀(l d),(∀s∈l,TO s=true/\s.keys.Nodup)->((d++l).map λs=>(s.kind,s.name)).Nodup->DB d l=true:=by
 intro l
 induction l with
 | nil=>intro d _ _;simp[DB]
 | cons s r e=>
  intro d h a;have c:=h s (by simp);rw[DB,e (d++[s]) (λt b=>h t (by simp[b])) (by simpa using a),c.1,eB _ [] (by simpa using c.2)];have:d.any (BX s.kind s.name)=false:=by rw[A2s];intro t b;rw[A0D,A0n] at a;have f:=a.2.2 (t.kind,t.name) (Aov.2 ⟨t,b,rfl⟩) (s.kind,s.name) (by simp);unfold BX;grind
  rw[this];rfl
theorem Np{ps}(h:Dw ps=true):P4 (Av ps []):=by unfold Dw at h;rw[AaS,AaS] at h;have c:=Ry ps _ _ _ h.1.1;refine SY (λk n=>AI k=true/\BF n=true) P4 (λl k n a b=>eH l k n a b) fL ps ?_ [] ⟨by simp,A1O,by simp⟩;grind
theorem Ki{ps}(h:Dw ps=true):DB [] (Bl ps)=true:=by
 have a:=Np h;refine Vz _ [] ?_ ?_
 .intro s c;obtain⟨t,b,rfl⟩:=Aov.1 c;have:=a.nm t b;refine⟨?_,fP _ (a.ks t b)⟩;unfold TO Hl;simp only[B4.ord];rw[this.1,this.2];unfold HG;grind
 .unfold Bl;rw[Avc,A2i];exact a.nd
theorem Nr l {ps}(h:(Bk l ps).2=0):Gf (Bk l ps).1=true:=by
 unfold Bk at h⊢;split
 .grind
 .rename_i a;rw[AfL a] at h;split
  .grind
  .rename_i b;rw[AfL b] at h;split
   .grind
   .have c:Dw ps=true:=by rw[<-DS];simpa using a
    unfold Gf;simp only;rw[Ki c];have:((CS 1 (Bl ps):Int)<=400):=by simpa using b
    simp[this,Ct]
theorem I6 a b:A7 (a++b)=A7 a+A7 b:=by
 induction a with
 | nil=>simp[C5]
 | cons x a c=>rw[AvC,A5,A5,c];omega
theorem AcY s:s.length<=(GT s).length:=by
 induction s with
 | nil=>simp
 | cons c s a=>rw[GT];split<;>simp<;>omega
theorem Ama ps:∀d c b,Be ps d c b=true->A7 ps<=2*CV ps:=by
 refine CA (P:=λp=>∀d c,p.formedB d c=true->p.wt<=2*p.lenB)
  (Q:=λps=>∀d c b,Be ps d c b=true->A7 ps<=2*CV ps)
  (R:=λcs=>∀k d c keys,Cc cs k d c keys=true->De cs<=2*E8 cs) ?_ ?_ ?_ ?_ ?_ ps
 .intro p r o d c h;rw[p.formedB_eq] at h;rw[p.lenB_eq,p.wt_eq];by_cases g:p.kind=11
  .have s:(p.kind==1)=false:=by rw[g];rfl
   have m:(p.kind==10)=false:=by rw[g];rfl
   have a:(p.kind==11)=true:=by simpa using g
   rw[a,Amm rfl,AaS] at h;have t:=o _ _ _ h.2;have f:=h.1;unfold N5 at f;simp at f;have i:p.cases=[]:=by simpa using f.2
   simp only[s,m,a,AbA,Ab9,Ab7];rw[f.1.1.2,f.1.2,i,KZ];cases u:p.parts.isEmpty with
   | true=>
    have:p.parts=[]:=by simpa using u
    rw[this,C5];simp<;>omega
   | false=>simp<;>omega
  .have a:(p.kind==11)=false:=by simpa using g
   rw[a,AfL (by simp)] at h;cases q:AI p.kind with
   | true=>
    rw[q,Amm rfl,AaS] at h;have t:=r _ _ _ _ h.2;have f:=h.1;unfold Jc at f;simp at f;have hp:p.parts=[]:=by simpa using f.1.1.2
    have l:(p.kind==1)=false/\(p.kind==10)=false:=by rcases(Ci _).1 q with e|e|e<;>(rw[e];decide)
    have ⟨l,e10⟩:=l;simp only[l,e10,a,AbA,Ab9,Ab7];rw[f.1.1.1.1.2,f.1.1.1.2,hp,C5];simp<;>omega
   | false=>
    rw[q,AfL (by simp)] at h;unfold IB at h;simp only[AaS] at h;have ⟨⟨⟨⟨⟨hk,i⟩,hp⟩,ht⟩,hn⟩,hst⟩:=h;have i:=Ads i;have hp:=Ads hp;rw[i,hp,KZ,C5];have e:∀j:Int,p.kind≠j->(p.kind==j)=false:=λj h=>by simpa using h
    unfold wT at ht;unfold wN at hn;unfold wS at hst;unfold OJ at hk;by_cases k1:p.kind=1
    .rw[k1] at ht hn hst hk;simp at hn hst hk;rw[k1,hn,hst];have:=AcY p.text;have:0<p.text.length:=A0E.2 hk;simp;omega
    grind
 .intro d c b _;simp[A7]
 .intro p ps hp o d c b h;rw[Bv,AaS,AaS] at h;rw[Ig,A5];grind
 .intro k d c keys _;simp[De]
 .intro x cs o r k d c keys h;rw[Dj,AaS,AaS] at h;rw[Gx,Bn];grind
theorem Zw o x:A7 (D8 o x)<=A7 o+x.wt:=by
 rcases Ay5 o with rfl|⟨d,y,rfl⟩
 .rw[KD,A5,C5];omega
 .rw[Azh,EG];split
  .rw[I6,I6,A5,A5,C5,Ad.wt_eq,x.wt_eq,y.wt_eq];grind
  .simp only[I6,A5,C5];omega
theorem Acu l:∀o,A7 (l.foldl D8 o)<=A7 o+A7 l:=by
 induction l with
 | nil=>intro o;simp
 | cons x l a=>intro o;rw[AyT,A5];have b:=a (D8 o x);have c:=Zw o x;omega
theorem Amu d (j:SF d) K (o:1<=K) ps:∀b:Aa,1+b.length<=K->A4 (λp=>AI p.kind=true->1+p.name.length<=K) ps->∀out,A7 (BM d b ps out)<=A7 out+K*A7 ps:=by
 have g:∀a,a<=K*a:=λa=>A1T a o;refine CA (P:=λp=>∀b:Aa,1+b.length<=K->p.all (λp=>AI p.kind=true->1+p.name.length<=K)->∀out,A7 (p.res d b out)<=A7 out+K*p.wt)
  (Q:=λps=>∀b:Aa,1+b.length<=K->A4 (λp=>AI p.kind=true->1+p.name.length<=K) ps->∀out,A7 (BM d b ps out)<=A7 out+K*A7 ps)
  (R:=λcs=>∀b:Aa,1+b.length<=K->B8 (λp=>AI p.kind=true->1+p.name.length<=K) cs->∀c∈Gc d b cs,A7 c.2<=K*De cs) ?_ ?_ ?_ ?_ ?_ ps
 .intro p r i b f e out;rw[p.all_eq] at e;have ⟨h1,h2,h3⟩:=e;have u:K*p.wt=K+K*p.text.length+K*p.name.length+K*p.style.length+K*De p.cases+K*A7 p.parts:=by rw[p.wt_eq];grind
  have v:=g p.text.length;have t2:=g p.name.length;have t3:=g p.style.length;have t4:=g (De p.cases);have t5:=g (A7 p.parts);rw[p.res_eq];split
  .rename_i t;have m:1+(if p.kind==9 then b else p.name).length<=K:=by grind
   have s:=Acu (d p.kind p.name (Gc d (if p.kind==9 then b else p.name) p.cases)) out;rcases j p.kind p.name (Gc d (if p.kind==9 then b else p.name) p.cases) with h|⟨key,h⟩
   .grind
   grind
  .split
   .rw[I6,A5,C5,Ad.wt_eq];simp only[AtX,KZ,C5];omega
   .split
    .have:=i b f h3 [];rw[C5] at this;rw[I6,A5,C5,Ad.wt_eq];simp only;omega
    .have:=Zw out p;have:=p.wt_eq;omega
 .intro b _ _ out;simp[BM]
 .intro p ps hp i b f e out;rw[AA] at e;rw[ES,A5,Nat.mul_add];grind
 .intro b _ _ c f;simp[Gc] at f
 .intro c cs i r b f e x l;rw[Bt] at e;have ⟨k,q⟩:=c;simp only[Gc] at l;rw[Bn,Nat.mul_add,Nat.mul_add];rcases Ahk.1 l with rfl|l
  .have:=i b f e.1 [];rw[C5] at this;grind
  grind
theorem ZU(l:Jp){ps:List Ad}(h:Dw ps=true)(L:List B4)(keys:List Aa):A7 (BM (Kz l L keys) [] ps [])<=2^19:=by have c:=KV h;have d:=h;unfold Dw at h;simp only[AaS,Avv] at h;have e:=Ama ps _ _ _ h.1.1;have f:=Ms ps _ _ _ h.1.1;have a:=Amu (Kz l L keys) (LH l L keys) 41 (by decide) ps [] (by simp) (EX (λp hp b=>by have:=hp.name b;omega) ps c) [];rw[C5] at a;grind
theorem VK ps:∀d a,Da ps=true->Be ps d false a=true->A4 J2 ps:=by
 refine CA (P:=λp=>∀d,p.solid=true->p.formedB d false=true->p.all J2)
  (Q:=λps=>∀d a,Da ps=true->Be ps d false a=true->A4 J2 ps)
  (R:=λcs=>True) ?_ ?_ ?_ ?_ ?_ ps
 .intro p _ i d b h;have g:=LZ [p] d false false (by rw[Bv,h];simp[Be]);rw[EW] at g;have j:=((Ad.all_eq _ _).1 g).1;rw[Ad.solid_eq] at b;simp only[AaS,AsZ] at b;have ⟨⟨b,hp⟩,_⟩:=b;have f:=j.cases0 b;rw[p.formedB_eq] at h;refine(Ad.all_eq _ _).2 ?_;rw[f];cases e:p.kind==11 with
  | true=>
   have c:(p.kind==10)=false:=by grind
   rw[e,Amm rfl,AaS] at h;exact⟨⟨b,c,f⟩,by simp only[B8],i _ _ hp h.2⟩
  | false=>
   rw[e,AfL (by simp),b,AfL (by simp)] at h;refine⟨⟨b,?_,f⟩,by simp only[B8],?_⟩
   .cases c:p.kind==10 with
    | false=>rfl
    | true=>
     have:p.kind=10:=by simpa using c
     unfold IB OJ at h;grind
   .rw[j.parts0 e];simp only[A4]
 .intro d a _ _;simp only[A4]
 .intro p ps hp i d a b h;rw[Ss,AaS] at b;rw[Bv,AaS,AaS] at h;rw[AA];grind
 .trivial
 grind
theorem cA:∀(l),(∀s∈l,s.keys≠[])->∀n,1<=n->1<=CS n l:=by
 intro l
 induction l with
 | nil=>intro _ n h;exact h
 | cons s l d=>intro b n h;have a:1<=s.keys.length:=A0E.2 (b s (by simp));have c:1<=n*s.keys.length:=Nat.mul_pos h a;rw[CS];grind
theorem sO l L keys:SF (Kz l L keys):=LH _ _ _
structure AlN (l:Jp) (ps:List Ad) (F:P8):Prop where
 sound:Gf F=true
 some:0<F.2.length
 bare:∀v∈F.2,A4 J2 v/\A7 v<=2^19/\(Ck v=true->Bk l v=(([],[v]),0))
 only:Da ps=true->F.2=[ps]
 nm:∀s∈F.1,s.name.length<=40
theorem Afs l ps:((Bk l ps).2≠0/\(Bk l ps).1=([],[]))\/((Bk l ps).2=0/\AlN l ps (Bk l ps).1):=by
 by_cases h:(Bk l ps).2=0
 .right;refine⟨h,?_⟩;have a:=Nr l h;unfold Bk at h a⊢;by_cases f:(!Ck ps)=true
  .grind
  rw[AfL f] at h a⊢;by_cases m:decide ((CS 1 (Bl ps):Int)>400)=true
  .grind
  rw[AfL m] at h a⊢;by_cases g:(!AW [] l.card||!AW [] l.ord)=true
  .grind
  rw[AfL g] at a⊢;have k:Ck ps=true:=by simpa using f
  have b:Dw ps=true:=by rw[<-DS];exact k
  have j:(!AW [] l.card||!AW [] l.ord)=false:=by simpa using g
  refine⟨a,?_,?_,?_,?_⟩
  .simp only[Ct,Afb,A1R];exact cA _ (λs a=>(FT ps s a).1) 1 (Ab6 _)
  .intro v o;obtain⟨i,_,rfl⟩:=Aov.1 o;have c:=Aad (Kz l (Bl ps) (Cy (Bl ps) i).1) (sO _ _ _) _ ps (Ab4 _) (KV b) [] [] (by simp only[A4]);exact⟨c,ZU l b _ _,λe=>Qv l c e j⟩
  .intro hp;have d:=b;unfold Dw at d;rw[AaS,AaS] at d;have c:=VK ps _ _ hp d.1.1;have:=Qv l c k j;unfold Bk at this;grind
  .intro s a;obtain⟨t,p,rfl⟩:=Aov.1 a;exact Q2 ((Np b).nm t p).2
 .left;refine⟨h,?_⟩;unfold Bk at h⊢;grind
end Go.Ir
section
namespace Go.Ir
def EM(k:Int):Int:=if k==3||k==4||k==7||k==8 then 2 else if k==5 then 3 else if k==6 then 4 else if k==9 then 1 else 0
def F4(k:Int):Bool:=!(decide (k<2)||decide (k>=10))
def FZ(t:Int):Bool:=decide (t>=0)&&decide (t<=4)
def Lr(a b:Int):Int×Bool:=if !FZ a||!FZ b then(0,false) else if a==b then(a,true) else if a==0&&b !=4 then(b,true) else if b==0&&a !=4 then(a,true) else(0,false)
def C9(t:HI×Bool)(u:Aa×Int):HI×Bool:=match B0 t.1 u.1 with
 | none=>(HA t.1 u.1 u.2,t.2)
 | some a=>(HA t.1 u.1 (Lr a u.2).1,t.2||!(Lr a u.2).2)
mutual
def Ad.uses:Ad->List (Aa×Int)
 | ⟨k,_,n,_,cs,ps⟩=>(if F4 k then[(n,EM k)] else[])++(Dp cs++Bj ps)
def Bj:List Ad->List (Aa×Int)
 | []=>[]
 | p::ps=>p.uses++Bj ps
def Dp:List (Aa×List Ad)->List (Aa×Int)
 | []=>[]
 | (_,ps)::cs=>Bj ps++Dp cs
end
theorem Ad.uses_eq(p:Ad):p.uses=(if F4 p.kind then[(p.name,EM p.kind)] else[])++(Dp p.cases++Bj p.parts):=by cases p;simp only[Ad.uses]
theorem Wm:Bj []=[]:=by simp only[Bj]
theorem G3 p ps:Bj (p::ps)=p.uses++Bj ps:=by simp only[Bj]
theorem WL:Dp []=[]:=by simp only[Dp]
theorem G5(c:AD)(cs:List AD):Dp (c::cs)=Bj c.2++Dp cs:=by have ⟨k,q⟩:=c;simp only[Dp]
def Em(ps:List Ad):HI×Bool:=(Bj ps).foldl C9 ([],false)
theorem Ep m n k a:B0 (HA m n k) a=if a=n then some k else B0 m a:=by
 induction m with
 | nil=>simp only[HA,B0,AjK];grind
 | cons e m c=>
  rw[HA];by_cases h:e.1=n
  .have b:(e.1==n)=true:=by simpa using h
   rw[b,Amm rfl];simp only[B0,AjK];grind
  .have b:(e.1==n)=false:=by simpa using h
   rw[b,AfL (by simp)];simp only[B0,AjK,c];grind
theorem sR{a b}(h:(Lr a b).2=true):(a≠0->(Lr a b).1=a)/\(b≠0->(Lr a b).1=b):=by unfold Lr at *;grind
theorem fH t u (h:(C9 t u).2=false):t.2=false:=by unfold C9 at h;grind
theorem NB(us:List (Aa×Int)):∀t:HI×Bool,(us.foldl C9 t).2=false->t.2=false:=by
 induction us with
 | nil=>intro t h;exact h
 | cons u us ih=>intro t h;exact fH _ _ (ih _ h)
theorem rN t u (h:(C9 t u).2=false):(∀n x,B0 t.1 n=some x->x≠0->B0 (C9 t u).1 n=some x)/\(u.2≠0->B0 (C9 t u).1 u.1=some u.2):=by
 unfold C9 at *;split at h
 .rename_i d;simp only ;refine⟨λn x b a=>?_,λ_=>by rw[Ep,Amm rfl]⟩;rw[Ep,AfL]
  .exact b
  grind
 .rename_i e d;simp only ;simp only[Azt,Ay9] at h;have c:=sR h.2;refine⟨λn x b a=>?_,λa=>by rw[Ep,Amm rfl,c.2 a]⟩;rw[Ep];grind
theorem Mf(us:List (Aa×Int)):∀t:HI×Bool,(us.foldl C9 t).2=false->(∀n x,B0 t.1 n=some x->x≠0->B0 (us.foldl C9 t).1 n=some x)/\∀u∈us,u.2≠0->B0 (us.foldl C9 t).1 u.1=some u.2:=by
 induction us with
 | nil=>intro t _;exact⟨fun n x h _=>h,fun u hu=>by cases hu⟩
 | cons v us ih=>
  intro t h
  have h1:=ih _ h
  have h2:=rN t v (NB us _ h)
  refine⟨fun n x hx h0=>h1.1 n x (h2.1 n x hx h0) h0,fun u hu h0=>?_⟩
  rcases Ahk.1 hu with rfl|hu
  .exact h1.1 _ _ (h2.2 h0) h0
  .exact h1.2 u hu h0
theorem qY(ps:List Ad):∀U:Aa×Int->Prop,(∀u∈Bj ps,U u)->A4 (λp=>AI p.kind=true->U (p.name,EM p.kind)) ps:=by
 refine CA (P:=λp=>∀U:Aa×Int->Prop,(∀u∈p.uses,U u)->p.all (λp=>AI p.kind=true->U (p.name,EM p.kind))) (Q:=λps=>∀U:Aa×Int->Prop,(∀u∈Bj ps,U u)->A4 (λp=>AI p.kind=true->U (p.name,EM p.kind)) ps)
  (R:=λcs=>∀U:Aa×Int->Prop,(∀u∈Dp cs,U u)->B8 (λp=>AI p.kind=true->U (p.name,EM p.kind)) cs) ?_ ?_ ?_ ?_ ?_ ps
 .intro p d a U h;rw[p.uses_eq] at h;rw[p.all_eq];refine⟨λe=>h _ ?_,d U λu b=>h u (by simp[b]),a U λu b=>h u (by simp[b])⟩;have:F4 p.kind=true:=by rcases(Ci _).1 e with h|h|h<;>rw[h]<;>rfl
  rw[this];simp
 .intro U _;simp only[A4]
 .intro p ps hp a U h;rw[G3] at h;rw[AA];simp_all
 .intro U _;simp only[B8]
 .intro c cs a d U h;rw[G5] at h;rw[Bt];simp_all
theorem Tx ps:∀s∈Bl ps,(s.name,EM s.kind)∈Bj ps:=by
 have d:=qY ps (λu=>u∈Bj ps) (λu f=>f);have e:∀s∈Av ps [],(s.name,EM s.kind)∈Bj ps:=by
  refine SY (λk n=>(n,EM k)∈Bj ps) (λl=>∀s∈l,(s.name,EM s.kind)∈Bj ps) (λl k n g b=>?_) (λl j key b s a=>?_) ps d [] (λs a=>by cases a)
  .unfold Br;grind
  .rcases Kg a with a|⟨t,c,rfl⟩
   .exact b s a
   .rw[(Fe key t).1,(Fe key t).2];exact b t c
 intro s a;obtain⟨t,c,rfl⟩:=Aov.1 a;exact e t c
def Pf(a b:Int):Bool:=a==b||(b==0&&a !=4)
def Es(vs:List Ch):HI->Int->Int×Int
 | [],_=>(0,0)
 | a::r,i=>match Fo vs a.1 with
  | none=>(i,12)
  | some v=>if !FA v||!Pf v.type a.2 then(i,11) else Es vs r (i+1)
theorem LW{vs} args:∀i,(Es vs args i).2=0->∀a∈args,∃v,Fo vs a.1=some v/\FA v=true/\Pf v.type a.2=true:=by
 induction args with
 | nil=>grind
 | cons b r d=>intro i h a c;rw[Es] at h;grind
theorem nG{a}(p:a->Bool):∀xs,AV p xs<0\/(0<=AV p xs/\AV p xs<xs.length):=by
 intro xs
 induction xs with
 | nil=>left;simp[AV]
 | cons x xs b=>simp only[AV,An9];grind
theorem Oc{keys}(h:keys≠[])(d:keys.length<=2^20):∀a,0<=I7 keys a/\I7 keys a<keys.length:=by
 have b:0<keys.length:=A0E.2 h;intro a
 induction a with
 | nil=>rw[I7,wrap64 (by omega) (by omega)];omega
 | cons w a e=>
  rw[I7];rcases nG (λx=>w==x) keys with c|c
  .grind
  grind
theorem T6 l vs:∀(L) (a:Int) (n:Nat),0<=a->a<n->n<=400->CS n L<=400->(∀s∈L,s.keys≠[]/\∃v,MH s.kind s.name vs=(some v,0))->
  (DK l vs L a).2=0/\0<=(DK l vs L a).1/\(DK l vs L a).1<(CS n L:Int):=by
 intro L
 induction L with
 | nil=>intro a n c d _ _ _;exact⟨rfl,c,d⟩
 | cons s L w=>
  intro a n c d A b k;obtain⟨i,v,u⟩:=k s (by simp);rw[DK,u];simp only;rw[CS] at b⊢;by_cases h:400<n*s.keys.length
  .rw[Amm h] at b;omega
  rw[AfL h] at b⊢;have j:0<s.keys.length:=A0E.2 i;have f:1<=n:=by omega
  have q:s.keys.length<=400:=AoW (A1T _ f) (by omega);obtain⟨B,k1⟩:=Oc i (by omega) (G2 l s v);unfold Vv;generalize y:I7 s.keys (G2 l s v)=K at *;generalize z:s.keys.length=m at *;have e:a*(m:Int)+K<((n*m:Nat):Int):=by have o:a+1<=(n:Int):=d;have p:(a+1)*(m:Int)<=(n:Int)*(m:Int):=A10 o (by omega);rw[Int.add_mul] at p;omega
  have x:0<=a*(m:Int):=Int.mul_nonneg c (by omega);have g:n*m<=400:=by omega
  rw[wrap64 (n:=a*(m:Int)) (by omega) (by omega),wrap64 (by omega) (by omega)];exact w _ _ (by omega) e g b (λt r=>k t (by simp[r]))
theorem Of:∀(l d),DB d l=true->∀s∈l,AI s.kind=true:=by
 intro l
 induction l with
 | nil=>grind
 | cons x l c=>
  intro d h s a;rw[DB] at h;simp only[AaS] at h;rcases Ahk.1 a with rfl|a
  .have b:=h.1;unfold TO at b;grind
  grind
theorem sJ(l:Jp)(ps:List Ad)(vs:List Ch)(h:(Bk l ps).2=0)(args:HI)(hw:(Em ps).2=false)(ha:∀n x,B0 (Em ps).1 n=some x->(n,x)∈args)(hc:(Es vs args 0).2=0) :
  AW [] l.card=true/\AW [] l.ord=true/\(DK l vs (Bk l ps).1.1 0).2=0/\0<=(DK l vs (Bk l ps).1.1 0).1/\(DK l vs (Bk l ps).1.1 0).1<((Bk l ps).1.2.length:Int):=by
 have hall:=LW args 0 hc
 have huse:=(Mf (Bj ps) ([],false) hw).2
 unfold Bk at h⊢
 by_cases h1:(!Ck ps)=true
 .rw[Amm h1] at h;cases h
 rw[AfL h1] at h⊢
 by_cases h2:decide ((CS 1 (Bl ps):Int)>400)=true
 .rw[Amm h2] at h;cases h
 rw[AfL h2] at h⊢
 by_cases h3:(!AW [] l.card||!AW [] l.ord)=true
 .rw[Amm h3] at h;cases h
 rw[AfL h3]
 have h3':AW [] l.card=true/\AW [] l.ord=true:=by
  cases h4:AW [] l.card with
  | false=>rw[h4] at h3;simp at h3
  | true=>
   cases h5:AW [] l.ord with
   | false=>rw[h4,h5] at h3;simp at h3
   | true=>exact⟨rfl,rfl⟩
 refine⟨h3'.1,h3'.2,?_⟩
 simp only[Ct,Afb,A1R]
 refine T6 l vs (Bl ps) 0 1 (by omega) (by omega) (by omega) (by simp at h2;omega) (fun s hs=>⟨(FT ps s hs).1,?_⟩)
 have hu:=Tx ps s hs
 have hsk:AI s.kind=true:=by
  have h6:=Ki (ps:=ps) (by rw[<-DS];simpa using h1)
  exact Of _ _ h6 s hs
 have hk0:EM s.kind≠0:=by rcases(Ci _).1 hsk with h|h|h<;>rw[h]<;>decide
 obtain⟨v,hv,hp,hacc⟩:=hall _ (ha _ _ (huse _ hu hk0))
 refine⟨v,?_⟩
 unfold MH
 simp only at hv hacc
 rw[hv]
 simp only
 have ht:v.type=if(s.kind==9)=true then 1 else 2:=by
  unfold Pf at hacc
  rcases(Ci _).1 hsk with h|h|h<;>rw[h] at hacc⊢<;>simp[EM] at hacc⊢<;>exact hacc
 rw[AfL]
 rw[hp,ht];simp
end Go.Ir
end
namespace Go.Ir
open Go.Proofs
variable{P:Program}{O:World}{nt n:Nat}{Q:Exit→St→Prop}{env:BB}{σ:Aq}
def AfF:IC:=sQ (oS [m1 14 4,nC 15 14,fA 16 15 1,l1 17 16] [4,17] (cD 17 (oR [mC 2 .nil,mZ 3 11] [2,3]) .skip)) (oR [m1 18 4,o1 19 (.calls 15 [.t 18]),m1 2 19,mZ 3 0] [2,3])
def Aqs:IC:=oS [o1 8 (.mkm .mkmap []),o1 9 (.build [.nm,.b false] [(0,1,.t 8)]),bX 10 9,m1 4 10] [0,4] (oS [m1 11 4,m1 12 0,o1 13 (.calls 14 [.t 11,.t 12])] [4] AfF)
def Aps:IC:=oS [mC 2 .nil,mZ 3 0] [0] (sQ (oS [m1 5 0,q1 6 11 5,nT 7 6] [0,7] (cD 7 (oR [mC 2 .nil,mZ 3 1] [2,3]) .skip)) Aqs)
def f6R:List R:=[.t 2,.t 3]
def f6e:=An AfF.eq_1<|An Aqs.eq_1<|AR Aps.eq_1
theorem Axq:Ao π 6 20 Aps f6R=true:=by kernel_rfl
def Af9:IC:=oS [lA 30 8 5,q1 31 22 30,nT 32 31,m1 33 32,E5 34 33 8 1,Eh 35 33 34,E5 36 33 7 1,Eh 37 33 36,gF 38 33 (.call 23 [.t 35,.t 37]),gF 39 33 (.not (.t 38)),pO 40 33 39] [1,6,13,14,15,40] (cD 40 (oR [m1 41 6,m1 4 41,mZ 5 11] [4,5]) .skip)
def Ahh:IC:=oS [m1 21 1,fA 22 7 0,l1 23 22,q2 24 21 21 23,m1 20 24,xT 25 20 0,xT 26 20 1,o1 8 (.alloc (.agg [.s [],.i .i64 0,.s [],.i .i64 0,.nil])),sT 8 25 5,m1 9 26] [1,6,7,8,9,13,14,15] (sQ (oS [m1 27 9,nT 28 27] [1,6,7,8,13,14,15,28] (cD 28 (oR [m1 29 6,m1 4 29,mZ 5 12] [4,5]) .skip)) Af9)
def Aiy:IC:=sQ (.block 1 (oS [m1 17 15,iA 18 13 15 74 2,lA 19 18 2,o1 7 (.alloc (.agg [.s [],.i .i64 0])),m1 6 17,sT 7 19 2] [1,6,7,13,14,15] Ahh)) (oP [bZ 42 .add 15 1,m1 15 42] [1,13,14,15])
def AsV:IC:=sQ (oS [m1 13 0,nL 14 13,mZ 15 0] [1,13,14,15] (.block 0 (.loop (oS [bT 16 .lss 15 14] [1,13,14,15,16] (sQ (cD 16 .skip (.exit 0)) Aiy))))) (oR [mZ 4 0,mZ 5 0] [4,5])
def Aro:IC:=oS [mZ 4 0,mZ 5 0] [0,1] (sQ (oS [m1 10 0,q1 11 20 10,nT 12 11] [0,1,12] (cD 12 (oR [mZ 4 0,mZ 5 1] [4,5]) .skip)) AsV)
def f8R:List R:=[.t 4,.t 5]
def f8e:=An Af9.eq_1<|An Ahh.eq_1<|An Aiy.eq_1<|An AsV.eq_1<|AR Aro.eq_1
theorem AwO:Ao π 8 43 Aro f8R=true:=by kernel_rfl
def sD:IC:=sQ (.ops [fA 12 4 0,l1 13 12,q1 14 47 13,nT 15 14,m1 16 15,E5 17 16 4 1,Eh 18 16 17,gF 19 16 (.call 48 [.t 18]),gF 20 16 (.not (.t 19)),pO 21 16 20,m1 22 21,BU 23 22 3,Fg 24 22 .gtr 23 0,BU 25 22 24,Fa 26 25 4 0,E3 27 25 26,BY 28 25 0,BY 29 25 3,Gi 30 25 .sub 29 1,gT 31 25 (.iaddr (.t 28) (.t 30) 74 2),Fa 32 25 31 0,E3 33 25 32,gT 34 25 (.bin .leq (.t 27) (.t 33)),gF 35 22 (.pick (.t 25) (.t 34) (.c (.b false))),pO 36 22 35] [0,5,6,7,36] [[0,1],[1,2],[2,3],[3,4],[4,5],[4,6],[5,6],[4,7],[6,7],[4,8],[7,8],[4,9],[8,9],[9,10],[10,11],[10,12],[11,12],[10,13],[12,13],[13,14],[13,15],[14,15],[13,16],[13,17],[13,18],[17,18],[13,19],[16,19],[18,19],[13,20],[19,20],[13,21],[20,21],[13,22],[15,22],[21,22],[10,23],[13,23],[22,23],[10,24],[23,24]]) (cD 36 (oR [mC 2 (.b false)] [2]) .skip)
def rA:IC:=sQ (.block 1 (oS [m1 9 7,iA 10 5 7 74 2,lA 11 10 2,o1 4 (.alloc (.agg [.s [],.i .i64 0])),m1 3 9,sT 4 11 2] [0,3,4,5,6,7] sD)) (oP [bZ 37 .add 7 1,m1 7 37] [0,5,6,7])
def AgU:IC:=sQ (oS [m1 5 0,nL 6 5,mZ 7 0] [0,5,6,7] (.block 0 (.loop (oS [bT 8 .lss 7 6] [0,5,6,7,8] (sQ (cD 8 .skip (.exit 0)) rA))))) (oR [m1 38 0,nL 39 38,bZ 40 .leq 39 20,m1 2 40] [2])
def Agg:IC:=oS [mC 2 (.b false)] [0] AgU
def Avl:List R:=[.t 2]
def A0i:=An sD.eq_1<|An rA.eq_1<|An AgU.eq_1<|AR Agg.eq_1
theorem At0:Ao π 20 41 Agg Avl=true:=by kernel_rfl
def Ai6:IC:=oR [m1 5 0,m1 6 1,bT 7 .eql 5 6,m1 8 7,BU 9 8 1,Fg 10 8 .eql 9 0,BU 11 8 10,BY 12 11 0,Gi 13 11 .neq 12 4,gF 14 8 (.pick (.t 11) (.t 13) (.c (.b false))),pO 15 8 14,m1 4 15] [4]
def AiG:IC:=oS [mC 4 (.b false)] [0,1] Ai6
def AvZ:List R:=[.t 4]
def A0h:=An Ai6.eq_1<|AR AiG.eq_1
theorem Apz:Ao π 23 16 AiG AvZ=true:=by kernel_rfl
def Afz:IC:=sQ (oS [m1 6 0,bZ 7 .lss 6 2,m1 8 7,BU 9 8 0,Fg 10 8 .geq 9 10,pO 11 8 10] [0,4,11] (cD 11 (oR [mZ 2 0,mC 3 (.b false)] [2,3]) .skip)) (oR [m1 12 0,o1 13 (.pu (.aidx 10 1) [.t 4,.t 12]),l1 14 13,m1 2 14,mC 3 (.b true)] [2,3])
def Ah7:IC:=oS [o1 5 (.build [.i .i64 0,.i .i64 0,.i .i64 0,.i .i64 0,.i .i64 0,.i .i64 0,.i .i64 0,.i .i64 0,.i .i64 0,.i .i64 0] [(2,1,ci 0),(3,1,ci 2),(4,1,ci 2),(5,1,ci 3),(6,1,ci 4),(7,1,ci 2),(8,1,ci 2),(9,1,ci 1)]),o1 4 (.alloc (.agg [.i .i64 0,.i .i64 0,.i .i64 0,.i .i64 0,.i .i64 0,.i .i64 0,.i .i64 0,.i .i64 0,.i .i64 0,.i .i64 0])),sT 4 5 10] [0,4] Afz
def AiX:IC:=oS [mZ 2 0,mC 3 (.b false)] [0] Ah7
def AvH:List R:=[.t 2,.t 3]
def Azu:=An Afz.eq_1<|An Ah7.eq_1<|AR AiX.eq_1
theorem Ahj:Ao π 32 15 AiX AvH=true:=by kernel_rfl
def AgF:IC:=oS [mC 2 (.b false)] [0] (oR [m1 3 0,bZ 4 .geq 3 0,m1 5 4,BY 6 5 0,Gi 7 5 .leq 6 4,pA 8 5 7,m1 2 8] [2])
def Axc:List R:=[.t 2]
def AzZ:=AR AgF.eq_1
theorem AtY:Ao π 48 9 AgF Axc=true:=by kernel_rfl
def pL:IC:=oS [m1 29 1,bZ 30 .eql 29 0,m1 31 30,BY 32 31 0,Gi 33 31 .neq 32 4,pA 34 31 33,m1 28 34] [0,28] (cD 28 (oR [m1 35 0,m1 4 35,mC 5 (.b true)] [4,5]) .skip)
def Aai:IC:=oS [m1 21 0,bZ 22 .eql 21 0,m1 23 22,BY 24 23 1,Gi 25 23 .neq 24 4,pA 26 23 25,m1 20 26] [0,1,20] (cD 20 (oR [m1 27 1,m1 4 27,mC 5 (.b true)] [4,5]) pL)
def Ai9:IC:=cD 6 (oR [mZ 4 0,mC 5 (.b false)] [4,5]) (oS [m1 16 0,m1 17 1,bT 18 .eql 16 17,m1 15 18] [0,1,15] (cD 15 (oR [m1 19 0,m1 4 19,mC 5 (.b true)] [4,5]) Aai))
def AgY:IC:=sQ (.block 0 (oS [m1 7 0,q1 8 48 7,nT 9 8,m1 10 9,BU 11 10 1,gF 12 10 (.call 48 [.t 11]),gF 13 10 (.not (.t 12)),pO 14 10 13,m1 6 14] [0,1,6] Ai9)) (oR [mZ 4 0,mC 5 (.b false)] [4,5])
def Ait:IC:=oS [mZ 4 0,mC 5 (.b false)] [0,1] AgY
def AvA:List R:=[.t 4,.t 5]
def Az9:=An pL.eq_1<|An Aai.eq_1<|An Ai9.eq_1<|An AgY.eq_1<|AR Ait.eq_1
theorem Aqc:Ao π 69 36 Ait AvA=true:=by kernel_rfl
def mP:IC:=sQ (.block 3 (oS [iA 33 29 31 101 2,lA 34 33 2,o1 9 (.alloc (.agg [.s [],.nil])),sT 9 34 2] [0,5,9,10,11,12,29,30,31] (oP [m1 35 0,fA 36 9 1,l1 37 36,o1 38 (.calls 14 [.t 35,.t 37])] [0,5,10,11,12,29,30,31]))) (oP [bZ 39 .add 31 1,m1 31 39] [0,5,10,11,12,29,30,31])
def We:IC:=oS [bT 32 .lss 31 30] [0,5,10,11,12,29,30,31,32] (sQ (cD 32 .skip (.exit 2)) mP)
def uT:IC:=sQ (oS [fA 28 5 4,l1 29 28,nL 30 29,mZ 31 0] [0,5,10,11,12,29,30,31] (.block 2 (.loop We))) (oP [m1 40 0,fA 41 5 5,l1 42 41,o1 43 (.calls 14 [.t 40,.t 42])] [0,10,11,12])
def s8:IC:=sQ (oS [fA 17 5 0,l1 18 17,q1 19 32 18,m1 16 19,xT 20 16 0,xT 21 16 1,m1 6 20,m1 7 21] [0,5,6,7,10,11,12] (oS [m1 22 7] [0,5,6,10,11,12,22] (cD 22 (oP [m1 23 0,fA 24 5 2,l1 25 24,m1 26 6,o1 27 (.calls 33 [.t 23,.t 25,.t 26])] [0,5,10,11,12]) .skip))) uT
def Aig:IC:=sQ (.block 1 (oS [iA 14 10 12 96 6,lA 15 14 6,o1 5 (.alloc (.agg [.i .i64 0,.s [],.s [],.s [],.nil,.nil])),sT 5 15 6] [0,5,10,11,12] s8)) (oP [bZ 44 .add 12 1,m1 12 44] [0,10,11,12])
def AfB:IC:=oS [m1 10 1,nL 11 10,mZ 12 0] [0,10,11,12] (.block 0 (.loop (oS [bT 13 .lss 12 11] [0,10,11,12,13] (sQ (cD 13 .skip (.exit 0)) Aig))))
def AuY:List R:=[]
def A0p:=An mP.eq_1<|An We.eq_1<|An uT.eq_1<|An s8.eq_1<|An Aig.eq_1<|AR AfB.eq_1
theorem Aul:Ao π 14 45 AfB AuY=true:=by kernel_rfl
def yJ:IC:=oP [m1 17 3,m1 18 5,m1 19 0,nC 20 19,fA 21 20 0,l1 22 21,m1 23 5,o1 24 (.rdm (.mget .str (.i .i64 0) false) (.t 22) [.t 23]),o1 25 (.build [.s [],.i .i64 0] [(0,1,.t 18),(1,1,.t 24)]),o1 26 (.msl false 74 2 [.t 25]),o1 27 (.app (.t 17) (.t 26) 74 2),m1 3 27] [0,3,11,12,13]
def Ahb:IC:=oS [bT 14 .lss 13 12] [0,3,11,12,13,14] (sQ (cD 14 .skip (.exit 0)) (sQ (.block 1 (oS [iA 15 11 13 9 1,l1 16 15,m1 5 16] [0,3,5,11,12,13] yJ)) (oP [bZ 28 .add 13 1,m1 13 28] [0,3,11,12,13])))
def Aht:IC:=sQ (sQ (.opx [m1 6 0,nC 7 6,fA 8 7 0,l1 9 8] [0,3,9] 10 35 [.t 9] [o1 11 (.calln 34 [.t 10]),nL 12 11,mZ 13 0] [0,3,11,12,13]) (.block 0 (.loop Ahb))) (oR [m1 29 3,m1 2 29] [2])
def Agh:IC:=oS [mC 2 .nil] [0] (oS [mC 3 .nil] [0,3] Aht)
def AxE:List R:=[.t 2]
def AzD:=An yJ.eq_1<|An Ahb.eq_1<|An Aht.eq_1<|AR Agh.eq_1
theorem Arw:Ao π 15 30 Agh AxE=true:=by kernel_rfl
def vE:IC:=oS [m1 33 0,nC 34 33,fA 35 34 0,l1 36 35,m1 37 1,m1 38 8,o0 (.wrm (.mput .str) (.t 36) [.t 37,.t 38])] [0,9] (oP [m1 39 0,m1 40 0,nC 41 40,fA 42 41 1,l1 43 42,m1 44 43,BU 45 44 9,gF 46 44 (.not (.t 45)),pO 47 44 46,nC 48 39,fA 49 48 1,sT 49 47 1] [])
def Ahm:IC:=sQ (oS [m1 19 7,nT 20 19] [0,1,2,6,20] (cD 20 (oR [m1 21 0,nC 22 21,fA 23 22 0,l1 24 23,m1 25 1,m1 26 2,o0 (.wrm (.mput .str) (.t 24) [.t 25,.t 26])] []) .skip)) (oS [m1 28 6,m1 29 2,q2 30 69 28 29,m1 27 30,xT 31 27 0,xT 32 27 1,m1 8 31,m1 9 32] [0,1,8,9] vE)
def Agf:IC:=oS [m1 11 0,nC 12 11,fA 13 12 0,l1 14 13,m1 15 1,o1 16 (.rdm (.mget .str (.i .i64 0) true) (.t 14) [.t 15]),m1 10 16,xT 17 10 0,xT 18 10 1,m1 6 17,m1 7 18] [0,1,2,6,7] Ahm
def Avx:List R:=[]
def Azp:=An vE.eq_1<|An Ahm.eq_1<|AR Agf.eq_1
theorem Are:Ao π 33 50 Agf Avx=true:=by kernel_rfl
attribute[push_cast]f6R f6e f8R f8e Avl A0i AvZ A0h AvH Azu Axc AzZ AvA Az9 AuY A0p AxE AzD Avx Azp
end Go.Ir

namespace Go.Ir
open Go.Proofs
variable(O:World)
def K0(a:Aa×Int):V:=.agg [.s a.1,.i .i64 a.2]
def Js(i:Int)(a:Aa):HI->Bool
 | []=>true
 | x::r=>if !BF x.1||!FZ x.2||(decide (i>0)&&(Op.bytesLess x.1 a||x.1==a)) then false else Js (i+1) x.1 r
def NL(args:HI):Bool:=Js 0 [] args&&decide ((args.length:Int)<=20)
theorem Oh t:Ak π O 48 [.i .i64 t] [] (.b (FZ t)) []:=by
 generalize hS:FZ t=S;unfold FZ at hS;refine Ac (vs:=[.b S]) AtY (by simp) (by simp) λn0 a=>?_;clear a;simp only[push_cast,rq]
 repeat' (first|((apply AL<;>intro _h)<;>simp only[push_cast,rq,_h])|intro _)
 all_goals (subst hS;refine Af ?_;simp[get, *];done)
theorem AjA a b:Ak π O 69 [.i .i64 a,.i .i64 b] [] (.tup [.i .i64 (Lr a b).1,.b (Lr a b).2]) []:=by
 have d:=Oh O a;have e:=Oh O b;generalize hS:Lr a b=S;unfold Lr at hS;generalize FZ a=f at *;generalize FZ b=g at *;refine Ac (vs:=[.i .i64 S.1,.b S.2]) Aqc (by simp) (by simp) λn0 c=>?_;clear c;simp only[push_cast,rq];repeat' (first|(first|(apply AL<;>intro _h)|refine Ab d ?_|refine Ab e ?_)<;>simp only[push_cast,rq,_h]|intro _)
 all_goals (simp only[*,bq,AbA,Ab9] at hS)
 all_goals (subst hS;exact Gj)
theorem Anp a b:Ak π O 23 [.i .i64 a,.i .i64 b] [] (.b (Pf a b)) []:=by
 generalize hS:Pf a b=S;unfold Pf at hS;refine Ac (vs:=[.b S]) Apz (by simp) (by simp) λn0 c=>?_;clear c;simp only[push_cast,rq]
 repeat' (first|((apply AL<;>intro _h)<;>simp only[push_cast,rq,_h])|intro _)
 all_goals (subst hS;refine Af ?_;simp[get, *];done)
theorem AtT{a}{dn b L:HI}(h:L=dn++a::b):(L.map K0)[dn.length]?=some (.agg [.s a.1,.i .i64 a.2]):=by rw[h,ArI,Au5 (by simp)];simp[K0]
theorem xJ args (H:∀a∈args,a.1.length<AG)(L:args.length<=2^30):Ak π O 20 [.sl (args.map K0)] [] (.b (NL args)) []:=by
 generalize hS:NL args=S;unfold NL at hS;refine Ac (vs:=[.b S]) At0 (by simp) (by simp) λn0 y=>?_;clear y;simp only[push_cast,rq];intros;refine Aj args.length (Inv:=λm st=>∃dn c p n',args=dn++c/\m=c.length/\(∀k,dn.length=k+1->∃t,(args.map K0)[k]?=some (.agg [.s p,.i .i64 t]))/\(Js dn.length p c&&decide ((args.length:Int)<=20))=S/\st=⟨[(0,.sl (args.map K0)),(5,.sl (args.map K0)),(6,.i .i64 args.length),(7,.i .i64 dn.length)],[],n'⟩) ⟨_,Ag.refl,[],args,[],_,rfl,rfl,(λk h=>by simp at h),hS,rfl⟩ ?_;clear hS;rintro m _ ⟨dn,c,p,n',e,rfl,z,d,rfl⟩;cases c with
 | nil=>
  simp only[Js,AxA] at d;subst d;have w:args.length=dn.length:=by rw[e];simp
  rw[w];simp only[push_cast,rq,e];intros;exact Kn
 | cons x c=>
  have E:=A9 e;have f:=Ds O x.1 (H x (by rw[e];simp));have g:=Oh O x.2;rw[Js] at d;generalize BF x.1=I at *;generalize FZ x.2=J at *;have l:=AtT e;have o:decide ((dn.length:Int)<(args.length:Int))=true:=by simp;omega
  have C:dn.length<args.length:=by omega
  have r:=Ae x (dn:=dn) (by omega);have q:∀k,(dn++[x]).length=k+1->∃t,(args.map K0)[k]?=some (.agg [.s x.1,.i .i64 t]):=by intro k u;simp at u;grind
  have v:(((dn++[x]).length:Nat):Int)=(dn.length:Int)+1:=by simp
  generalize K:Js ((dn.length:Int)+1) x.1 c=G at d;generalize hB:decide ((args.length:Int)<=20)=B at d;obtain D|⟨k,u⟩:dn.length=0\/∃k,dn.length=k+1:=by cases dn.length<;>simp
  .have j:decide ((dn.length:Int)>0)=false:=by simp[D]
   rw[j] at d;simp only[push_cast,rq,l,o];repeat' (first|(first|(apply AL<;>intro _h)|refine Ab f ?_|refine Ab g ?_)<;>simp only[push_cast,rq,_h,j,r]|intro _)
   all_goals (simp only[*,bq,AbA,Ab9] at d;first|(subst d;exact Kn)|exact⟨_,_,Ab4 _,Ag.drop1 (by simp[lk]) (Ab6 _),dn++[x],c,x.1,_,by rw[e];simp,rfl,q,by grind,rfl⟩)
  .have j:decide ((dn.length:Int)>0)=true:=by simp[u]
   have ⟨t,hpt⟩:=z k u;have A:IntKind.i64.wrap ((dn.length:Int)-1)=(k:Nat):=by rw[wrap64 (by omega) (by omega)];omega
   have F:k<args.length:=by omega
   rw[j] at d;simp only[push_cast,rq,l,o];repeat' (first|(first|(apply AL<;>intro _h)|refine Ab f ?_|refine Ab g ?_)<;>simp only[push_cast,rq,_h,j,r,A,hpt]|intro _)
   all_goals (simp only[*,bq,AbA,Ab9] at d;first|(subst d;exact Kn)|exact⟨_,_,Ab4 _,Ag.drop1 (by simp[lk]) (Ab6 _),dn++[x],c,x.1,_,by rw[e];simp,rfl,q,by grind,rfl⟩)
def Kc(args:HI)(vs:List Ch):Int×Int:=if !NL args then(0,1) else Es vs args 0
theorem lP args vs (z:∀a∈args,a.1.length<AG)(y:args.length<=2^30)(p:vs.length<=2^40)(u:∀v∈vs,v.text.length<=2^29/\v.list.length<=2^30) :
  Ak π O 8 [.sl (args.map K0),.sl (vs.map Ch.enc)] [] (.tup [.i .i64 (Kc args vs).1,.i .i64 (Kc args vs).2]) []:=by
 have e:=xJ O args z y;generalize hS:Kc args vs=S;unfold Kc at hS;refine Ac (vs:=[.i .i64 S.1,.i .i64 S.2]) AwO (by simp) (by simp) λn0 r=>?_;clear r;cases k:NL args with
 | false=>
  rw[k] at e hS;simp only[AbA,AzQ] at hS;subst hS;simp only[push_cast,rq];repeat' (first|(first|(apply AL<;>intro _h)|refine Ab e ?_)<;>simp only[push_cast,rq]|intro _)
  all_goals (exact Gj)
 | true=>
 rw[k] at e hS;simp only[Ab9,reduceCtorEq,Azx] at hS;simp only[push_cast,rq];repeat' (first|(first|(apply AL<;>intro _h)|refine Ab e ?_)<;>simp only[push_cast,rq]|intro _)
 refine Aj args.length (Inv:=λm st=>∃dn b n',args=dn++b/\m=b.length/\Es vs b dn.length=S/\st=⟨[(1,.sl (vs.map Ch.enc)),(13,.sl (args.map K0)),(14,.i .i64 args.length),(15,.i .i64 dn.length)],[],n'⟩) ⟨_,Ag.refl,[],args,_,rfl,rfl,hS,rfl⟩ ?_;clear hS;rintro m _ ⟨dn,b,n',l,rfl,c,rfl⟩;cases b with
 | nil=>
  simp only[Es] at c;subst c;have q:args.length=dn.length:=by rw[l];simp
  rw[q];simp only[push_cast,rq];intros;refine Ah ?_;simp[push_cast]
 | cons x b=>
  have w:=A9 l;have h:=AtT l;have j:decide ((dn.length:Int)<(args.length:Int))=true:=by simp;omega
  have t:dn.length<args.length:=by omega
  have s:=Ae x (dn:=dn) (by omega);have f:(((dn++[x]).length:Nat):Int)=(dn.length:Int)+1:=by simp
  have d:=Lx O vs x.1 p (λv k=>(u v k).2);rw[Es] at c;cases g:Fo vs x.1 with
  | none=>
   rw[g] at d c;simp only at c;subst c;unfold O2 gV dC at d;simp only[AyQ] at d;simp only[push_cast,rq,h,j];repeat' (first|(first|(apply AL<;>intro _h)|refine Ab d ?_)<;>simp only[push_cast,rq]|intro _)
   all_goals (exact Gj)
  | some v=>
   have hp:=Je O v (by have:=(u v (Gd g)).1;omega);have o:=Anp O v.type x.2;rw[g] at d c;simp only at c;unfold O2 gV at d;simp only[AwY] at d;rw[Ch.enc_eq] at d hp;generalize FA v=A at *;generalize Pf v.type x.2=B at *;simp only[push_cast,rq,h,j];repeat' (first|(first|(apply AL<;>intro _h)|refine Ab d ?_|refine Ab hp ?_|refine Ab o ?_)<;>simp only[push_cast,rq,_h,s]|intro _)
   all_goals (simp only[*,bq,AbA,Ab9] at c;first|(subst c;exact Gj;done)|exact⟨_,_,Ab4 _,(Ag.drop1 (by simp[lk]) (Ab6 _)).trans (Ag.drop1 (by simp[lk]) (Ab6 _)),dn++[x],b,_,by rw[l];simp,rfl,by rw[f];exact c,rfl⟩)
theorem Aty k:Ak π O 32 [.i .i64 k] [] (.tup [.i .i64 (if F4 k then EM k else 0),.b (F4 k)]) []:=by
 cases c:F4 k with
 | false=>
  refine Ac (vs:=[.i .i64 0,.b false]) Ahj (by simp) (by simp) λn0 a=>?_;clear a;unfold F4 at c;simp only[Ay9] at c;simp only[push_cast,seval]
  repeat' (first|((apply AL<;>intro _h)<;>simp only[push_cast,seval,_h])|intro _)
  all_goals (first|(exact Gj;done)|(exfalso;simp_all;done))
 | true=>
  have d:k=2\/k=3\/k=4\/k=5\/k=6\/k=7\/k=8\/k=9:=by unfold F4 at c;simp at c;omega
  clear c;refine Ac (vs:=[.i .i64 (if true then EM k else 0),.b true]) Ahj (by simp) (by simp) λn0 a=>?_;clear a;rcases d with rfl|rfl|rfl|rfl|rfl|rfl|rfl|rfl
  all_goals
   skip;simp only[push_cast,seval]
   repeat' (first|((apply AL<;>intro _h)<;>simp only[push_cast,seval,_h])|intro _)
   all_goals (refine Ah ?_;simp[push_cast,EM])
abbrev ArL:=Aa×List Ad
def Auf(l:ArL):V:=.agg [.s l.1,.sl (l.2.map Ad.enc)]
def Add(n:Nat):Aa:=Lib.decDigits n

end Go.Ir

namespace Go.Ir
open Go.Proofs
variable{P:Program}{O:World}{nt n:Nat}{Q:Exit→St→Prop}{env:BB}{σ:Aq}
end Go.Ir

namespace Go.Ir
open Go.Proofs
variable(O:World)
end Go.Ir
section
namespace Go.Ir
abbrev cG:=List (List Ad)
mutual
def Ad.bld:Ad->cG->Ad×cG
 | ⟨k,t,n,s,cs,ps⟩,l=>if AI k then(⟨k,t,n,s,(aK cs l).1,ps⟩,(aK cs l).2) else(⟨k,t,n,s,cs,l.headD []++(Wl ps l.tail).1⟩,(Wl ps l.tail).2)
def Wl:List Ad->cG->List Ad×cG
 | [],l=>([],l)
 | p::ps,l=>((p.bld l).1::((p.bld l).2.headD []++(Wl ps (p.bld l).2.tail).1),(Wl ps (p.bld l).2.tail).2)
def aK:List (Aa×List Ad)->cG->List (Aa×List Ad)×cG
 | [],l=>([],l)
 | (k,ps)::cs,l=>((k,l.headD []++(Wl ps l.tail).1)::(aK cs (Wl ps l.tail).2).1,(aK cs (Wl ps l.tail).2).2)
end
end Go.Ir
end
namespace Go.Ir
end Go.Ir
section
namespace Go.Ir
structure WfK (p:Ad):Prop where
 bare:AI p.kind=true->p.text=[]/\p.style=[]
 nodup:AI p.kind=true->(p.cases.map (·.1)).Nodup
theorem ofNat_toNat{n:Nat}(h:n<256):(UInt8.ofNat n).toNat=n:=by simp_all
mutual
def Ad.fil(A:Aa->List Ad):Ad->Aa->Ad
 | ⟨k,_,n,_,cs,ps⟩,a=>⟨k,[],n,[],Ah8 A cs a,if k==11 then A (a++[47]++Add 0)++AlA A ps (a++[47]) 0 else[]⟩
def AlA(A:Aa->List Ad):List Ad->Aa->Nat->List Ad
 | [],_,_=>[]
 | p::ps,a,n=>p.fil A (a++Add (n+1))::(A (a++Add (n+1))++AlA A ps a (n+1))
def Ah8(A:Aa->List Ad):List (Aa×List Ad)->Aa->List (Aa×List Ad)
 | [],_=>[]
 | (k,ps)::cs,a=>(k,A (a++[47]++k++[47]++Add 0)++AlA A ps (a++[47]++k++[47]) 0)::Ah8 A cs a
end
end Go.Ir
end
section
namespace Go.Ir
mutual
def Ad.cnt:Ad->Nat
 | ⟨k,_,_,_,cs,ps⟩=>if AI k then Ai2 cs else 1+AkG ps
def AkG:List Ad->Nat
 | []=>0
 | p::ps=>p.cnt+(1+AkG ps)
def Ai2:List (Aa×List Ad)->Nat
 | []=>0
 | (_,ps)::cs=>1+AkG ps+Ai2 cs
end
end Go.Ir
end
namespace Go.Ir
open Go.Proofs
variable{P:Program}{O:World}{nt n:Nat}{Q:Exit→St→Prop}{env:BB}{σ:Aq}
end Go.Ir

namespace Go.Ir
open Go.Proofs
variable(O:World)
def bx(l:List ArL):AP:=.box (.agg [.sl (l.map Auf)])
theorem YC{b E e i}(h:lk [(b,E)] i=some e):i=b/\e=E:=by simp only[lk] at h;grind
def DN(m:HI):List (V×V):=m.map λe=>(.s e.1,.i .i64 e.2)
theorem Iw k m:∀n,(∃i v,B0 m k=some v/\BE .str (.s k) (DN m) n=some (some (n+i,.i .i64 v))/\∀x:Int,(DN m).modify i (λe=>(e.1,.i .i64 x))=DN (HA m k x))\/(B0 m k=none/\BE .str (.s k) (DN m) n=some none/\∀x:Int,DN m++[(.s k,.i .i64 x)]=DN (HA m k x)):=by
 induction m with
 | nil=>intro n;exact .inr ⟨rfl,rfl,λx=>rfl⟩
 | cons e m f=>
  intro n;have d:BE .str (.s k) (DN (e::m)) n=(match Fl .str (.s k) (.s e.1) with
   | some true=>some (some (n,.i .i64 e.2))
   | some false=>BE .str (.s k) (DN m) (n+1)
   | none=>none):=rfl
  have c:Fl .str (.s k) (.s e.1)=some (k==e.1):=rfl;rw[d,c];simp only[B0,HA];by_cases h:e.1=k
  .subst h;refine .inl ⟨0,e.2,by simp,by simp,λx=>by simp[DN]⟩
  .have b:(k==e.1)=false:=by simpa using Ao0 h
   have a:(e.1==k)=false:=by simpa using h
   rw[b,a];rcases f (n+1) with⟨i,v,h1,h2,h3⟩|⟨h1,h2,h3⟩
   .refine .inl ⟨i+1,v,by simpa using h1,?_,λx=>?_⟩
    .grind
    .have:=h3 x;show(DN (e::m)).modify (i+1) _=_;simp only[DN,Ao7,A2a,Ab7,Ab9] at this⊢;rw[this]
   .refine .inr ⟨by simpa using h1,by simpa using h2,λx=>?_⟩;have:=h3 x;simp only[DN,Ao7,AvC,Ab7,Ab9] at this⊢;rw[this]
def BV(tid mid:Id)(t:HI×Bool):Aq:=[(tid,.box (.agg [.arr mid,.b t.2])),(mid,.map (DN t.1))]
theorem Aki t (a:Aa) kind tid mid (d:tid≠mid) :
  Ak π O 33 [.ref tid 0,.s a,.i .i64 kind] (BV tid mid t) (.tup []) (BV tid mid (C9 t (a,kind))):=by
 have ⟨m,w⟩:=t;have f:(tid=mid)=False:=Ab8 d;have j:(mid=tid)=False:=Ab8 (Ao0 d);unfold C9 BV;refine Ac (vs:=[]) Are (by simp) (by intro i h;simp only[lk] at h⊢;split<;>simp_all) λn0 g=>?_;clear g;rcases Iw a m 0 with⟨i,v,h1,h2,h3⟩|⟨h1,h2,h3⟩
 .have k:=AjA O v kind;simp only[AzN] at h2;simp only[h1];generalize Lr v kind=C at *;have ⟨c,b⟩:=C;cases w
  all_goals
   skip;simp only[push_cast,seval,f,h2];repeat' (first|(first|(apply AL<;>intro _h)|refine Ab k ?_)<;>simp only[push_cast,seval,f,h2,h3]|intro _)
   all_goals (refine⟨_,Ag.refl,trivial,?_⟩;simp)
 .simp only[h1];simp only[push_cast,seval,f,h2,h3]
  repeat' (first|((apply AL<;>intro _h)<;>simp only[push_cast,seval,_h,f,j,h2,h3])|intro _)
  all_goals exact⟨_,Ag.refl,trivial,λi e h=>h⟩
theorem Zi{tid mid t a}(c:a≠tid)(d:a≠mid):∀q∈BV tid mid t,a≠q.1:=by intro q b;simp[BV] at b;grind
theorem NJ{tid mid t t' pre post}(a:∀p∈pre++post,p.1≠tid/\p.1≠mid):over (BV tid mid t) (BV tid mid t') (pre++(BV tid mid t++post))=BV tid mid t'++(pre++post):=by rw[<-Azs];exact Gw (λp hp q b=>Zi (a p (Axe _ hp)).1 (a p (Axe _ hp)).2 q b) (λp hp q b=>Zi (a p (Axf _ hp)).1 (a p (Axf _ hp)).2 q b)
theorem Ql{tid mid t t' a}{post:Aq}(b:∀p∈[a]++post,p.1≠tid/\p.1≠mid):over (BV tid mid t) (BV tid mid t') (a::(BV tid mid t++post))=BV tid mid t'++(a::post):=NJ (pre:=[a]) b
theorem ZE{tid mid t pre post}(b:∀p∈pre,p.1≠tid/\p.1≠mid):∀i e,lk (BV tid mid t) i=some e->lk (pre++(BV tid mid t++post)) i=some e:=by
 intro i e h;have d:i=tid\/i=mid:=by simp only[BV,lk] at h;grind
 induction pre with
 | nil=>show lk (BV tid mid t++post) i=some e;exact AK h
 | cons a pre f=>have ⟨ai,ae⟩:=a;have c:=b (ai,ae) (by simp);show(if ai=i then some ae else lk (pre++(BV tid mid t++post)) i)=some e;grind
theorem TR(cs:List AD)(tid mid a:Id)(X:AP)(t0:HI×Bool)(n0:Nat)(d e f:V)(Q:Exit->St->Prop)(y:tid≠mid)(C:a≠tid)(D:a≠mid)(G:tid.1<n0)(H:mid.1<n0)(I:a.1<n0)
  (w:∀x∈cs,∀t,Ak π O 14 [.ref tid 0,.sl (x.2.map Ad.enc)] (BV tid mid t) (.tup []) (BV tid mid ((Bj x.2).foldl C9 t)))(J:cs.length<=2^30)
  (o:∀n',n0<=n'->Q (.exit 2) ⟨[(0,.ref tid 0),(5,.ref a 0),(10,d),(11,e),(12,f),(29,.sl (cs.map AD.enc)),(30,.i .i64 cs.length),(31,.i .i64 cs.length),(32,.b false)],BV tid mid ((Dp cs).foldl C9 t0)++[(a,X)],n'⟩) :
  F8 π O 45 We Q ⟨[(0,.ref tid 0),(5,.ref a 0),(10,d),(11,e),(12,f),(29,.sl (cs.map AD.enc)),(30,.i .i64 cs.length),(31,.i .i64 0)],BV tid mid t0++[(a,X)],n0⟩:=by
 generalize hS:(Dp cs).foldl C9 t0=S at o;refine Aj cs.length (Inv:=λm st=>∃h g n t,cs=h++g/\m=g.length/\(Dp g).foldl C9 t=S/\n0<=n/\st=⟨[(0,.ref tid 0),(5,.ref a 0),(10,d),(11,e),(12,f),(29,.sl (cs.map AD.enc)),(30,.i .i64 cs.length),(31,.i .i64 h.length)],BV tid mid t++[(a,X)],n⟩) ⟨_,Ag.refl,[],cs,_,t0,rfl,rfl,hS,Ab6 _,rfl⟩ ?_;clear hS;rintro m _ ⟨h,g,n,t,l,rfl,k,K,rfl⟩;cases g with
 | nil=>simp only[Dp,A1d] at k;subst k;rw[l] at o⊢;simp only[At9] at o⊢;simp only[push_cast,rq];grind
 | cons c g=>
  have F:=A9 l;have r:c∈cs:=by rw[l];simp
  rw[G5,A1S] at k;have E:=w c r t;simp only[push_cast,rq,l];intro k2 k3;have s:∀j,((n+1+k2,j):Id)≠tid:=λj B=>by grind
  have u:∀j,((n+1+k2,j):Id)≠mid:=λj B=>by grind
  have z:∀Y:AP,∀p∈([((n+1+k2,9),Y)]:Aq),p.1≠tid/\p.1≠mid:=by grind
  have A:∀Y:AP,∀p∈([((n+1+k2,9),Y)]:Aq)++[(a,X)],p.1≠tid/\p.1≠mid:=by simp_all
  refine AX E (ZE (z _)) ?_;rw[Ql (A _)];simp only[push_cast,rq,Ae c (dn:=h) (by omega)];intros;refine⟨_,_,Ab4 _,Ag.sub ?_ (σ':=BV tid mid ((Bj c.2).foldl C9 t)++[(a,X)]) (λq L=>?_) (Ab6 _),h++[c],g,_,_,by simp,rfl,k,?_,rfl⟩
  .have v:((n+1+k2,9):Id)≠a:=λB=>by grind
   simp[BV,y,Ao0 C,Ao0 D,Ao0 (s 9),Ao0 (u 9),v]
  .simp at L⊢;grind
  .omega
theorem dU{tid mid t t' a}(b:a.1≠tid)(c:a.1≠mid):over (BV tid mid t) (BV tid mid t') (a::BV tid mid t)=BV tid mid t'++[a]:=by have:=Ql (t:=t) (t':=t') (a:=a) (post:=[]) (by intro p hp;simp at hp;subst hp;exact⟨b,c⟩);simpa using this
theorem sG{tid mid t a}(b:a.1≠tid)(c:a.1≠mid):∀i e,lk (BV tid mid t) i=some e->lk (a::BV tid mid t) i=some e:=by have:=ZE (t:=t) (pre:=[a]) (post:=[]) (by intro p hp;simp at hp;subst hp;exact⟨b,c⟩);simpa using this
theorem PS{tid mid t t' a}(b:a.1≠tid)(c:a.1≠mid):over (BV tid mid t) (BV tid mid t') (BV tid mid t++[a])=BV tid mid t'++[a]:=by have:=NJ (t:=t) (t':=t') (pre:=[]) (post:=[a]) (by intro p hp;simp at hp;subst hp;exact⟨b,c⟩);simpa using this
theorem Zk{tid mid a X}(b:a≠tid)(c:a≠mid) t:lk (BV tid mid t++[(a,X)]) a=some X:=by simp[BV,lk,Ao0 b,Ao0 c]
theorem Aek:∀(N:Nat) (ps:List Ad) (tid mid:Id) (t0:HI×Bool),A7 ps<N->A7 ps<=2^26->tid≠mid->
  Ak π O 14 [.ref tid 0,.sl (ps.map Ad.enc)] (BV tid mid t0) (.tup []) (BV tid mid ((Bj ps).foldl C9 t0)):=by
 intro N
 induction N with
 | zero=>intro ps tid mid t0 h;omega
 | succ N y=>
 intro ps tid mid t0 R T j;have E:=El ps;generalize hS:(Bj ps).foldl C9 t0=S;refine Ac (vs:=[]) Aul (by simp) (by intro i h;simp only[BV,lk] at h⊢;split<;>simp_all) λn0 r=>?_;have H:tid.1<n0:=r tid (.box (.agg [.arr mid,.b t0.2])) (by simp[BV,lk]);have I:mid.1<n0:=r mid (.map (DN t0.1)) (by simp[BV,lk,j]);clear r;simp only[push_cast,rq];intro k1;refine Aj ps.length (Inv:=λm st=>∃dn d n t,ps=dn++d/\m=d.length/\(Bj d).foldl C9 t=S/\n0<=n/\st=⟨[(0,.ref tid 0),(10,.sl (ps.map Ad.enc)),(11,.i .i64 ps.length),(12,.i .i64 dn.length)],BV tid mid t,n⟩) ⟨_,Ag.refl,[],ps,_,t0,rfl,rfl,hS,?_,rfl⟩ ?_
 .omega
 clear hS;rintro m _ ⟨dn,d,n,t,x,rfl,l,r,rfl⟩;cases d with
 | nil=>simp only[Bj,A1d] at l;subst l;simp only[push_cast,rq,x];intros;exact⟨_,Ag.refl,trivial,λi e h=>h⟩
 | cons p d=>
  have G:=A9 x;have L:=Fd (ps:=ps) (p:=p) (by rw[x];simp);have K:=p.wt_eq;have J:=Er p.cases;have k:=Aty O p.kind;rw[G3,p.uses_eq,A1S,A1S,A1S] at l;cases D:F4 p.kind with
  | false=>
   rw[D] at k l;simp only[Ab9,reduceCtorEq,A1d] at k l;simp only[push_cast,rq,x];repeat' (first|(first|((first|apply Ai|apply Am|apply Al)<;>intro _h)|refine Ab k ?_)<;>simp only[push_cast,rq]|intro _)
   rename_i F k3 k2 C M;have ⟨a,hxd⟩:∃a:Id,a=(n+1+F,5):=⟨_,rfl⟩
   have v:a.1<n+1+F+1:=by rw[hxd];simp
   have B:n<=a.1:=by grind
   have f:a≠tid:=by rintro rfl;omega
   have g:a≠mid:=by rintro rfl;omega
   rw[<-hxd];have ⟨X,hX⟩:∃X:AP,X=.box (.agg [V.i IntKind.i64 p.kind,V.s p.text,V.s p.name,V.s p.style,V.sl (List.map AD.enc p.cases),V.sl (List.map Ad.enc p.parts)]):=⟨_,rfl⟩
   have o:∀t,lk (BV tid mid t++[(a,X)]) a=some (.box (.agg [V.i IntKind.i64 p.kind,V.s p.text,V.s p.name,V.s p.style,V.sl (List.map AD.enc p.cases),V.sl (List.map Ad.enc p.parts)])):=λt=>by rw[Zk f g,hX]
   rw[<-hX];refine Fq (Ag.sub (σ':=BV tid mid t++[(a,X)]) (by simp[BV,j,f,g]) (λq U=>by grind) (Ab6 _)) ?_;refine Fq (Ag.refl) (TR O p.cases tid mid a X t _ _ _ _ _ j f g (by omega) (by omega) (by have:=v;omega) (λc w t=>y c.2 tid mid t (by have:=B7 w;omega) (by have:=B7 w;omega) j) (by omega) (λn' z=>?_));have u:=y p.parts tid mid ((Dp p.cases).foldl C9 t) (by omega) (by omega) j;simp only[push_cast,rq,o];intros;refine AX u (λi e h=>AK h) ?_;rw[PS f g];simp only[push_cast,rq,Ae p (dn:=dn) (by omega)];intros;exact⟨_,_,Ab4 _,Ag.pre (Ab6 _),dn++[p],d,_,_,by simp,rfl,l,by omega,rfl⟩
  | true=>
   rw[D] at k l;simp only[AbA,AyT,A1d] at k l;have A:=Aki O t p.name (EM p.kind) tid mid j;simp only[push_cast,rq,x];repeat' (first|(first|((first|apply Ai|apply Am|apply Al)<;>intro _h)|refine Ab k ?_)<;>simp only[push_cast,rq]|intro _)
   rename_i k3 k2 C M;have ⟨a,hxd⟩:∃a:Id,a=(n+1+k3,5):=⟨_,rfl⟩
   have v:a.1<n+1+k3+1:=by rw[hxd];simp
   have B:n<=a.1:=by grind
   have f:a≠tid:=by rintro rfl;omega
   have g:a≠mid:=by rintro rfl;omega
   rw[<-hxd];have ⟨X,hX⟩:∃X:AP,X=.box (.agg [V.i IntKind.i64 p.kind,V.s p.text,V.s p.name,V.s p.style,V.sl (List.map AD.enc p.cases),V.sl (List.map Ad.enc p.parts)]):=⟨_,rfl⟩
   have o:∀t,lk (BV tid mid t++[(a,X)]) a=some (.box (.agg [V.i IntKind.i64 p.kind,V.s p.text,V.s p.name,V.s p.style,V.sl (List.map AD.enc p.cases),V.sl (List.map Ad.enc p.parts)])):=λt=>by rw[Zk f g,hX]
   rw[<-hX];refine AX A (sG f g) ?_;rw[dU f g];simp only[push_cast,rq,o];intros;refine Fq (Ag.refl) (TR O p.cases tid mid a X (C9 t (p.name,EM p.kind)) _ _ _ _ _ j f g (by omega) (by omega) (by have:=v;omega) (λc w t=>y c.2 tid mid t (by have:=B7 w;omega) (by have:=B7 w;omega) j) (by omega) (λn' z=>?_));have u:=y p.parts tid mid ((Dp p.cases).foldl C9 (C9 t (p.name,EM p.kind))) (by omega) (by omega) j;simp only[push_cast,rq,o];intros;refine AX u (λi e h=>AK h) ?_;rw[PS f g];simp only[push_cast,rq,Ae p (dn:=dn) (by omega)];intros;exact⟨_,_,Ab4 _,Ag.pre (Ab6 _),dn++[p],d,_,_,by simp,rfl,l,by omega,rfl⟩
theorem qW y:Ak π O 269 [.i .i64 y] [] (.b (Ln y)) []:=by
 generalize hS:Ln y=S;unfold Ln at hS;refine Ac (vs:=[.b S]) Amr (by simp) (by simp) λn0 d=>?_;clear d;simp only[push_cast,seval];cases e:(y.tmod 4==0)<;>cases a:(y.tmod 100==0)<;>cases c:(y.tmod 400==0)
 all_goals simp only[e,a,c,bne,Azx,AzQ,A0e,A0j,A1r,A0T] at hS
 all_goals subst hS
 all_goals simp only[push_cast,seval,a,c,bne]
 all_goals (repeat' (first|(first|(apply AL<;>intro _h)|refine As (by omega) ?_)<;>simp only[push_cast,seval,_h,e,a,c,bne]|intro _))
 all_goals exact Kn
theorem Acv y:Ak π O 244 [.i .i64 y] [] (.i .i64 (ED y)) []:=by
 have h:=qW O y;generalize hS:ED y=S;unfold ED at hS;generalize Ln y=B at *;refine Ac (vs:=[.i .i64 S]) Am8 (by simp) (by simp) λn0 a=>?_;clear a;push_cast;cases B
 all_goals ((try simp only[AbA,Ab9,reduceCtorEq] at hS);subst hS)
 all_goals (try push_cast)
 all_goals (repeat' (first|((first|refine Ab (by exact h) ?_|refine As (by omega) ?_);(try push_cast))|intro _))
 all_goals (first|(refine Af ?_;simp[get];done)|(exact Gj;done)|skip)
theorem Am0 y (m:Nat)(f:1<=m)(b:m<=12):Ak π O 245 [.i .i64 y,.i .i64 m] [] (.i .i64 (J0 y m)) []:=by
 have h:=qW O y;generalize hS:J0 y m=S;unfold J0 at hS;generalize Ln y=B at *;have e:((m:Int)==2)=(m==2):=by grind
 have d:IntKind.i64.wrap ((m:Int)-1)=((m-1:Nat):Int):=by rw[wrap64 (by omega) (by omega)];omega
 have c:M0 (.aget 12 1 false) [.agg [.i .i64 31,.i .i64 28,.i .i64 31,.i .i64 30,.i .i64 31,.i .i64 30,.i .i64 31,.i .i64 31,.i .i64 30,.i .i64 31,.i .i64 30,.i .i64 31],.i .i64 ((m-1:Nat):Int)]=some (.i .i64 (AdL.getD (m-1) 0)):=by
  have:m=1\/m=2\/m=3\/m=4\/m=5\/m=6\/m=7\/m=8\/m=9\/m=10\/m=11\/m=12:=by omega
  rcases this with rfl|rfl|rfl|rfl|rfl|rfl|rfl|rfl|rfl|rfl|rfl|rfl<;>rfl
 refine Ac (vs:=[.i .i64 S]) AkI (by simp) (by simp) λn0 a=>?_;clear a;simp only[push_cast,seval,e];cases b:(m==2)<;>cases B
 all_goals simp only[b,AbA,Ab9,reduceCtorEq,AxA,AyN] at hS
 all_goals subst hS
 all_goals simp only[push_cast,seval,d,c]
 all_goals (repeat' (first|(first|(apply AL<;>intro _h)|refine Ab (by exact h) ?_|refine As (by omega) ?_)<;>simp only[push_cast,seval,d,c]|intro _))
 all_goals exact Kn
theorem fT d (a:EH d=true):Ak π O 209 [.i .i64 d] [] (.tup [.i .i64 (((d+25567).tmod 7).toNat:Nat),.i .i64 0]) []:=by
 unfold EH at a;simp only[AsZ,Azt] at a;have ⟨h1,h2⟩:=a;have c:¬d < -25567:=AvV h1;have e:¬d>84005:=AvV h2;have f:IntKind.i64.wrap (d-(-25567))=d+25567:=by rw[wrap64 (by omega) (by omega)];omega
 have g:(((d+25567).tmod 7).toNat:Int)=(d+25567).tmod 7:=by grind
 rw[g];refine Ac (vs:=[.i .i64 ((d+25567).tmod 7),.i .i64 0]) Aj2 (by simp) (by simp) λn0 b=>?_;clear b;simp only[push_cast,rq,h1,h2,f]
 (repeat' (first|(first|(apply AL<;>intro _h)|refine As (by omega) ?_)<;>simp only[push_cast,rq]|intro _))
 all_goals (exact Gj)
theorem qG c:Ak π O 249 [.i .u8 c.toNat] [] (.b (EL c)) []:=by
 generalize hS:EL c=S;unfold EL at hS;refine Ac (vs:=[.b S]) An2 (by simp) (by simp) λn0 g=>?_;clear g;simp only[push_cast,rq];cases a:decide ((c.toNat:Int)>=65)<;>cases d:decide ((c.toNat:Int)<=90)<;>cases e:decide ((c.toNat:Int)>=97)<;>cases f:decide ((c.toNat:Int)<=122)
 all_goals simp only[a,d,e,f,bq,AbA,Ab9,Int.reduceBEq,reduceCtorEq,A0e,A0j,A1r,A0T] at hS
 all_goals subst hS
 all_goals simp only[push_cast,rq,a,d,e,f]
 all_goals (repeat' (first|(first|(apply AL<;>intro _h)|refine As (by omega) ?_)<;>simp only[push_cast,rq,_h,a,d,e,f]|intro _))
 all_goals exact Kn
theorem I9 y:365<=ED y/\ED y<=366:=by unfold ED;split<;>omega
theorem aR y m (a:1<=m)(b:m<=12):28<=J0 y m/\J0 y m<=31:=by
 have:m=1\/m=2\/m=3\/m=4\/m=5\/m=6\/m=7\/m=8\/m=9\/m=10\/m=11\/m=12:=by omega
 unfold J0 AdL;rcases this with rfl|rfl|rfl|rfl|rfl|rfl|rfl|rfl|rfl|rfl|rfl|rfl<;>cases Ln y<;>simp
theorem eR:∀(n m:Nat) (y d:Int),d<=n->d<=m->Hx n y d=Hx m y d:=by
 intro n
 induction n with
 | zero=>
  intro m y d a b;have c:=I9 y;cases m with
  | zero=>rfl
  | succ m=>rw[Hx,Hx,AfL (by omega)]
 | succ n e=>
  intro m y d a b;have c:=I9 y;cases m with
  | zero=>grind
  | succ m=>rw[Hx,Hx];grind
theorem AdZ:∀(n:Nat) (y d:Int),0<=d->d<=n->y<=(Hx n y d).1/\(Hx n y d).1<=y+d/\0<=(Hx n y d).2/\(Hx n y d).2<ED (Hx n y d).1:=by
 intro n
 induction n with
 | zero=>intro y d f g;have h:=I9 y;rw[Hx];grind
 | succ n i=>
  intro y d f g;have h:=I9 y;rw[Hx];split
  .have ⟨a,b,c,e⟩:=i (y+1) (d-ED y) (by omega) (by omega);omega
  .simp only;omega
def Gy(y:Int):Nat->Nat->Int
 | 0,_=>0
 | n+1,m=>J0 y m+Gy y n (m+1)
theorem TI y:Gy y 12 1=ED y:=by unfold Gy Gy Gy Gy Gy Gy Gy Gy Gy Gy Gy Gy Gy;unfold ED J0 AdL;cases Ln y<;>simp
theorem Aej y:∀(n m) (d),n+m=13->1<=m->0<=d->d<Gy y n m->m<=(Pu y n m d).1/\(Pu y n m d).1<=12/\0<=(Pu y n m d).2/\(Pu y n m d).2<31:=by
 intro n
 induction n with
 | zero=>intro m d c b e a;simp[Gy] at a;omega
 | succ n g=>
  intro m d c b e a;have f:=aR y m b (by omega);rw[Gy] at a;rw[Pu];split
  .grind
  omega
theorem QZ{d}(f:EH d=true):1900<=(IY d).1/\(IY d).1<=120000/\1<=(GR d).1/\(GR d).1<=12/\0<=(GR d).2/\(GR d).2<31:=by unfold EH at f;simp only[AsZ,Azt] at f;have g:¬d < -25567:=AvV f.1;have h:¬d>84005:=AvV f.2;have ⟨a,b,c,e⟩:=AdZ (d+25567).toNat 1900 (d+25567) (by omega) (by omega);have i:IY d=Hx (d+25567).toNat 1900 (d+25567):=rfl;rw[<-i] at a b c e;have ⟨a2,b2,c2,e2⟩:=Aej (IY d).1 12 1 (IY d).2 rfl (by omega) c (by rw[TI];exact e);exact⟨a,by omega,a2,b2,c2,e2⟩
theorem Zc d (a:EH d=true):Ak π O 206 [.i .i64 d] [] (.tup [.i .i64 (IY d).1,.i .i64 (GR d).1,.i .i64 ((GR d).2+1),.i .i64 0]) []:=by
 have r:=a;have ⟨q1,q2,q3,q4,q5,q6⟩:=QZ r;unfold EH at a;simp only[AsZ,Azt] at a;have ⟨h1,h2⟩:=a;have C:¬d < -25567:=AvV h1;have D:¬d>84005:=AvV h2;have B:IntKind.i64.wrap (d-(-25567))=d+25567:=by rw[wrap64 (by omega) (by omega)];omega
 generalize o:IY d=Y at *;generalize E:GR d=M at *;have j:Hx (d+25567).toNat 1900 (d+25567)=Y:=o;have f:Pu Y.1 12 1 Y.2=M:=by rw[<-E];unfold GR;rw[o]
 refine Ac (vs:=[.i .i64 Y.1,.i .i64 M.1,.i .i64 (M.2+1),.i .i64 0]) zQ (by simp) (by simp) λn0 t=>?_;clear t;simp only[push_cast,rq,h1,h2,B]
 (repeat' (first|(first|(apply AL<;>intro _h)|refine As (by omega) ?_)<;>simp only[push_cast,rq,_h,h1,h2,B]|intro _))
 refine Aj (d+25567).toNat (Inv:=λm st=>∃n y x,m=x.toNat/\0<=x/\x<=120000/\1900<=y/\y+x<=130000/\Hx x.toNat y x=Y/\st=⟨[(2,.i .i64 y),(3,.i .i64 1),(4,.i .i64 x)],[],n⟩) ⟨_,Ag.refl,_,1900,d+25567,rfl,by omega,by omega,by omega,by omega,j,rfl⟩ ?_;rintro m _ ⟨n,y,x,rfl,v,w,H,I,a,rfl⟩;have p:=Acv O y;have z:=I9 y;by_cases c:x>=ED y
 .have e:decide (x>=ED y)=true:=by simpa using c
  have l:IntKind.i64.wrap (x-ED y)=x-ED y:=by rw[wrap64 (by omega) (by omega)]
  have u:IntKind.i64.wrap (y+1)=y+1:=by rw[wrap64 (by omega) (by omega)]
  simp only[push_cast,rq];repeat' (first|(first|(apply AL<;>intro _h)|refine Ab p ?_|refine As (by omega) ?_)<;>simp only[push_cast,rq,l,u,e]|intro _)
  refine⟨_,_,?_,Ag.refl,_,y+1,x-ED y,rfl,by omega,by omega,by omega,by omega,?_,rfl⟩
  .omega
  .rw[<-a];have ⟨q,hq⟩:∃q,x.toNat=q+1:=⟨x.toNat-1,by omega⟩
   rw[hq,Hx,Amm c];exact eR _ _ _ _ (by omega) (by omega)
 .have e:decide (x>=ED y)=false:=by simpa using c
  have g:Y=(y,x):=by
   rw[<-a];cases x.toNat with
   | zero=>rfl
   | succ q=>rw[Hx,AfL c]
  rw[g] at f;simp only[push_cast,rq];repeat' (first|(first|(apply AL<;>intro _h)|refine Ab p ?_|refine As (by omega) ?_)<;>simp only[push_cast,rq,e]|intro _)
  have b:x<Gy y 12 1:=by rw[TI];omega
  rename_i k;generalize n+1+k=G;refine Aj 12 (Inv:=λk st=>∃n m x,k+m=13/\1<=m/\0<=x/\x<Gy y k m/\x<=120000/\Pu y k m x=M/\st=⟨[(2,.i .i64 y),(3,.i .i64 (m:Nat)),(4,.i .i64 x)],[],n⟩) ⟨_,Ag.envD (env':=[(2,.i .i64 y),(3,.i .i64 (1:Nat)),(4,.i .i64 x)]) (λs=>?_) (Ab6 _),_,1,x,rfl,Ab6 _,v,b,w,f,rfl⟩ ?_
  .by_cases h:17=s
   .subst h;right;rfl
   .left;simp[get,h]
  rw[g];clear f b v w a e z p c g o j;rintro k _ ⟨n,m,x,F,m1,v,b,w,a,rfl⟩;cases k with
  | zero=>simp[Gy] at b;omega
  | succ k=>
   have A:=Am0 O y m m1 (by omega);have z:=aR y m m1 (by omega);rw[Gy] at b;rw[Pu] at a;by_cases c:x>=J0 y m
   .have e:decide (x>=J0 y m)=true:=by simpa using c
    have l:IntKind.i64.wrap (x-J0 y m)=x-J0 y m:=by rw[wrap64 (by omega) (by omega)]
    have u:IntKind.i64.wrap ((m:Int)+1)=((m+1:Nat):Int):=by rw[wrap64 (by omega) (by omega)];omega
    rw[Amm c] at a;simp only[push_cast,rq];repeat' (first|(first|(apply AL<;>intro _h)|refine Ab A ?_|refine As (by omega) ?_)<;>simp only[push_cast,rq,l,u,e]|intro _)
    exact⟨_,_,Ab4 _,Ag.refl,_,m+1,x-J0 y m,by omega,by omega,by omega,by omega,by omega,a,rfl⟩
   .have e:decide (x>=J0 y m)=false:=by simpa using c
    rw[AfL c] at a;subst a;have l:IntKind.i64.wrap (x+1)=x+1:=by rw[wrap64 (by omega) (by omega)]
    simp only[push_cast,rq];repeat' (first|(first|(apply AL<;>intro _h)|refine Ab A ?_|refine As (by omega) ?_)<;>simp only[push_cast,rq,l,e]|intro _)
    refine Ah ?_;simp[push_cast]
theorem Hs(d:Cu O)(n:Nat)(e:n<2^40):Ak π O 214 [.i .i64 n] [] (.s (JX n)) []/\(JX n).length<=21:=by
 have ⟨hi,hl⟩:=GC O d n (by omega);refine⟨?_,by unfold JX;split<;>(try simp only[An9])<;>omega⟩;generalize hS:JX n=S;unfold JX at hS;generalize Lib.decDigits n=D at *;have b:decide ((n:Int)<10)=decide (n<10):=by rw[Aym];simp;omega
 refine Ac (vs:=[.s S]) An4 (by simp) (by simp) λn0 c=>?_;clear c;push_cast[b];cases a:decide (n<10)
 .have:=AvV a;rw[AfL this] at hS;subst hS;push_cast[b,a];repeat' (first|(first|(apply AL<;>intro _h)|refine Ab hi ?_|refine As (by simp only <;>omega) ?_)<;>push_cast[_h,b,a]|intro _)
  exact Kn
 .have:=Awz a;rw[Amm this] at hS;subst hS;push_cast[b,a];repeat' (first|(first|(apply AL<;>intro _h)|refine Ab hi ?_|refine As (by simp only[AG]<;>omega) ?_)<;>push_cast[_h,b,a]|intro _)
  exact Kn
theorem TA d (a:EH d=false):Ak π O 206 [.i .i64 d] [] (.tup [.i .i64 0,.i .i64 0,.i .i64 0,.i .i64 2]) []:=by
 unfold EH at a;simp only[Ay9] at a;refine Ac (vs:=[.i .i64 0,.i .i64 0,.i .i64 0,.i .i64 2]) zQ (by simp) (by simp) λn0 c=>?_;clear c;simp only[push_cast,rq];cases e:decide (d < -25567)<;>cases b:decide (d>84005)
 .rw[e,b] at a;cases a
 all_goals simp only[push_cast,rq,b]
 all_goals (repeat' (first|(first|(apply AL<;>intro _h)|refine As (by omega) ?_)<;>simp only[push_cast,rq,_h,e,b]|intro _))
 all_goals (exact Gj)
theorem NO(e:Cu O) d:Ak π O 165 [.i .i64 d] [] (.s (En d)) []/\(En d).length<=100:=by
 cases b:EH d with
 | false=>
  have c:=TA O d b;have hS:En d=[]:=by unfold En;rw[b];rfl
  rw[hS];refine⟨?_,by simp⟩;refine Ac (vs:=[.s []]) iN (by simp) (by simp) λn0 a=>?_;clear a;push_cast;repeat' (first|(first|(apply AL<;>intro _h)|refine Ab c ?_|refine As (by simp only <;>omega) ?_)<;>push_cast[_h]|intro _)
  exact Kn
 | true=>
  have ⟨q1,q2,q3,q4,q5,q6⟩:=QZ b;have c:=Zc O d b;have ⟨y,hy⟩:∃y:Nat,(IY d).1=y:=⟨(IY d).1.toNat,by omega⟩
  have ⟨x,hx⟩:∃x:Nat,(GR d).2+1=x:=⟨((GR d).2+1).toNat,by omega⟩
  have hS:En d=Lib.decDigits y++[45]++JX (GR d).1++[45]++JX x:=by unfold En;rw[b,hy,hx];simp
  rw[hy,hx] at c;have ⟨c1,l1⟩:=GC O e y (by omega);have ⟨c2,l2⟩:=Hs O e (GR d).1 (by omega);have ⟨c3,l3⟩:=Hs O e x (by omega);rw[hS];generalize Lib.decDigits y=f at *;generalize JX (GR d).1=g at *;generalize JX x=h at *;refine⟨?_,by simp;omega⟩;refine Ac (vs:=[.s (f++[45]++g++[45]++h)]) iN (by simp) (by simp) λn0 a=>?_;clear a;push_cast;repeat' (first|(first|(apply AL<;>intro _h)|refine Ab c ?_|refine Ab c1 ?_|refine Ab c2 ?_|refine Ab c3 ?_|refine As (by simp only[Ajd,An9,AtX,AG]<;>omega) ?_)<;>push_cast[_h]|intro _)
  exact Kn
def lY:List Aa:=[[],[121]]
def lM:List Aa:=[[],[77]]
def lE:List Aa:=[[],[69]]
def lD:List Aa:=[[],[100]]
theorem Nf{l d:List Aa}(h:l=d++[])(a:l.length=2):decide ((d.length:Int)<2)=false:=by grind
theorem Le{l d r}{y:Aa}(h:l=d++y::r)(b:l.length=2):decide ((d.length:Int)<2)=true/\(l.map V.s)[d.length]?=some (.s y)/\IntKind.i64.wrap ((d.length:Int)+1)=((d++[y]).length:Int)/\y∈l:=by have a:=A9 h;refine⟨by simp;omega,by rw[h];simp,Ae y (by omega),by rw[h];simp⟩
theorem ArB(p:Aa)(hp:p.length<=2^20):Ak π O 208 [.s p] [] (.b (cM p)) []:=by
 generalize hS:cM p=S;have hS:lY.any (λy=>lM.any λm=>lE.any λe=>lD.any λd=>EB (y++m++e++d) p)=S:=hS;have C:∀y∈lY,y.length<=1:=by decide
 have A:∀y∈lM,y.length<=1:=by decide
 have le:∀y∈lE,y.length<=1:=by decide
 have F:∀y∈lD,y.length<=1:=by decide
 refine Ac (vs:=[.b S]) AnB (by simp) (by simp) λn0 D=>?_;clear D;simp only[push_cast,rq]
 repeat' (first|(((first|apply Ai|apply Am|apply Al)<;>intro _h)<;>simp only[push_cast,rq,_h])|(refine As (by omega) ?_;simp only[push_cast,rq])|intro _)
 refine Aj 2 (Inv:=λk st=>∃o h n,lY=o++h/\k=h.length/\(h.any (λy=>lM.any λm=>lE.any λe=>lD.any λd=>EB (y++m++e++d) p))=S/\st=⟨[(0,.s p),(11,.sl (lY.map V.s)),(12,.i .i64 2),(13,.i .i64 (o.length:Nat))],[],n⟩) ⟨_,Ag.refl,[],lY,_,rfl,rfl,hS,rfl⟩ ?_;clear hS;rintro _ _ ⟨o,h,G,q,rfl,c,rfl⟩;rcases h with _|⟨y,h⟩
 .have q1:=Nf q rfl;simp only[List.any_nil] at c;subst c;simp only[push_cast,rq,q1];intros;exact Af (by simp[get])
 have ⟨a11,a12,a13,a14⟩:=Le q rfl;rw[A1U] at c;simp only[push_cast,rq,a11,a12];intros;refine Aj 2 (Inv:=λk st=>∃w j n,lM=w++j/\k=j.length/\(j.any (λm=>lE.any λe=>lD.any λd=>EB (y++m++e++d) p)||h.any (λy=>lM.any λm=>lE.any λe=>lD.any λd=>EB (y++m++e++d) p))=S/\st=⟨[(0,.s p),(4,.s y),(11,.sl (lY.map V.s)),(12,.i .i64 2),(13,.i .i64 (o.length:Nat)),(17,.sl (lM.map V.s)),(18,.i .i64 2),(19,.i .i64 (w.length:Nat))],[],n⟩) ⟨_,Ag.refl,[],lM,_,rfl,rfl,c,rfl⟩ ?_;clear c;rintro _ _ ⟨w,j,H,r,rfl,f,rfl⟩;rcases j with _|⟨m,j⟩
 .have q1:=Nf r rfl;simp only[List.any_nil,A0Q] at f;simp only[push_cast,rq,q1,a13];intros;exact⟨_,_,Ab4 _,Ag.refl,o++[y],h,_,by rw[q];simp,rfl,f,rfl⟩
 have ⟨a21,a22,a23,a24⟩:=Le r rfl;rw[A1U] at f;simp only[push_cast,rq,a21,a22];intros;refine Aj 2 (Inv:=λk st=>∃x l n,lE=x++l/\k=l.length/\(l.any (λe=>lD.any λd=>EB (y++m++e++d) p)||j.any (λm=>lE.any λe=>lD.any λd=>EB (y++m++e++d) p)||h.any (λy=>lM.any λm=>lE.any λe=>lD.any λd=>EB (y++m++e++d) p))=S/\st=⟨[(0,.s p),(4,.s y),(6,.s m),(11,.sl (lY.map V.s)),(12,.i .i64 2),(13,.i .i64 (o.length:Nat)),(17,.sl (lM.map V.s)),(18,.i .i64 2),(19,.i .i64 (w.length:Nat)),(23,.sl (lE.map V.s)),(24,.i .i64 2),(25,.i .i64 (x.length:Nat))],[],n⟩) ⟨_,Ag.refl,[],lE,_,rfl,rfl,f,rfl⟩ ?_;clear f;rintro _ _ ⟨x,l,I,t,rfl,g,rfl⟩;rcases l with _|⟨e,l⟩
 .have q1:=Nf t rfl;simp only[List.any_nil,A0Q] at g;simp only[push_cast,rq,q1,a23];intros;exact⟨_,_,Ab4 _,Ag.refl,w++[m],j,_,by rw[r];simp,rfl,g,rfl⟩
 have ⟨a31,a32,a33,a34⟩:=Le t rfl;rw[A1U] at g;simp only[push_cast,rq,a31,a32];intros;refine Aj 2 (Inv:=λk st=>∃z v n,lD=z++v/\k=v.length/\(v.any (λd=>EB (y++m++e++d) p)||l.any (λe=>lD.any λd=>EB (y++m++e++d) p)||j.any (λm=>lE.any λe=>lD.any λd=>EB (y++m++e++d) p)||h.any (λy=>lM.any λm=>lE.any λe=>lD.any λd=>EB (y++m++e++d) p))=S/\st=⟨[(0,.s p),(4,.s y),(6,.s m),(8,.s e),(11,.sl (lY.map V.s)),(12,.i .i64 2),(13,.i .i64 (o.length:Nat)),(17,.sl (lM.map V.s)),(18,.i .i64 2),(19,.i .i64 (w.length:Nat)),(23,.sl (lE.map V.s)),(24,.i .i64 2),(25,.i .i64 (x.length:Nat)),(29,.sl (lD.map V.s)),(30,.i .i64 2),(31,.i .i64 (z.length:Nat))],[],n⟩) ⟨_,Ag.refl,[],lD,_,rfl,rfl,g,rfl⟩ ?_;clear g;rintro _ _ ⟨z,v,J,u,rfl,a,rfl⟩;rcases v with _|⟨d,v⟩
 .have q1:=Nf u rfl;simp only[List.any_nil,A0Q] at a;simp only[push_cast,rq,q1,a33];intros;exact⟨_,_,Ab4 _,Ag.refl,x++[e],l,_,by rw[t];simp,rfl,a,rfl⟩
 have ⟨a41,a42,a43,a44⟩:=Le u rfl;rw[A1U] at a;have E:=Afk O (y++m++e++d) p (by have:=C y a14;have:=A m a24;have:=le e a34;have:=F d a44;simp;omega) hp;generalize EB (y++m++e++d) p=B at *;have k1:(y.length+m.length<=AG)=True:=Arp (by have:=C y a14;have:=A m a24;unfold AG;omega);have k2:((y++m).length+e.length<=AG)=True:=Arp (by have:=C y a14;have:=A m a24;have:=le e a34;unfold AG;simp;omega);have k3:((y++m++e).length+d.length<=AG)=True:=Arp (by have:=C y a14;have:=A m a24;have:=le e a34;have:=F d a44;unfold AG;simp;omega);cases B
 .simp only[A0Q] at a;simp only[push_cast,rq,a41,a42,k1,k2,k3];repeat' (first|(first|((first|apply Ai|apply Am|apply Al)<;>intro _h)|refine Ab E ?_|refine As (by omega) ?_)<;>simp only[push_cast,rq,a43]|intro _)
  exact⟨_,_,Ab4 _,Ag.refl,z++[d],v,_,by rw[u];simp,rfl,a,rfl⟩
 .simp only[Bool.true_or] at a;subst a;simp only[push_cast,rq,a41,a42,k1,k2,k3];repeat' (first|(first|((first|apply Ai|apply Am|apply Al)<;>intro _h)|refine Ab E ?_|refine As (by omega) ?_)<;>simp only[push_cast,rq]|intro _)
  exact Af (by simp[get])
theorem Abb(q:Cu O) x (f:Aa)(e:x.y<2^40)(a:1<=x.m/\x.m<=12)(b:x.d<2^40)(c:x.wd<7) :
  Ak π O 250 [.agg [.s x.L.tag,.s x.L.parent,.s x.L.dir,.sl (x.L.card.map A8.enc),.sl (x.L.ord.map A8.enc),.s x.L.dec,.s x.L.grp,.s x.L.minus,.s x.L.perc,.i .i64 x.L.prim,.i .i64 x.L.sec,.sl (x.L.lists.map Ed.enc),.sl (x.L.units.map Fv.enc),.sl (x.L.dates.map E4.enc),.sl (x.L.months.map V.s),.sl (x.L.days.map V.s),.i .i64 x.y,.i .i64 x.m,.i .i64 x.d,.i .i64 x.wd],.s f] [] (.tup [.s (GY x f).1,.i .i64 (GY x f).2]) []:=by
 have ⟨c1,l1⟩:=GC O q x.y (by omega);have ⟨c2,l2⟩:=GC O q x.m (by omega);have ⟨c3,l3⟩:=GC O q x.d (by omega);have ⟨c4,l4⟩:=Hs O q x.m (by omega);have ⟨c5,l5⟩:=Hs O q x.d (by omega);generalize hS:GY x f=S;unfold GY at hS;have k:IntKind.i64.wrap ((x.m:Int)-1)=((x.m-1:Nat):Int):=by rw[wrap64 (by omega) (by omega)];omega
 have o:x.L.months.length=12->(x.L.months.map V.s)[x.m-1]?=some (.s (x.L.months.getD (x.m-1) [])):=λh=>by grind
 have p:x.L.days.length=7->(x.L.days.map V.s)[x.wd]?=some (.s (x.L.days.getD x.wd [])):=λh=>by grind
 generalize Lib.decDigits x.y=u at *;generalize Lib.decDigits x.m=v at *;generalize Lib.decDigits x.d=w at *;generalize JX x.m=z at *;generalize JX x.d=A at *;refine Ac (vs:=[.s S.1,.i .i64 S.2]) AmY (by simp) (by simp) λn0 t=>?_;clear t;simp only[push_cast,rq];cases e:(f==([121]:Aa)) with
 | true=>
  simp only[e,AbA] at hS;subst hS;simp only[push_cast];repeat' (first|(first|(apply AL<;>intro _h)|refine Ab c1 ?_|refine As (by omega) ?_)<;>simp only[push_cast,rq]|intro _)
  refine Ah ?_;simp[push_cast]
 | false=>
 cases a:(f==([77]:Aa)) with
 | true=>
  simp only[e,a,AbA,Ab9,reduceCtorEq] at hS;subst hS;simp only[push_cast,rq,a];repeat' (first|(first|(apply AL<;>intro _h)|refine Ab c2 ?_|refine As (by omega) ?_)<;>simp only[push_cast,rq]|intro _)
  refine Ah ?_;simp[push_cast]
 | false=>
 cases b:(f==([77,77]:Aa)) with
 | true=>
  simp only[e,a,b,AbA,Ab9,reduceCtorEq] at hS;subst hS;simp only[push_cast,rq,a,b];repeat' (first|(first|(apply AL<;>intro _h)|refine Ab c4 ?_|refine As (by omega) ?_)<;>simp only[push_cast,rq]|intro _)
  refine Ah ?_;simp[push_cast]
 | false=>
 cases c:(f==([77,77,77]:Aa)) with
 | true=>
  cases g:((x.L.months.length:Int)==12) with
  | true=>
   have l:x.L.months.length=12:=by grind
   have o:=o l;simp only[e,a,b,c,g,bne,AbA,Ab9,reduceCtorEq,Azx] at hS;subst hS;simp only[push_cast,rq,k,bne,a,b,c,g]
   repeat' (first|((apply AL<;>intro _h)<;>simp only[push_cast,rq,_h,k,bne,e,a,b,c,g,o])|(refine As (by omega) ?_;simp only[push_cast,rq,k,bne,e,a,b,c,g,o])|intro _)
   simp only[push_cast,rq,o];intros;refine Ah ?_;simp[push_cast]
  | false=>
   simp only[e,a,b,c,g,bne,AbA,Ab9,reduceCtorEq,AzQ] at hS;subst hS;simp only[push_cast,rq,bne,a,b,c,g]
   repeat' (first|((apply AL<;>intro _h)<;>simp only[push_cast,rq,_h,k,bne,e,a,b,c,g])|(refine As (by omega) ?_;simp only[push_cast,rq,k,bne,e,a,b,c,g])|intro _)
   refine Ah ?_;simp[push_cast]
 | false=>
 cases j:(f==([69]:Aa)) with
 | true=>
  cases g:((x.L.days.length:Int)==7) with
  | true=>
   have l:x.L.days.length=7:=by grind
   have p:=p l;simp only[e,a,b,c,j,g,bne,AbA,Ab9,reduceCtorEq,Azx] at hS;subst hS;simp only[push_cast,rq,bne,a,b,c,j,g]
   repeat' (first|((apply AL<;>intro _h)<;>simp only[push_cast,rq,_h,k,bne,e,a,b,c,j,g,p])|(refine As (by omega) ?_;simp only[push_cast,rq,k,bne,e,a,b,c,j,g,p])|intro _)
   simp only[push_cast,rq,p];intros;refine Ah ?_;simp[push_cast]
  | false=>
   simp only[e,a,b,c,j,g,bne,AbA,Ab9,reduceCtorEq,AzQ] at hS;subst hS;simp only[push_cast,rq,bne,a,b,c,j,g]
   repeat' (first|((apply AL<;>intro _h)<;>simp only[push_cast,rq,_h,k,bne,e,a,b,c,j,g])|(refine As (by omega) ?_;simp only[push_cast,rq,k,bne,e,a,b,c,j,g])|intro _)
   refine Ah ?_;simp[push_cast]
 | false=>
 cases r:(f==([100]:Aa)) with
 | true=>
  simp only[e,a,b,c,j,r,AbA,Ab9,reduceCtorEq] at hS;subst hS;simp only[push_cast,rq,a,b,c,j,r];repeat' (first|(first|(apply AL<;>intro _h)|refine Ab c3 ?_|refine As (by omega) ?_)<;>simp only[push_cast,rq]|intro _)
  refine Ah ?_;simp[push_cast]
 | false=>
  simp only[e,a,b,c,j,r,Ab9,reduceCtorEq] at hS;subst hS;simp only[push_cast,rq,a,b,c,j,r];repeat' (first|(first|(apply AL<;>intro _h)|refine Ab c5 ?_|refine As (by omega) ?_)<;>simp only[push_cast,rq]|intro _)
  refine Ah ?_;simp[push_cast]
theorem Gb σ σo:over σ σo σ=σo:=by have:=Fs (σi:=σ) (σo:=σo) (pre:=[]) (λp hp=>by cases hp);simpa using this
theorem lS σo σ:over [] σo σ=σo++σ:=by unfold over;congr 1;rw[A1E];intro p _;rfl
theorem KN{P O f args v}(h:Ak P O f args [] v []):FK P O f args [] (λn n' u σ'=>u=v/\σ'=[]) where
 callable:=h.callable
 run:=λn w μ H a hp m=>(h.run n w μ H a hp m).mono λe w' ⟨val,b,c,n',d,g,i,j,k,l⟩=>⟨val,b,c,n',v,[],d,⟨rfl,rfl⟩,g,i,j,k,l⟩
theorem YW a (e:a.length<=2^30)(h:CW a=none):Ak π O 246 [.s a] [] (.tup [.nm,.b false]) []:=by
 have c:=Oz O a e;rw[h] at c;simp only[Iy,S9,AyQ,Ab7,Ab9] at c;refine Ac (vs:=[.nm,.b false]) z7 (by simp) (by simp) λn0 d=>?_;clear d;simp only[push_cast,seval];repeat' (first|(first|(apply AL<;>intro _h)|refine Ab c ?_|refine As (by omega) ?_)<;>simp only[push_cast,seval]|intro _)
 refine Ah ?_;simp[push_cast]
def AiJ(m:HI)(n n':Nat)(v:V)(σ':Aq):Prop:=∃mid:Id,n<=mid.1/\mid.1<n'/\v=.tup [.arr mid,.b true]/\σ'=[(mid,.map (DN m))]
theorem sV g l (x:g.length<=2^30)(h:CW g=some l):FK π O 246 [.s g] [] (AiJ (Gn l)):=by
 have k:=Oz O g x;rw[h] at k;simp only[Iy,S9,AwY,AbA] at k;have ⟨_,hl4,hl1⟩:=HX h;generalize hS:Gn l=S;unfold Gn at hS;generalize t:AiJ S=R;refine C7 z7 (by simp) λn0 o=>?_;clear o;simp only[push_cast,seval];repeat' (first|(first|(apply AL<;>intro _h)|refine Ab k ?_|refine As (by omega) ?_)<;>simp only[push_cast,seval]|intro _)
 rename_i k1 k2 k3 q r;generalize p:((n0+1+k1+1+k2+1+k3,16):Id)=mid;have w:n0<=mid.1:=by grind
 have e:mid.1<n0+1+k1+1+k2+1+k3+1+q+1+r:=by grind
 generalize n0+1+k1+1+k2+1+k3+1+q+1+r=z at *;refine Aj l.length (Inv:=λm st=>∃dn a n M,l=dn++a/\m=a.length/\a.foldl (λm f=>HA m (f.take 1) f.length) M=S/\mid.1<n/\st=⟨[(6,.arr mid),(17,.sl (l.map V.s)),(18,.i .i64 l.length),(19,.i .i64 dn.length)],[(mid,.map (DN M))],n⟩) ⟨_,Ag.refl,[],l,_,[],rfl,rfl,hS,e,rfl⟩ ?_;clear hS e;rintro m _ ⟨dn,a,n,M,c,rfl,d,y,rfl⟩;cases a with
 | nil=>simp only[A1d] at d;subst d;simp only[push_cast,seval,c];intros;subst t;exact⟨_,Ag.refl,[.arr mid,.b true],_,⟨rfl,rfl,trivial⟩,λ_ _ h=>h,mid,by omega,by simp only;omega,rfl,rfl⟩
 | cons f a=>
  have u:=A9 c;have j:(1<=f.length)=True:=Arp (hl1 f (by rw[c];simp));rw[AyT] at d;rcases Iw (f.take 1) M 0 with⟨i,v,h1,h2,h3⟩|⟨h1,h2,h3⟩
  .simp only[AzN] at h2;simp only[push_cast,seval,c,Ae f (dn:=dn) (by omega),j,h2,h3]
   (repeat' (first|(first|(apply AL<;>intro _h)|refine As (by omega) ?_)<;>simp only[push_cast,seval,_h,c,Ae f (dn:=dn) (by omega),j,h2,h3]|intro _))
   exact⟨_,_,Ab4 _,Ag.refl,dn++[f],a,_,_,by simp,rfl,d,by omega,rfl⟩
  .skip;simp only[push_cast,seval,c,Ae f (dn:=dn) (by omega),j,h2,h3]
   (repeat' (first|(first|(apply AL<;>intro _h)|refine As (by omega) ?_)<;>simp only[push_cast,seval,_h,c,Ae f (dn:=dn) (by omega),j,h2,h3]|intro _))
   exact⟨_,_,Ab4 _,Ag.refl,dn++[f],a,_,_,by simp,rfl,d,by omega,rfl⟩
def HT(f:Nat->Int):List Nat->Int
 | []=>0
 | i::l=>f i+HT f l
theorem Od f:∀(l) (i),i∈l->HT f l=f i+HT f (l.erase i)
 | [],i,h=>by cases h
 | x::l,i,h=>by
  by_cases a:x=i
  .subst a;simp[HT]
  .have:i∈l:=by grind
   rw[List.erase_cons_tail (by simpa using a),HT,HT,Od f l i this];omega
theorem Oj f:∀(l) (i),HT f (l++[i])=HT f l+f i
 | [],i=>by simp[HT]
 | x::l,i=>by rw[AvC,HT,HT,Oj f l i];omega
theorem KY:∀(n) (l:List Nat),l.Nodup->(∀i∈l,i<n)->l.length<=n
 | 0,l,_,h=>by
  cases l with
  | nil=>simp
  | cons x l=>exact absurd (h x (by simp)) (by omega)
 | n+1,l,a,h=>by
  by_cases c:n∈l
  .have:=KY n (l.erase n) (a.erase n) λi b=>by
    grind
   grind
  .have:=KY n l a λi b=>by
    grind
   omega
theorem Tw f:∀(n) (l),l.Nodup->(∀i∈l,i<n)->(∀i,i<n->i∈l)->HT f l=HT f (List.range n)
 | 0,l,_,h,_=>by
  cases l with
  | nil=>rfl
  | cons x l=>exact absurd (h x (by simp)) (by omega)
 | n+1,l,c,h,b=>by
  rw[List.range_succ,Oj,Od f l n (b n (by omega))];have:=Tw f n (l.erase n) (c.erase n) (λi a=>by
    have e:=h i (List.mem_of_mem_erase a);have g:i≠n:=λd=>by rw[d] at a;exact(List.Nodup.not_mem_erase c) a
    omega) (λi a=>(List.mem_erase_of_ne (by omega)).2 (b i (by omega)))
  omega
theorem VD g:∀(a:HI),HT (λi=>match a[i]? with|some e=>g e|none=>0) (List.range a.length)=(a.map g).sum:=by
 have key:∀(a b:HI),HT (λi=>match(b++a)[i]? with|some e=>g e|none=>0) ((List.range a.length).map (· + b.length))=(a.map g).sum:=by
  intro a
  induction a with
  | nil=>intro b;rfl
  | cons e a d=>
   intro b;rw[An9,List.range_succ_eq_map,Ao7,HT,Ao7,List.sum_cons];have c:(b++e::a)[0+b.length]?=some e:=by simp
   rw[c];simp only[A2i];have:=d (b++[e]);simp only[Azs,A1Z,Ajd,An9,AtX] at this;rw[<-this];congr 2;apply A0v;grind
 intro a;simpa using key a []
def wtE(b:HI)(e:Aa×Int):Int:=max (e.2-(B0 b e.1).getD 0) ((B0 b e.1).getD 0-e.2)
theorem Alq{b}(a:∀e∈b,0<=e.2/\e.2<=2^30){e:Aa×Int}(c:0<=e.2/\e.2<=2^30):0<=(B0 b e.1).getD 0/\(B0 b e.1).getD 0<=2^30:=by
 have:∀(b:HI),(∀e∈b,0<=e.2/\e.2<=2^30)->0<=(B0 b e.1).getD 0/\(B0 b e.1).getD 0<=2^30:=by
  intro b
  induction b with
  | nil=>intro _;simp[B0]
  | cons x b d=>intro h;rw[B0];grind
 exact this b a
theorem vW(a b:HI):(a.map λe=>max (e.2-(B0 b e.1).getD 0) ((B0 b e.1).getD 0-e.2)).sum=HT (λi=>match a[i]? with|some e=>wtE b e|none=>0) (List.range a.length):=(VD (wtE b) a).symm
theorem Anx a b c bid (C:c≠bid)(X:∀e∈a,0<=e.2/\e.2<=2^30)(Y:∀e∈b,0<=e.2/\e.2<=2^30)(aa:a.length<=2^20) :
  Ak π O 247 [.arr c,.arr bid] [(c,.map (DN a)),(bid,.map (DN b))] (.tup [.i .i64 (M3 a b).1,.b (M3 a b).2]) [(c,.map (DN a)),(bid,.map (DN b))]:=by
 have r:(DN a).length=a.length:=by simp[DN]
 have z:(DN b).length=b.length:=by simp[DN]
 have f:(c=bid)=False:=Ab8 C;have g:(bid=c)=False:=Ab8 (Ao0 C);generalize hS:M3 a b=S;unfold M3 at hS;rw[vW] at hS;refine Ac (vs:=[.i .i64 S.1,.b S.2]) AmW (by simp) (λ_ h=>h) λn0 A=>?_;have h1:c.1<n0:=A c _ (by simp[lk];rfl);have h2:bid.1<n0:=A bid _ (by simp[lk,C];rfl);clear A;simp only[push_cast,seval,rq,f,g];intros;rename_i k1 k2 k3;generalize W:((n0+1+k1+1+k2,12):Id)=mid;have G:mid≠c:=λt=>by grind
 have H:mid≠bid:=λt=>by grind
 have l:(mid=c)=False:=Ab8 G;have p:(mid=bid)=False:=Ab8 H;have q:(c=mid)=False:=Ab8 (Ao0 G);have f6:(bid=mid)=False:=Ab8 (Ao0 H);refine Aj a.length (Inv:=λm st=>∃seen n x,m+seen.length=a.length/\seen.Nodup/\(∀i∈seen,i<a.length)/\(∀i e,i∈seen->a[i]?=some e->(B0 b e.1).isSome=true)/\x=HT (λi=>match a[i]? with|some e=>wtE b e|none=>0) seen/\0<=x/\x<=seen.length*2^30/\st=⟨[(0,.arr c),(1,.arr bid),(6,.i .i64 x),(12,.arr mid)],[(mid,.mit c (DN a).length seen (DN a).length),(c,.map (DN a)),(bid,.map (DN b))],n⟩) ⟨_,Ag.refl,[],_,0,rfl,A1O,(by simp),(by simp),rfl,(by omega),(by simp),rfl⟩ ?_;rintro m _ ⟨seen,n,x,hm,B,D,N,R,x1,x2,rfl⟩;have ac:=KY _ _ B D;simp only[push_cast,seval,rq,f,g];refine X4 (id:=mid) (mid:=c) (es:=DN a) (seen:=seen) rfl (by simp[lk]) (by simp[lk,l]) (by simp) (by simp) (λi kv o ab=>?_) (λk=>?_)
 .obtain⟨e,t,rfl⟩:∃e,a[i]?=some e/\kv=(.s e.1,.i .i64 e.2):=by
   unfold DN at o;grind
  have Z:i<a.length:=(Ao5.1 t).1;have L:=X e (Ao6 t);have d:(seen++[i]).getLast?=some i:=by simp
  have u:(seen++[i]).Nodup:=by rw[A0n];exact⟨B,by simp,λx R y hy=>by grind⟩
  have w:∀j∈seen++[i],j<a.length:=by
   intro j M;rcases AfJ.1 M with h|h
   .exact D j h
   .simp at h;omega
  have I:=KY _ _ u w;rw[Ajd,An9,AtX] at I;rcases Iw e.1 b 0 with⟨j,v,g1,g2,g3⟩|⟨g1,g2,g3⟩
  .have F:=Alq Y L;rw[g1] at F;simp only[Option.getD_some] at F;simp only[AzN] at g2;have T:IntKind.i64.wrap (e.2-v)=e.2-v:=by rw[wrap64 (by omega) (by omega)]
   have U:IntKind.i64.wrap (v-e.2)=v-e.2:=by rw[wrap64 (by omega) (by omega)]
   have V:IntKind.i64.wrap (x+max (e.2-v) (v-e.2))=x+max (e.2-v) (v-e.2):=by have:(seen.length:Int)*2^30<=2^20*2^30:=A10 (by omega) (by omega);rw[wrap64 (by omega) (by omega)]
   have hw:wtE b e=max (e.2-v) (v-e.2):=by unfold wtE;rw[g1];rfl
   simp only[push_cast,seval,rq,d,o,f,g,l,p,q,f6,g2,T,U,V]
   repeat' (first|(((first|apply Ai|apply Am|apply Al)<;>intro _h)<;>simp only[push_cast,seval,rq,_h,d,o,f,g,l,p,q,f6,g2,T,U,V])|(refine As (by omega) ?_;simp only[push_cast,seval,rq,d,o,f,g,l,p,q,f6,g2,T,U,V])|intro _)
   refine⟨a.length-(seen.length+1),_,by omega,Ag.refl,seen++[i],_,x+max (e.2-v) (v-e.2),by simp;omega,u,w,?_,?_,by omega,?_,rfl⟩
   .intro j e' M K;rcases AfJ.1 M with h|h
    .exact N j e' h K
    .simp at h;grind
   .rw[Oj,<-R,t];simp only[hw]
   .simp only[Ajd,An9,AtX];omega
  .have k:(a.all λe=>(B0 b e.1).isSome)=false:=by
    rw[List.all_eq_false];exact⟨e,Ao6 t,by rw[g1];simp⟩
   rw[k] at hS;simp only[Ab7,Ab9] at hS;subst hS;simp only[push_cast,seval,rq,d,o,f,g,l,p,q,f6,g2]
   repeat' (first|(((first|apply Ai|apply Am|apply Al)<;>intro _h)<;>simp only[push_cast,seval,rq,_h,d,o,f,g,l,p,q,f6,g2])|(refine As (by omega) ?_;simp only[push_cast,seval,rq,d,o,f,g,l,p,q,f6,g2])|intro _)
   exact⟨_,Ag.refl,⟨rfl,rfl,trivial⟩,λi e h=>by
    simp only[lk] at h⊢;split at h
    .grind
    .rename_i h0;split at h
     .grind
     .cases h⟩
 .have J:x=HT (λi=>match a[i]? with|some e=>wtE b e|none=>0) (List.range a.length):=by
   rw[R];exact Tw _ _ _ B D λi o=>k i (by rw[r];exact o)
  have E:(a.all λe=>(B0 b e.1).isSome)=true:=by rw[Ao8];intro e t;obtain⟨i,o⟩:=AxL.1 t;grind
  rw[E,<-J] at hS;simp only[AbA] at hS;subst hS;simp only[push_cast,seval,rq,f,g,l,p,q,f6,r,z]
  repeat' (first|(((first|apply Ai|apply Am|apply Al)<;>intro _h)<;>simp only[push_cast,seval,rq,_h,f,g,l,p,q,f6,r,z])|(refine As (by omega) ?_;simp only[push_cast,seval,rq,f,g,l,p,q,f6,r,z])|intro _)
  exact⟨_,Ag.refl,⟨rfl,rfl,trivial⟩,λi e h=>by simp only[lk] at h⊢;grind
⟩
theorem Y7{l}(a:l.length<=4)(h:∀f∈l,f.length<=2^24):(∀e∈Gn l,0<=e.2/\e.2<=2^30)/\(Gn l).length<=4:=by
 have put:∀(m:HI) (n:Aa) (k:Int),0<=k->k<=2^30->(∀e∈m,0<=e.2/\e.2<=2^30)->(∀e∈HA m n k,0<=e.2/\e.2<=2^30)/\(HA m n k).length<=m.length+1:=by
  intro m n k k1 k2
  induction m with
  | nil=>intro _;simp[HA];omega
  | cons x m c=>intro h;have o:=h x (by simp);have ⟨i1,i2⟩:=c λe d=>h e (Ab5 _ d);rw[HA];grind
 have key:∀(l:List Aa) (m:HI),(∀f∈l,f.length<=2^24)->(∀e∈m,0<=e.2/\e.2<=2^30)->(∀e∈l.foldl (λm f=>HA m (f.take 1) f.length) m,0<=e.2/\e.2<=2^30)/\(l.foldl (λm f=>HA m (f.take 1) f.length) m).length<=m.length+l.length:=by
  intro l
  induction l with
  | nil=>intro m _ b;exact⟨b,by simp⟩
  | cons f l c=>intro m a b;have j:=a f (by simp);have ⟨p1,p2⟩:=put m (f.take 1) f.length (by omega) (by omega) b;have ⟨i1,i2⟩:=c _ (λg i=>a g (Ab5 _ i)) p1;exact⟨i1,by simp only[AyT,An9];omega⟩
 have ⟨k1,k2⟩:=key l [] h (by simp);exact⟨k1,by unfold Gn;simp at k2;omega⟩
theorem Nn{s l}(h:CW s=some l):∀f∈l,f.length<=s.length:=by
 have key:∀(a:List Aa) (r:Aa) (out w:List Aa),Di a r out=some w->r.length<=s.length->(∀f∈out,f.length<=s.length)->∀f∈w,f.length<=s.length:=by
  intro a
  induction a with
  | nil=>intro r out w h d c;rw[Di] at h;grind
  | cons k a e=>intro r out w h d c;have b:=Gq r k;rw[Di] at h;grind
 exact key DH s [] l h (Ab6 _) (by simp)
theorem Aks l (q:Aa)(X:q.length<=2^24)(hl:l.length<=2^30)(hp:∀p∈l,p.skel.length<=2^20):Ak π O 207 [.sl (l.map E4.enc),.s q] [] (.tup [.i .i64 (Fj l q).1,.i .i64 (Fj l q).2]) []:=by
 generalize hS:Fj l q=S;unfold Fj at hS;cases z:CW q with
 | none=>
  have I:=KN (YW O q (by omega) z);rw[z] at hS;simp only at hS;subst hS;refine Ac (vs:=[.i .i64 0,.i .i64 3]) xQ (by simp) (by simp) λn0 x=>?_;clear x;simp only[push_cast,rq];intros;refine Bd I (λ_ _ h=>h) (λN v σo u r=>?_);obtain⟨rfl,rfl⟩:=r;rw[Gb];simp only[push_cast,rq]
  (repeat' (first|(first|(apply AL<;>intro _h)|refine As (by omega) ?_)<;>simp only[push_cast,rq,_h]|intro _))
  refine Ah ?_;simp[push_cast]
 | some w=>
  have I:=sV O q w (by omega) z;rw[z] at hS;simp only at hS;have ⟨w1,G,w3⟩:=HX z;have ⟨m1,m2⟩:=Y7 G (λf K=>AoW (Nn z f K) X);generalize Gn w=A at *;refine Ac (vs:=[.i .i64 S.1,.i .i64 S.2]) xQ (by simp) (by simp) λn0 x=>?_;clear x;simp only[push_cast,rq];intros;refine Bd I (λ_ _ h=>h) (λN v σo u r=>?_);obtain⟨mid,i1,i2,rfl,rfl⟩:=r;rw[Gb];simp only[push_cast,rq]
  (repeat' (first|(first|(apply AL<;>intro _h)|refine As (by omega) ?_)<;>simp only[push_cast,rq,_h]|intro _))
  rename_i k1 k2 k3 U;have F:mid.1<N+1+k1+1+k2+1+k3+1+U:=by omega
  generalize N+1+k1+1+k2+1+k3+1+U=n1 at *;obtain⟨B,hB⟩:∃B,B=DR A l 0 (-1) 0:=⟨_,rfl⟩
  rw[<-hB] at hS;refine Aj l.length (Inv:=λm st=>∃dn a n c b,l=dn++a/\m=a.length/\DR A a dn.length c b=B/\mid.1<n/\st=⟨[(6,.arr mid),(8,.i .i64 c),(9,.i .i64 b),(23,.sl (l.map E4.enc)),(24,.i .i64 l.length),(25,.i .i64 dn.length)],[(mid,.map (DN A))],n⟩) ⟨_,Ag.refl,[],l,_,-1,0,rfl,rfl,hB.symm,F,rfl⟩ ?_;clear hB F;rintro m _ ⟨dn,a,n,c,b,y,rfl,g,W,rfl⟩;cases a with
  | nil=>
   rw[DR] at g;subst g;cases C:decide (c<0)
   .rw[AfL (AvV C)] at hS;subst hS;simp only[push_cast,rq,y,C]
    (repeat' (first|(first|(apply AL<;>intro _h)|refine As (by omega) ?_)<;>simp only[push_cast,rq,_h,C]|intro _))
    refine Ah ?_;simp[push_cast]
   .rw[Amm (Awz C)] at hS;subst hS;simp only[push_cast,rq,y,C]
    (repeat' (first|(first|(apply AL<;>intro _h)|refine As (by omega) ?_)<;>simp only[push_cast,rq,_h,C]|intro _))
    refine Ah ?_;simp[push_cast]
  | cons p a=>
   have V:=A9 y;have L:=hp p (by rw[y];simp);rw[DR] at g;have M:(dn.length:Int)+1=((dn++[p]).length:Int):=by simp
   rw[M] at g;have R:∀k j:Nat,(((n+1+k,j):Id)=mid)=False:=λk j=>Ab8 λT=>by grind
   simp only[push_cast,rq,y];intros;cases d:CW p.skel with
   | none=>
    rw[d] at g;simp only at g;refine Bd (KN (YW O p.skel (by omega) d)) (λ_ _ h=>by simp[lk] at h) (λY v σo u r=>?_);obtain⟨rfl,rfl⟩:=r;rw[lS,Avc];simp only[push_cast,rq,Ae p (dn:=dn) (by omega)]
    (repeat' (first|(first|(apply AL<;>intro _h)|refine As (by omega) ?_)<;>simp only[push_cast,rq,_h,y,Ae p (dn:=dn) (by omega),R]|intro _))
    exact⟨_,_,Ab4 _,Ag.drop1 (by simp only[lk];grind) (Ab6 _),dn++[p],a,_,c,b,by simp,rfl,g,by omega,rfl⟩
   | some G=>
    rw[d] at g;simp only at g;refine Bd (sV O p.skel G (by omega) d) (λ_ _ h=>by simp[lk] at h) (λY v σo u r=>?_);obtain⟨o,j1,j2,rfl,rfl⟩:=r;rw[lS,A1Z];have ⟨a1,a2,a3⟩:=HX d;have ⟨b1,b2⟩:=Y7 a2 (λf K=>AoW (Nn d f K) (AoW L (by omega)));generalize Gn G=H at *;have E:mid≠o:=λT=>by rw[T] at W;omega
    have J:=Anx O A H mid o E m1 b1 (by omega);have Z:(o=mid)=False:=Ab8 (Ao0 E);generalize hD:M3 A H=D at *;simp only[push_cast,rq];intros;refine Ej J (λi e h=>?_) ?_
    .simp only[lk] at h⊢;split at h
     .grind
     grind
    have t:∀(k:Nat) i e,lk [(mid,AP.map (DN A))] i=some e->lk [(o,AP.map (DN H)),((n+1+k,11),AP.box (.agg [.s p.skel,.s p.pat])),(mid,AP.map (DN A))] i=some e:=by
     intro k i e h;simp only[lk] at h⊢;split at h
     .grind
     .cases h
    cases q1:D.2<;>cases q2:decide (c<0)<;>cases q3:decide (D.1<b)
    all_goals simp only[q1,q2,q3,AxA,AyN,A1r,A0T,AbA,Ab9,Ab7] at g
    all_goals simp only[push_cast,rq,Ae p (dn:=dn) (by omega),q2,q3]
    all_goals (repeat' (first|(first|(apply AL<;>intro _h)|refine As (by omega) ?_)<;>simp only[push_cast,rq,_h,y,Ae p (dn:=dn) (by omega),R,q1,q2,q3]|intro _))
    all_goals exact⟨_,_,Ab4 _,Ag.drop (t _) (Ab6 _),dn++[p],a,_,_,_,by simp,rfl,g,by omega,rfl⟩
def TB:Nat:=134
def bS(u:Bool)(x b:Id)(l:Aa):Aq:=[(x,.tbox TB (.agg [wA u x,.arr b])),(b,.arr 5 1 (A6 l))]
def BW(x:Id)(l:Aa)(r:V)(n n':Nat)(v:V)(σ':Aq):Prop:=v=r/\∃a:Id,n<=a.1/\a.1<n'/\σ'=bS true x a l
theorem Xa{u x b l}:lk (bS u x b l) x=some (.tbox TB (.agg [wA u x,.arr b])):=by simp[bS,lk]
theorem SE u x b:Ak π O 167 [.ref x 0] [(x,.tbox TB (.agg [wA u x,.arr b]))] (.tup []) [(x,.tbox TB (.agg [.ref x 0,.arr b]))]:=by
 cases u with
 | true=>exact Z4 O
 | false=>exact ZA O (by kernel_rfl)
theorem OE u x b (l t:Aa)(a:b≠x)(h:l.length+t.length<=2^30):FK π O 152 [.ref x 0,.s t] (bS u x b l) (BW x (l++t) (.tup [.i .i64 t.length,.ni])):=by
 generalize r:BW x (l++t) (.tup [.i .i64 t.length,.ni])=R;refine C7 sF (by simp) λn0 d=>?_;have y:x.1<n0:=d x _ Xa;have w:b.1<n0:=d b _ (by simp[bS,lk,Ao0 a];rfl);clear d;have f:=SE O u x b;have m:(x=b)=False:=Ab8 (Ao0 a);have v:(b=x)=False:=Ab8 a;simp only[push_cast,seval,bS];intro k1;refine AX f (λi e h=>AK (τ:=[(b,AP.arr 5 1 (A6 l))]) h) ?_;rw[Jt (λp hp=>by simp at hp;subst hp;exact a)];clear f;have g:∀k j:Nat,((n0+1+k1+1+k,j)=x)=False:=λk j=>Ab8 λc=>by have:=A1o Prod.fst c;simp only at this;omega
 have o:∀k j:Nat,((n0+1+k,j)=b)=False:=λk j=>Ab8 λc=>(by have:=A1o Prod.fst c;(try simp only at this);omega)
 have q:∀k j:Nat,(b=(n0+1+k,j))=False:=λk j=>Ab8 λc=>AiZ (o k j) c.symm;simp only[push_cast,seval,m,CD];intro k2;refine As (by unfold AJ;omega) ?_;simp only[push_cast,seval,g];intro k3 z;subst r;rw[FW];exact⟨_,Ag.refl,[.i .i64 t.length,.ni],bS true x (n0+1+k1+1+k2,14) (l++t),⟨rfl,rfl,trivial⟩,Lu (Ao0 (λc=>AiZ (g _ _) c)),rfl,_,by simp only;omega,by simp only;omega,rfl⟩
theorem Aml u x b l c (d:b≠x)(h:l.length+1<=2^30):FK π O 123 [.ref x 0,.i .u8 c.toNat] (bS u x b l) (BW x (l++[c]) .ni):=by
 generalize t:BW x (l++[c]) .ni=R;refine C7 AlJ (by simp) λn0 a=>?_;have z:x.1<n0:=a x _ Xa;have y:b.1<n0:=a b _ (by simp[bS,lk,Ao0 d];rfl);clear a;have f:=SE O u x b;have o:(x=b)=False:=Ab8 (Ao0 d);have w:(b=x)=False:=Ab8 d;simp only[push_cast,seval,bS];intro k1;refine AX f (λi e h=>AK (τ:=[(b,AP.arr 5 1 (A6 l))]) h) ?_;rw[Jt (λp hp=>by grind)];clear f;have m:∀k j:Nat,((n0+1+k1+1+k,j)=x)=False:=λk j=>Ab8 λg=>by grind
 have q:∀k j:Nat,((n0+1+k,j)=b)=False:=λk j=>Ab8 λg=>(by grind)
 have r:∀k j:Nat,(b=(n0+1+k,j))=False:=λk j=>Ab8 λg=>AiZ (q k j) g.symm;have s:(l.length+1<=AJ)=True:=Arp (by unfold AJ;omega);simp only[push_cast,seval,o,m,CD,s];intro k2 k3 A;subst t;have v:A6 l++[.i .u8 c.toNat]=A6 (l++[c]):=by rw[<-FW];rfl
 rw[v];exact⟨_,Ag.refl,[.ni],bS true x (n0+1+k1+1+k2,14) (l++[c]),⟨rfl,trivial⟩,Lu (Ao0 (λg=>AiZ (m _ _) g)),rfl,_,by simp only;omega,by simp only;omega,rfl⟩
def orU(a b:Int):Int:=IntKind.u8.wrap (BitVec.ofInt 8 a ||| BitVec.ofInt 8 b).toNat
def anU(a b:Int):Int:=IntKind.u8.wrap (BitVec.ofInt 8 a &&& BitVec.ofInt 8 b).toNat
def srI(a:Int)(k:Nat):Int:=a.fdiv (2 ^ k)
def u8B(n:Int):UInt8:=UInt8.ofNat n.toNat
theorem Apj a b:M0 (.bit .or) [.i .u8 a,.i .u8 b]=some (.i .u8 (orU a b)):=rfl
theorem Alv a b:M0 (.bit .and) [.i .u8 a,.i .u8 b]=some (.i .u8 (anU a b)):=rfl
theorem Wn a b (h:0<=b):M0 (.shf .shr) [.i .i32 a,.i .u64 b]=some (.i .i32 (srI a (min b.toNat 32))):=by simp only[M0,Amm h];rfl
theorem Yk n:IntKind.u8.wrap n=n % 256:=by simp only[IntKind.wrap,IntKind.bits,IntKind.signed];simp
theorem Aly a b:0<=orU a b/\orU a b<256:=by unfold orU;rw[Yk];omega
theorem Ark{n}(h:0<=n/\n<256):V.i .u8 n=.i .u8 ((u8B n).toNat:Int):=by unfold u8B;congr 1;rw[UInt8.toNat_ofNat'];omega
def u8(r:Int):Int:=IntKind.u8.wrap r
def jS(r:Int)(k:Nat):Int:=orU 128 (anU (u8 (srI r k)) 63)
def l6(r:Int):Int:=orU 128 (anU (u8 r) 63)
def KJ(r:Int):List Int:=
 if decide (IntKind.u32.wrap r<=127) then[u8 r]
 else if decide (IntKind.u32.wrap r<=2047) then[orU 192 (u8 (srI r 6)),l6 r]
 else if decide (IntKind.u32.wrap r<55296)||decide (57343<IntKind.u32.wrap r)&&decide (IntKind.u32.wrap r<=65535) then[orU 224 (u8 (srI r 12)),jS r 6,l6 r]
 else if decide (IntKind.u32.wrap r>65535)&&decide (IntKind.u32.wrap r<=1114111) then[orU 240 (u8 (srI r 18)),jS r 12,jS r 6,l6 r]
 else[239,191,189]
def CT(r:Int):Aa:=(KJ r).map u8B
theorem p5 r:∀n∈KJ r,0<=n/\n<256:=by
 have b:=Aly;unfold KJ;split
 .intro n a;simp at a;subst a;unfold u8;rw[Yk];omega
 .split
  .intro n a;simp at a;rcases a with rfl|rfl<;>exact b _ _
  .split
   .intro n a;simp at a;rcases a with rfl|rfl|rfl<;>exact b _ _
   .split
    .intro n a;simp at a;rcases a with rfl|rfl|rfl|rfl<;>exact b _ _
    grind
theorem LB r:1<=(CT r).length/\(CT r).length<=4:=by unfold CT KJ;grind
theorem AiS r:(KJ r).map (V.i .u8)=A6 (CT r):=by unfold CT A6;rw[A2i];exact A0v λn a=>Ark (p5 r n a)
def Wh(l:Aa)(n n':Nat)(v:V)(σ':Aq):Prop:=∃a:Id,n<=a.1/\a.1<n'/\v=.arr a/\σ'=[(a,.arr 5 1 (A6 l))]
theorem AaY b (l:Aa) r (u:l.length<=2^30)(s:decide (IntKind.u32.wrap r<=127)=false):FK π O 282 [.arr b,.i .i32 r] [(b,.arr 5 1 (A6 l))] (Wh (l++CT r)):=by
 have t:A6 (l++CT r)=A6 l++(KJ r).map (V.i .u8):=by rw[AiS,<-FW]
 generalize e:Wh (l++CT r)=R;unfold Wh at e;rw[t] at e;generalize hS:KJ r=S at e;unfold KJ at hS;rw[s] at hS;have q1:=λa b=>Apj a b;have q2:=λa b=>Alv a b;have q:=Wn r 6 (by omega);have c:=Wn r 12 (by omega);have d:=Wn r 18 (by omega);have m:(l.length+2<=AJ)=True:=Arp (by unfold AJ;omega);have o:(l.length+3<=AJ)=True:=Arp (by unfold AJ;omega);have p:(l.length+4<=AJ)=True:=Arp (by unfold AJ;omega);refine C7 AjD (by simp) λn0 f=>?_;clear f;cases k1:decide (IntKind.u32.wrap r<=2047)<;>cases k2:decide (IntKind.u32.wrap r<55296)<;>cases k3:decide (57343<IntKind.u32.wrap r)<;>cases g:decide (IntKind.u32.wrap r<=65535)<;>cases j:decide (IntKind.u32.wrap r>65535)<;>cases k:decide (IntKind.u32.wrap r<=1114111)
 all_goals simp only[k1,k2,k3,g,j,k,A0e,A0j,AxA,AyN,A1r,A0T,AbA,Ab9,Ab7,Bool.or_self] at hS
 all_goals subst hS
 all_goals simp only[push_cast,seval,q1,q2,q,c,d,m,o,p,CD,k1,k2,k3,g,j,k]
 all_goals (repeat' (first|(first|(apply AL<;>intro _h)|refine As (by omega) ?_)<;>simp only[push_cast,seval,_h,q1,q2,q,c,d,m,o,p,CD,k1,k2,k3,g,j,k]|intro _))
 all_goals (first|(intros;subst e;exact⟨_,Ag.refl,[.arr _],[_],⟨rfl,trivial⟩,λ_ _ h=>h,_,by simp only;omega,by simp only;omega,rfl,rfl⟩)|skip)
theorem fM b (l:Aa) r (t:l.length<=2^30):FK π O 262 [.arr b,.i .i32 r] [(b,.arr 5 1 (A6 l))] (Wh (l++CT r)):=by
 cases c:decide (IntKind.u32.wrap r<=127) with
 | true=>
  have x:A6 (l++CT r)=A6 l++[.i .u8 (IntKind.u8.wrap r)]:=by rw[<-FW,<-AiS];unfold KJ;rw[c];rfl
  generalize d:Wh (l++CT r)=R;unfold Wh at d;rw[x] at d;have o:(l.length+1<=AJ)=True:=Arp (by unfold AJ;omega);refine C7 jL (by simp) λn0 f=>?_;clear f;simp only[push_cast,rq,o,CD,c]
  (repeat' (first|(first|(apply AL<;>intro _h)|refine As (by omega) ?_)<;>simp only[push_cast,rq,_h,o,CD,c]|intro _))
  subst d;exact⟨_,Ag.refl,[.arr _],[_],⟨rfl,trivial⟩,λ_ _ h=>h,_,by simp only;omega,by simp only;omega,rfl,rfl⟩
 | false=>
  have q:=AaY O b l r t c;generalize d:Wh (l++CT r)=R;rw[d] at q;have g:∀n n' v σ',R n n' v σ'->∀m k,m<=n->n'<=k->R m k v σ':=by rw[<-d];rintro n n' v σ' ⟨a,y,i2,h⟩ m k z w;exact⟨a,by omega,by omega,h⟩
  have j:∀n n' v σ',R n n' v σ'->∃a,v=.arr a/\∃e,σ'=[(a,e)]:=by rw[<-d];rintro n n' v σ' ⟨a,y,i2,c,s⟩;exact⟨a,c,_,s⟩
  refine C7 jL (by simp) λn0 f=>?_;clear f;simp only[push_cast,rq,c]
  (repeat' (first|(first|(apply AL<;>intro _h)|refine As (by omega) ?_)<;>simp only[push_cast,rq,_h,c]|intro _))
  refine Bd q (λ_ _ h=>h) (λA v σo u p=>?_);rw[Gb];obtain⟨a,rfl,e,rfl⟩:=j _ _ _ _ p;simp only[push_cast]
  (repeat' (first|(first|(apply AL<;>intro _h)|refine As (by omega) ?_)<;>simp only[push_cast,rq,_h,c]|intro _))
  exact⟨_,Ag.refl,[.arr a],[(a,e)],⟨rfl,trivial⟩,λ_ _ h=>h,g _ _ _ _ p _ _ (by omega) (by simp only;omega)⟩
theorem Ang u x b l r (d:b≠x)(h:l.length<=2^29):FK π O 231 [.ref x 0,.i .i32 r] (bS u x b l) (BW x (l++CT r) (.tup [.i .i64 ((CT r).length:Nat),.ni])):=by
 have A:=LB r;generalize y:BW x (l++CT r) (.tup [.i .i64 ((CT r).length:Nat),.ni])=R;refine C7 An3 (by simp) λn0 c=>?_;have F:x.1<n0:=c x _ Xa;have D:b.1<n0:=c b _ (by simp[bS,lk,Ao0 d];rfl);clear c;have f:=SE O u x b;have k:(x=b)=False:=Ab8 (Ao0 d);have C:(b=x)=False:=Ab8 d;simp only[push_cast,seval,bS];intro k1;refine AX f (λi e h=>AK (τ:=[(b,AP.arr 5 1 (A6 l))]) h) ?_;rw[Jt (λp hp=>by grind)];clear f;simp only[push_cast,seval,k,CD];intros;refine Bd (fM O b l r (by omega)) (λi e h=>by
  simp only[lk] at h⊢;split at h
  .rename_i t;subst t;simp only[k,Ab9,AbA];exact h
  .cases h) (λG v σo z w=>?_)
 obtain⟨a,m,i2,rfl,rfl⟩:=w;have j:over [(b,AP.arr 5 1 (A6 l))] [(a,AP.arr 5 1 (A6 (l++CT r)))] [(x,AP.tbox TB (.agg [.ref x 0,.arr b])),(b,AP.arr 5 1 (A6 l))]=[(a,AP.arr 5 1 (A6 (l++CT r))),(x,AP.tbox TB (.agg [.ref x 0,.arr b]))]:=by have:=Fs (σi:=[(b,AP.arr 5 1 (A6 l))]) (σo:=[(a,AP.arr 5 1 (A6 (l++CT r)))]) (pre:=[(x,AP.tbox TB (.agg [.ref x 0,.arr b]))]) (λp hp q E=>by grind);simpa using this
 rw[j];have o:(a=x)=False:=Ab8 λg=>by rw[g] at m;omega
 have s:(x=a)=False:=Ab8 λg=>by rw[<-g] at m;omega
 have B:IntKind.i64.wrap (((l++CT r).length:Nat)-(l.length:Int))=((CT r).length:Nat):=by rw[Ajd,wrap64 (by omega) (by omega)];omega
 simp only[push_cast,seval,o,CD,B];intros;subst y;exact⟨_,Ag.refl,[.i .i64 ((CT r).length:Nat),.ni],bS true x a (l++CT r),⟨rfl,rfl,trivial⟩,Lu (λg=>AiZ s g),rfl,a,by omega,by simp only;omega,rfl⟩
theorem Ag.bld{O:World}{nt n:Nat}{env:BB}{τ:Aq}{x:Id}(f:x.1<n):Ag O nt ⟨env,(x,.tbox TB (.agg [.np,.nil]))::τ,n⟩ ⟨env,bS false x (n,0) []++τ,n+1⟩:=by
 have a:((n,0):Id)≠x:=λd=>by grind
 refine(Ag.ownTbox (A:=[.np]) (B:=[]) 5 1 0).trans (Ag.drop (λi e h=>?_) (Ab6 _));simp only[bS,AvC,Avc,lk] at h⊢;by_cases b:x=i
 .subst b;rw[Amm rfl] at h;rw[AfL a,Amm rfl];exact h
 .rw[AfL b] at h;by_cases c:((n,0):Id)=i
  .rw[Amm c] at h⊢;exact h
  grind
theorem WY u x b l (a:b≠x)(c:l.length<=2^30):Ak π O 60 [.ref x 0] (bS u x b l) (.s l) [(x,.tbox TB (.agg [wA u x,.arr b]))]:=
 Qg O (T:=TB) (r:=[]) a (by unfold AG;omega)
theorem Sx{u d x b a l c τ}(f:∀p∈τ,p.1≠x/\p.1≠b):over (bS u x b l) (bS d x a c) (bS u x b l++τ)=bS d x a c++τ:=by
 have:=Gw (σi:=bS u x b l) (σo:=bS d x a c) (pre:=[]) (post:=τ) (λp hp=>by cases hp) (λp hp q e=>by simp[bS] at e;grind
)
 simpa using this
theorem RZ{u x b l τ}:∀i e,lk (bS u x b l) i=some e->lk (bS u x b l++τ) i=some e:=λi e h=>AK h
def IF(n:Int):Bool:=decide (n>=0)&&(decide (n<=1114111)&&(decide (n<55296)||decide (n>57343)))
theorem Acr n:Ak π O 230 [.i .i64 n] [] (.b (IF n)) []:=by
 generalize hS:IF n=S;unfold IF at hS;refine Ac (vs:=[.b S]) AjJ (by simp) (by simp) λn0 f=>?_;clear f;simp only[push_cast,rq];cases a:decide (n>=0)<;>cases c:decide (n<=1114111)<;>cases d:decide (n<55296)<;>cases e:decide (n>57343)
 all_goals simp only[a,c,d,e,A0e,A0j,AxA,AyN,A1r,A0T,Bool.or_self] at hS
 all_goals subst hS
 all_goals simp only[push_cast,rq,a,c,d,e]
 all_goals (repeat' (first|(first|(apply AL<;>intro _h)|refine As (by omega) ?_)<;>simp only[push_cast,rq,_h,a,c,d,e]|intro _))
 all_goals exact Kn
def TQ(c:Int):Bool:=decide (c>=8294)&&decide (c<=8296)
theorem Ut c:Ak π O 233 [.i .i64 c] [] (.b (TQ c)) []:=by
 generalize hS:TQ c=S;unfold TQ at hS;refine Ac (vs:=[.b S]) Akf (by simp) (by simp) λn0 d=>?_;clear d;simp only[push_cast,rq];cases e:decide (c>=8294)<;>cases a:decide (c<=8296)
 all_goals simp only[e,a,AxA,AyN] at hS
 all_goals subst hS
 all_goals simp only[push_cast,rq,a]
 all_goals (repeat' (first|(first|(apply AL<;>intro _h)|refine As (by omega) ?_)<;>simp only[push_cast,rq,_h,e,a]|intro _))
 all_goals exact Kn
def G6(s:Aa):Nat->Nat->List Int
 | 0,_=>[]
 | n+1,p=>if p<s.length then(Utf8.decode ⟨s.toArray⟩ p).1::G6 s n (p+(Utf8.decode ⟨s.toArray⟩ p).2) else[]
def NV(s:Aa):List Int:=G6 s s.length 0
def He(l:List Int):Aa:=l.flatMap λn=>CT (IntKind.i32.wrap (if IF n then n else 65533))
theorem Vg s:∀(n m p),s.length<=n+p->s.length<=m+p->G6 s n p=G6 s m p:=by
 intro n
 induction n with
 | zero=>
  intro m p a b;cases m with
  | zero=>rfl
  | succ m=>rw[G6,G6,AfL (by omega)]
 | succ n c=>
  intro m p a b;cases m with
  | zero=>grind
  | succ m=>
   rw[G6,G6];split
   .rename_i hp;have:=Lib.decode_width_pos ⟨s.toArray⟩ p (by simpa[ByteArray.size] using hp);grind
   .rfl
theorem Qb s:∀(n p),(G6 s n p).length<=n:=by
 intro n
 induction n with
 | zero=>intro p;simp[G6]
 | succ n a=>intro p;rw[G6];grind
theorem m3 l:(He l).length<=4*l.length:=by
 induction l with
 | nil=>simp[He]
 | cons n l a=>have h:=LB (IntKind.i32.wrap (if IF n then n else 65533));have:He (n::l)=CT (IntKind.i32.wrap (if IF n then n else 65533))++He l:=rfl;grind
theorem Arg(l:List Int):∀y∈l.map (V.i .i64),y.ok=true:=by intro y a;obtain⟨x,_,rfl⟩:=Aov.1 a;rfl
theorem mQ(s:Aa)(C:s.length<=2^28):Ak π O 232 [.s s] [] (.sl ((NV s).map (V.i .i64))) []:=by
 generalize hS:NV s=S;unfold NV at hS;refine Ac (vs:=[.sl (S.map (V.i .i64))]) AnD (by simp) (by simp) λn0 j=>?_;clear j;simp only[push_cast,rq]
 (repeat' (first|(first|(apply AL<;>intro _h)|refine As (by omega) ?_)<;>simp only[push_cast,rq,_h]|intro _))
 rename_i k1 k2 k3;generalize x:((n0+1+k1+1+k2,7):Id)=c;have a:c.1<n0+1+k1+1+k2+1+k3:=by grind
 generalize n0+1+k1+1+k2+1+k3=u at *;refine Aj s.length (Inv:=λm st=>∃n p id out,m=s.length-p/\out++G6 s (s.length-p) p=S/\out.length<=p/\out.length<=s.length/\c.1<id.1/\id.1<n/\st=⟨[(3,.arr id),(7,.arr c)],[(id,.arr 3 1 (out.map (V.i .i64))),(c,.it s p)],n⟩) ⟨_,(Ag.own (s:=3) (e:=3) (sz:=1) (k:=0) rfl).trans (Ag.envD (env':=[(3,.arr (u,0)),(7,.arr c)]) (λt=>?_) (Ab6 _)),_,0,(u,0),[],rfl,hS,Ab6 _,Avz _,a,Ab4 _,rfl⟩ ?_
 .left;simp only[get];grind
 clear hS a;rintro m _ ⟨n,p,id,out,rfl,d,B,z,a,w,rfl⟩;have f:(id=c)=False:=Ab8 λh=>by rw[h] at a;omega
 have g:(c=id)=False:=Ab8 λh=>by rw[h] at a;omega
 by_cases hp:p<s.length
 .have r:=Lib.decode_width_pos ⟨s.toArray⟩ p (by simpa[ByteArray.size] using hp);have b:(p<s.length)=True:=Arp hp;obtain⟨q,A⟩:∃q,s.length-p=q+1:=⟨s.length-p-1,by omega⟩
  rw[A,G6,Amm hp] at d;rw[Vg s q (s.length-(p+(Utf8.decode ⟨s.toArray⟩ p).2)) _ (by omega) (by omega)] at d;have y:=decode_le ⟨s.toArray⟩ p;generalize l:Utf8.decode ⟨s.toArray⟩ p=D at *;have o:(out.length+1<=AJ)=True:=Arp (by unfold AJ;omega);have v:IntKind.i64.wrap (D.1:Int)=(D.1:Int):=wrap64 (by omega) (by omega);simp only[push_cast,rq,b,l,f,g,o,v]
  (repeat' (first|(first|(apply AL<;>intro _h)|refine As (by omega) ?_)<;>simp only[push_cast,rq,_h,b,l,f,g,o,v,Afb]|intro _))
  rw[Gh];exact⟨_,_,by omega,Ag.refl,_,p+D.2,_,out++[(D.1:Int)],rfl,by grind,by simp;omega,by simp;omega,by simp only;omega,by simp only;omega,rfl⟩
 .have b:(p<s.length)=False:=Ab8 hp;rw[show s.length-p=0 by omega,G6,At9] at d;subst d;simp only[push_cast,rq,b,f];intros;refine H3 (Ag.frzAt (s:=3) (id:=id) rfl (by simp[lk,g]) (Arg out) (Ab6 _)) ?_;simp only[push_cast];intros;exact Kn
theorem lH l (F:l.length<=2^26):Ak π O 195 [.sl (l.map (V.i .i64))] [] (.s (He l)) []:=by
 generalize hS:He l=S;refine Ac (vs:=[.s S]) Alo (by simp) (by simp) λn0 o=>?_;clear o;simp only[push_cast,rq]
 (repeat' (first|(first|(apply AL<;>intro _h)|refine As (by omega) ?_)<;>simp only[push_cast,rq,_h]|intro _))
 rename_i k1 k2 k3;generalize G:((n0+1+k1,3):Id)=x;have d:x.1<n0+1+k1+1+k2+1+k3:=by grind
 generalize n0+1+k1+1+k2+1+k3=E at *;refine Aj l.length (Inv:=λm st=>∃dn a n u b out,l=dn++a/\m=a.length/\out++He a=S/\out.length+4*a.length<=2^28/\x.1<b.1/\b.1<n/\st=⟨[(3,.ref x 0),(6,.sl (l.map (V.i .i64))),(7,.i .i64 l.length),(8,.i .i64 dn.length)],bS u x b out,n⟩) ⟨_,Ag.bld d,[],l,_,false,(E,0),[],rfl,rfl,hS,by simp;omega,d,Ab4 _,by simp⟩ ?_;clear hS d;rintro m _ ⟨dn,a,n,u,b,out,g,rfl,f,w,j,A,rfl⟩;have e:b≠x:=λC=>by rw[C] at j;omega
 cases a with
 | nil=>simp only[He,A1X,At9] at f;subst f;have r:=WY O u x b out e (by omega);simp only[push_cast,rq,g];intros;refine AX r (λ_ _ h=>h) ?_;simp only[push_cast];intros;exact Kn
 | cons c a=>
  have B:=A9 g;have p:=Acr O c;have k:out++(CT (IntKind.i32.wrap (if IF c then c else 65533))++He a)=S:=f;clear f;generalize IF c=t at *;have q:=LB (IntKind.i32.wrap (if t then c else 65533));cases t
  all_goals simp only[AbA,Ab9,Ab7] at k q
  all_goals simp only[push_cast,rq,g]
  all_goals (repeat' (first|(first|(apply AL<;>intro _h)|refine Ab (by exact p) ?_|refine As (by omega) ?_)<;>simp only[push_cast,rq]|intro _))
  all_goals (refine Bd (Ang O u x b out _ e (by simp at w;omega)) (λ_ _ h=>h) (λI v σo D z=>?_))
  all_goals (obtain⟨rfl,y,H,i2,rfl⟩:=z)
  all_goals rw[Gb]
  all_goals simp only[push_cast,rq,Ae c (dn:=dn) (by omega)]
  all_goals (repeat' (first|(first|(apply AL<;>intro _h)|refine As (by omega) ?_)<;>simp only[push_cast,rq,_h,g,Ae c (dn:=dn) (by omega)]|intro _))
  all_goals exact⟨_,_,Ab4 _,Ag.refl,dn++[c],a,_,true,y,_,by simp,rfl,by grind,by simp at w⊢;omega,by omega,by omega,rfl⟩
def Fc:List Int->List Bool->Int->Aa->Aa×Int
 | [],_,k,out=>(out,k)
 | c::r,a,k,out=>
  if TQ c then(if decide (k<8) then Fc r (a++[true]) (k+1) (out++He [c]) else Fc r (a++[false]) k out)
  else if c==8297 then(match a.getLast? with
   | none=>Fc r a k out
   | some true=>Fc r a.dropLast (k-1) (out++He [c])
   | some false=>Fc r a.dropLast k out)
  else Fc r a k (out++He [c])
def IP:Nat->Aa
 | 0=>[]
 | n+1=>He [8297]++IP n
def V7(s:Aa):Aa:=(Fc (NV s) [] 0 []).1++IP (Fc (NV s) [] 0 []).2.toNat
theorem S4 c:Ak π O 195 [.sl [.i .i64 c]] [] (.s (He [c])) []:=lH O [c] (by simp)
theorem Fi c:(He [c]).length<=4:=m3 [c]
theorem Rv{u x b a out E}(c:a≠x)(d:a≠b):∀i e,lk (bS u x b out++[(a,E)]) i=some e->lk ((a,E)::bS u x b out) i=some e:=by intro i e h;simp only[bS,AvC,Avc,lk] at h⊢;grind
theorem Uz{u e x b c a l d E}(g:a≠x)(h:a≠b):over (bS u x b l) (bS e x c d) ((a,E)::bS u x b l)=bS e x c d++[(a,E)]:=by
 have:=Fs (σi:=bS u x b l) (σo:=bS e x c d) (pre:=[(a,E)]) (λp hp q f=>by simp at hp;subst hp;simp[bS] at f;grind
)
 simpa using this
theorem Za{u x b a l E}(c:a≠x)(d:a≠b):∀i e,lk (bS u x b l) i=some e->lk ((a,E)::bS u x b l) i=some e:=by intro i e h;simp only[lk];rw[AfL,<-h];rintro rfl;simp[bS,lk,Ao0 c,Ao0 d] at h
theorem d6(s:Aa)(hs:s.length<=2^24):Ak π O 196 [.s s] [] (.s (V7 s)) []:=by
 have aj:=Qb s s.length 0;have ai:=mQ O s (by omega);generalize hS:V7 s=S;unfold V7 at hS;have aN:(NV s).length<=2^24:=by unfold NV;omega
 generalize NV s=D at *;generalize hB:Fc D [] 0 []=B at hS;refine Ac (vs:=[.s S]) Amt (by simp) (by simp) λn0 ax=>?_;clear ax;simp only[push_cast,seval];repeat' (first|(first|((first|apply Ai|apply Am|apply Al)<;>intro _h)|refine Ab ai ?_|refine As (by omega) ?_)<;>simp only[push_cast,seval]|intro _)
 rename_i k1 k2 k3 k4 k5;generalize hx:((n0+1+k1,3):Id)=x;have Y:x.1<n0+1+k1+1+k2+1+k3+1+k4+1+k5:=by grind
 generalize n0+1+k1+1+k2+1+k3+1+k4+1+k5=n1 at *;refine Aj D.length (Inv:=λm st=>∃dn a n u b out C k g,D=dn++a/\m=a.length/\Fc a C k out=B/\-(dn.length:Int)<=k/\k<=8/\C.length<=dn.length/\out.length+4*a.length<=2^26/\x.1<b.1/\x.1<g.1/\g≠b/\b.1<n/\g.1<n/\st=⟨[(3,.ref x 0),(4,.arr g),(5,.i .i64 k),(11,.sl (D.map (V.i .i64))),(12,.i .i64 D.length),(13,.i .i64 dn.length)],bS u x b out++[(g,.arr 4 1 (C.map V.b))],n⟩) ⟨_,((Ag.bld (τ:=[]) Y).trans (Ag.own (s:=4) (e:=4) (sz:=1) (k:=0) rfl)).trans ((Ag.envD (env':=[(3,.ref x 0),(4,.arr (n1+1,0)),(5,.i .i64 0),(11,.sl (D.map (V.i .i64))),(12,.i .i64 D.length),(13,.i .i64 0)]) (λt=>?_) (Ab6 _)).trans (Ag.drop (σ':=bS false x (n1,0) []++[((n1+1,0),.arr 4 1 [])]) (Rv (λo=>by grind) (by simp)) (Ab6 _))),[],D,_,false,(n1,0),[],[],0,(n1+1,0),rfl,rfl,hB,by simp,by omega,Ab6 _,by simp;omega,Y,by simp only;omega,by simp,by simp only;omega,by simp only;omega,rfl⟩ ?_
 .left;simp only[get];grind
 clear hB Y;rintro m _ ⟨dn,a,n,u,b,out,C,k,g,y,rfl,d,q1,q2,q3,q4,R,q6,q7,q8,q9,rfl⟩;have l:b≠x:=λo=>by rw[o] at R;omega
 have X:g≠x:=λo=>by rw[o] at q6;omega
 cases a with
 | nil=>
  rw[Fc] at d;subst d;simp only at hS;have aw:D.length=dn.length:=by rw[y];simp
  have f1:(x=b)=False:=Ab8 (Ao0 l);have f2:(b=x)=False:=Ab8 l;simp only[push_cast,seval,y];intros;rename_i j2 Z;have ah:b.1<n+1+j2+1+Z:=by omega
  generalize n+1+j2+1+Z=n2 at *;have ay:out.length<=2^26:=by omega
  clear y aw q1 q3 q4 q6 q7 q8 q9 X;refine Aj k.toNat (Inv:=λm st=>∃n u b out j,m=(k-j).toNat/\0<=j/\j<=8/\out++IP (k-j).toNat=S/\(out.length:Int)<=2^26+4*j/\x.1<b.1/\b.1<n/\st=⟨[(3,.ref x 0),(56,.i .i64 k),(57,.i .i64 j)],bS u x b out,n⟩) ⟨_,Ag.pre (Ab6 _),_,u,b,out,0,by simp,by omega,by omega,by simpa using hS,by omega,R,ah,rfl⟩ ?_;clear hS ah ay R f1 f2 l;rintro m _ ⟨n,u,b,out,j,rfl,Z,j2,d,ho,R,q8,rfl⟩;have l:b≠x:=λo=>by rw[o] at R;omega
  cases hj:decide (j<k) with
  | true=>
   have av:=Awz hj;have r:=S4 O 8297;have ar:=Fi 8297;obtain⟨q,hq⟩:∃q,(k-j).toNat=q+1:=⟨(k-j).toNat-1,by omega⟩
   rw[hq,IP,<-Azs] at d;generalize He [8297]=A at *;have w1:IntKind.i64.wrap (j+1)=j+1:=by rw[wrap64 (by omega) (by omega)]
   simp only[push_cast,seval,hj];repeat' (first|(first|((first|apply Ai|apply Am|apply Al)<;>intro _h)|refine Ab r ?_|refine As (by omega) ?_)<;>simp only[push_cast,seval]|intro _)
   refine Bd (OE O u x b out A l (by omega)) (λ_ _ h=>h) (λn2 v σo W U=>?_);obtain⟨rfl,E,i1,i2,rfl⟩:=U;rw[Gb];simp only[push_cast,seval,w1]
   repeat' (first|(((first|apply Ai|apply Am|apply Al)<;>intro _h)<;>simp only[push_cast,seval,_h,hj,w1])|(refine As (by omega) ?_;simp only[push_cast,seval,hj,w1])|intro _)
   exact⟨q,_,by omega,Ag.refl,_,true,E,out++A,j+1,by omega,by omega,by omega,by grind,by simp;omega,by omega,by omega,rfl⟩
  | false=>have av:=AvV hj;rw[show(k-j).toNat=0 by omega,IP,At9] at d;subst d;have az:=WY O u x b out l (by omega);simp only[push_cast,seval,hj];intros;refine AX az (λ_ _ h=>h) ?_;simp only[push_cast];intros;exact Af (by simp[get])
 | cons c a=>
  have aO:=A9 y;have w:=Ut O c;have r:=S4 O c;have ar:=Fi c;rw[Fc] at d;generalize He [c]=A at *;have f1:(x=b)=False:=Ab8 (Ao0 l);have f2:(b=x)=False:=Ab8 l;have f3:(x=g)=False:=Ab8 (Ao0 X);have f4:(g=x)=False:=Ab8 X;have f5:(b=g)=False:=Ab8 (Ao0 q7);have f6:(g=b)=False:=Ab8 q7;simp only[An9] at q4;cases hI:TQ c with
  | true=>
   rw[hI] at d w;simp only[AbA] at d;have hL:(C.length+1<=AJ)=True:=Arp (by unfold AJ;omega);cases hK:decide (k<8) with
   | true=>
    rw[hK] at d;simp only[AbA] at d;have aP:=Awz hK;have w1:IntKind.i64.wrap (k+1)=k+1:=by rw[wrap64 (by omega) (by omega)]
    simp only[push_cast,seval,y,bS];repeat' (first|(first|((first|apply Ai|apply Am|apply Al)<;>intro _h)|refine Ab w ?_|refine Ab r ?_|refine As (by omega) ?_)<;>simp only[push_cast,seval,f3,f5,hL,w1,hK]|intro _)
    rename_i N J I H j3 j2 Z j0;generalize z:((n+1+N+1+J+1+I+1+H,25):Id)=f;have L:f≠x:=λo=>by grind
    have F:f≠b:=λo=>by grind
    have T:x.1<f.1:=by grind
    have g4:f.1<n+1+N+1+J+1+I+1+H+1:=by grind
    clear z;refine Bd (σi:=bS u x b out) (OE O u x b out A l (by omega)) (Za L F) (λn2 v σo W U=>?_);obtain⟨rfl,E,i1,i2,rfl⟩:=U;have G:over (bS u x b out) (bS true x E (out++A)) [(f,AP.arr 4 1 (List.map V.b C++[V.b true])),(x,AP.tbox TB (.agg [wA u x,.arr b])),(b,AP.arr 5 1 (A6 out))]=bS true x E (out++A)++[(f,AP.arr 4 1 ((C++[true]).map V.b))]:=by rw[<-Gh];exact Uz L F
    rw[G];clear G;simp only[push_cast,seval,Ae c (dn:=dn) (by omega)]
    repeat' (first|(((first|apply Ai|apply Am|apply Al)<;>intro _h)<;>simp only[push_cast,seval,_h,y,Ae c (dn:=dn) (by omega)])|(refine As (by omega) ?_;simp only[push_cast,seval,y,Ae c (dn:=dn) (by omega)])|intro _)
    exact⟨_,_,Ab4 _,Ag.refl,dn++[c],a,_,true,E,out++A,C++[true],k+1,f,by simp,rfl,d,by simp;omega,by omega,by simp;omega,by simp;omega,by omega,T,λo=>by rw[<-o] at i1;omega,by omega,by omega,rfl⟩
   | false=>
    rw[hK] at d;simp only[Ab9,Ab7] at d;simp only[push_cast,seval,y,bS];repeat' (first|(first|((first|apply Ai|apply Am|apply Al)<;>intro _h)|refine Ab w ?_|refine Ab r ?_|refine As (by omega) ?_)<;>simp only[push_cast,seval,Ae c (dn:=dn) (by omega),f3,f5,hL,hK]|intro _)
    rename_i J I H j3 j2 Z j0;generalize z:((n+1+J+1+I+1+H+1+j3,25):Id)=f;have L:f≠x:=λo=>by grind
    have F:f≠b:=λo=>by grind
    have T:x.1<f.1:=by grind
    have g4:f.1<n+1+J+1+I+1+H+1+j3+1:=by grind
    clear z;rw[Gh];exact⟨_,_,Ab4 _,Ag.drop (σ':=bS u x b out++[(f,AP.arr 4 1 ((C++[false]).map V.b))]) (Rv L F) (Ab6 _),dn++[c],a,_,u,b,out,C++[false],k,f,by simp,rfl,d,by simp;omega,q2,by simp;omega,by omega,R,T,F,by omega,by omega,rfl⟩
  | false=>
   rw[hI] at d w;simp only[Ab9,Ab7] at d;cases M:(c==8297) with
   | false=>
    rw[M] at d;simp only[Ab9,Ab7] at d;simp only[push_cast,seval,y];repeat' (first|(first|((first|apply Ai|apply Am|apply Al)<;>intro _h)|refine Ab w ?_|refine Ab r ?_|refine As (by omega) ?_)<;>simp only[push_cast,seval,M]|intro _)
    refine Bd (σi:=bS u x b out) (OE O u x b out A l (by omega)) RZ (λn2 v σo W U=>?_);obtain⟨rfl,E,i1,i2,rfl⟩:=U;rw[Sx (λp hp=>by grind)];simp only[push_cast,seval,Ae c (dn:=dn) (by omega)]
    repeat' (first|(((first|apply Ai|apply Am|apply Al)<;>intro _h)<;>simp only[push_cast,seval,_h,y,Ae c (dn:=dn) (by omega),M])|(refine As (by omega) ?_;simp only[push_cast,seval,y,Ae c (dn:=dn) (by omega),M])|intro _)
    exact⟨_,_,Ab4 _,Ag.refl,dn++[c],a,_,true,E,out++A,C,k,g,by simp,rfl,d,by simp;omega,q2,by simp;omega,by simp;omega,by omega,q6,λo=>by rw[<-o] at i1;omega,by omega,by omega,rfl⟩
   | true=>
    rw[M] at d;simp only[AbA] at d;rcases Ay5 C with rfl|⟨ops,K,rfl⟩
    .simp only[List.getLast?_nil] at d;simp only[push_cast,seval,y,bS];repeat' (first|(first|((first|apply Ai|apply Am|apply Al)<;>intro _h)|refine Ab w ?_|refine Ab r ?_|refine As (by omega) ?_)<;>simp only[push_cast,seval,Ae c (dn:=dn) (by omega),f3,f5,M]|intro _)
     exact⟨_,_,Ab4 _,Ag.refl,dn++[c],a,_,u,b,out,[],k,g,by simp,rfl,d,by simp;omega,q2,by simp,by omega,R,q6,q7,by omega,by omega,rfl⟩
    .have au:(ops++[K]).getLast?=some K:=by simp
     have aj:(ops++[K]).dropLast=ops:=by simp
     rw[Azh] at *;rw[au,aj] at d;have e0:(((ops++[K]).length:Int)==0)=false:=by grind
     have w5:IntKind.i64.wrap (((ops++[K]).length:Int)-1)=(ops.length:Int):=by simp only[Ajd,An9,AtX] at q3⊢;rw[wrap64 (by omega) (by omega)];omega
     have e1:(List.map V.b (ops++[K]))[ops.length]?=some (.b K):=by simp
     have e2:(ops.length<(ops++[K]).length)=True:=Arp (by simp);have e3:List.take ops.length (List.map V.b (ops++[K]))=List.map V.b ops:=by simp
     have e4:(ops.length<=(ops++[K]).length)=True:=Arp (by simp);have w6:IntKind.i64.wrap (k-1)=k-1:=by rw[wrap64 (by omega) (by omega)]
     simp only[Ajd,An9,AtX] at q3;cases K
     .simp only at d;simp only[push_cast,seval,y,bS];repeat' (first|(first|((first|apply Ai|apply Am|apply Al)<;>intro _h)|refine Ab w ?_|refine Ab r ?_|refine As (by omega) ?_)<;>simp only[push_cast,seval,Ae c (dn:=dn) (by omega),f3,f5,M,e0,e2,e3,e4,w5]|intro _)
      rename_i j8 N J I H j3 j2 Z j0;generalize z:((n+1+j8+1+N+1+J+1+I+1+H+1+j3,46):Id)=f;have L:f≠x:=λo=>by grind
      have F:f≠b:=λo=>by grind
      have T:x.1<f.1:=by grind
      have g4:f.1<n+1+j8+1+N+1+J+1+I+1+H+1+j3+1:=by grind
      clear z;exact⟨_,_,Ab4 _,Ag.drop (σ':=bS u x b out++[(f,AP.arr 4 1 (ops.map V.b))]) (Rv L F) (Ab6 _),dn++[c],a,_,u,b,out,ops,k,f,by simp,rfl,d,by simp;omega,q2,by simp;omega,by omega,R,T,F,by omega,by omega,rfl⟩
     .simp only at d;simp only[push_cast,seval,y,bS];repeat' (first|(first|((first|apply Ai|apply Am|apply Al)<;>intro _h)|refine Ab w ?_|refine Ab r ?_|refine As (by omega) ?_)<;>simp only[push_cast,seval,f3,f5,M,e0,e2,e3,e4,w5,w6]|intro _)
      rename_i j9 j8 N J I H j3 j2 Z j0;generalize z:((n+1+j9+1+j8+1+N+1+J+1+I+1+H,46):Id)=f;have L:f≠x:=λo=>by grind
      have F:f≠b:=λo=>by grind
      have T:x.1<f.1:=by grind
      have g4:f.1<n+1+j9+1+j8+1+N+1+J+1+I+1+H+1:=by grind
      clear z;refine Bd (σi:=bS u x b out) (OE O u x b out A l (by omega)) (Za L F) (λn2 v σo W U=>?_);obtain⟨rfl,E,i1,i2,rfl⟩:=U;have G:over (bS u x b out) (bS true x E (out++A)) [(f,AP.arr 4 1 (List.map V.b ops)),(x,AP.tbox TB (.agg [wA u x,.arr b])),(b,AP.arr 5 1 (A6 out))]=bS true x E (out++A)++[(f,AP.arr 4 1 (ops.map V.b))]:=Uz L F;rw[G];clear G;simp only[push_cast,seval,Ae c (dn:=dn) (by omega)]
      repeat' (first|(((first|apply Ai|apply Am|apply Al)<;>intro _h)<;>simp only[push_cast,seval,_h,y,Ae c (dn:=dn) (by omega)])|(refine As (by omega) ?_;simp only[push_cast,seval,y,Ae c (dn:=dn) (by omega)])|intro _)
      exact⟨_,_,Ab4 _,Ag.refl,dn++[c],a,_,true,E,out++A,ops,k-1,f,by simp,rfl,d,by simp;omega,by omega,by simp;omega,by simp;omega,by omega,T,λo=>by rw[<-o] at i1;omega,by omega,by omega,rfl⟩
def P3(s:Aa):Aa:=He [8296]++V7 s++He [8297]
theorem cU:∀(l) (a) (k) (out),k<=8->(Fc l a k out).1.length<=out.length+4*l.length/\(Fc l a k out).2<=8:=by
 intro l
 induction l with
 | nil=>intro a k out b;rw[Fc];simp;exact b
 | cons c l e=>
  intro a k out b;have d:=Fi c;rw[Fc];split
  .grind
  .split
   .split
    .grind
    .grind
    grind
   grind
theorem cQ n:(IP n).length<=4*n:=by
 induction n with
 | zero=>simp[IP]
 | succ n a=>have:=Fi 8297;rw[IP,Ajd];omega
theorem Yw s:(V7 s).length<=4*s.length+32:=by have b:=cU (NV s) [] 0 [] (by omega);have c:=cQ (Fc (NV s) [] 0 []).2.toNat;have a:=Qb s s.length 0;unfold V7;rw[Ajd];have d:(NV s).length<=s.length:=a;grind
theorem Abv s:(P3 s).length<=4*s.length+40:=by have a:=Yw s;have b:=Fi 8296;have c:=Fi 8297;unfold P3;grind
theorem Ajj(s:Aa)(g:s.length<=2^24):Ak π O 154 [.s s] [] (.s (P3 s)) []:=by
 have f:=d6 O s g;have d:=S4 O 8296;have e:=S4 O 8297;have h:=Yw s;have i:=Fi 8296;have j:=Fi 8297;unfold P3;generalize He [8296]=b at *;generalize He [8297]=c at *;generalize V7 s=B at *;refine Ac (vs:=[.s (b++B++c)]) Am1 (by simp) (by simp) λn0 a=>?_;clear a;push_cast;repeat' (first|(first|(apply AL<;>intro _h)|refine Ab f ?_|refine Ab d ?_|refine Ab e ?_|refine As (by simp only[Ajd,AG]<;>omega) ?_)<;>push_cast[_h]|intro _)
 exact Kn
def OA(x:Vu):V:=.agg [.s x.L.tag,.s x.L.parent,.s x.L.dir,.sl (x.L.card.map A8.enc),.sl (x.L.ord.map A8.enc),.s x.L.dec,.s x.L.grp,.s x.L.minus,.s x.L.perc,.i .i64 x.L.prim,.i .i64 x.L.sec,.sl (x.L.lists.map Ed.enc),.sl (x.L.units.map Fv.enc),.sl (x.L.dates.map E4.enc),.sl (x.L.months.map V.s),.sl (x.L.days.map V.s),.i .i64 x.y,.i .i64 x.m,.i .i64 x.d,.i .i64 x.wd]
structure Qs (x:Vu) (c:Nat):Prop where
 y:x.y<2^40
 m1:1<=x.m
 m2:x.m<=12
 d:x.d<2^40
 wd:x.wd<7
 c24:24<=c
 ml:∀s∈x.L.months,s.length<=c
 dl:∀s∈x.L.days,s.length<=c
theorem NY(b:Cu O) x c (a:Qs x c) f:(GY x f).1.length<=c:=by
 have j:=a.c24;have ⟨_,l1⟩:=GC O b x.y (by have:=a.y;omega);have ⟨_,l2⟩:=GC O b x.m (by have:=a.m2;omega);have ⟨_,l3⟩:=GC O b x.d (by have:=a.d;omega);have ⟨_,l4⟩:=Hs O b x.m (by have:=a.m2;omega);have ⟨_,l5⟩:=Hs O b x.d (by have:=a.d;omega);have e:∀(l:List Aa) (i:Nat),(∀s∈l,s.length<=c)->(l.getD i []).length<=c:=by grind
 have g:=e x.L.months (x.m-1) a.ml;have h:=e x.L.days x.wd a.dl;unfold GY;grind
theorem RH x:∀(n m) (p out),p.length<n->p.length<m->C4 x n p out=C4 x m p out:=by
 intro n
 induction n with
 | zero=>intro m p out h;omega
 | succ n d=>
  intro m p out b c;cases m with
  | zero=>omega
  | succ m=>
   rw[C4,C4];split
   .rfl
   .rename_i hp;have a:1<=p.length:=by grind
    grind
theorem dF(p:Aa)(hp:p.length<=2^20) A B τ n0 Q 
  (h:∀n,n0<=n->Q (.exit 2) ⟨[(1,.s p),(2,A),(6,B),(7,.i .i64 ((p.takeWhile EL).length:Nat)),(21,.b false)],τ,n⟩) :
  F8 π O 48 Rq Q ⟨[(1,.s p),(2,A),(6,B),(7,.i .i64 0)],τ,n0⟩:=by
 refine Aj p.length (Inv:=λm st=>∃dn a n,p=dn++a/\m=a.length/\(∀c∈dn,EL c=true)/\n0<=n/\st=⟨[(1,.s p),(2,A),(6,B),(7,.i .i64 dn.length)],τ,n⟩) ⟨_,Ag.refl,[],p,_,rfl,rfl,by simp,Ab6 _,rfl⟩ ?_;rintro m _ ⟨dn,a,n,g,rfl,o,t,rfl⟩;cases a with
 | nil=>
  have f:p.takeWhile EL=dn:=by have:=(yW (p:=EL) (w:=dn) (r:=[]) o (by simp)).1;rw[g];simpa using this
  rw[f] at h;have j:decide ((dn.length:Int)<(p.length:Int))=false:=by rw[g];simp
  simp only[push_cast,seval,rq,j];grind
 | cons c a=>
  have l:=A9 g;have e:=qG O c;cases k:EL c with
  | true=>
   rw[k] at e;simp only[push_cast,seval,rq,g,Ae c (dn:=dn) (by omega)];repeat' (first|(first|((first|apply Ai|apply Am|apply Al)<;>intro _h)|refine Ab e ?_|refine As (by omega) ?_)<;>simp only[push_cast,seval,rq,_h,g,Ae c (dn:=dn) (by omega)]|intro _)
   exact⟨_,_,Ab4 _,Ag.refl,dn++[c],a,_,by simp,rfl,λd q=>by grind
,by omega,rfl⟩
  | false=>
   rw[k] at e;have f:p.takeWhile EL=dn:=by simp_all
   rw[f,g] at h;simp only[push_cast,rq,g];repeat' (first|(first|((first|apply Ai|apply Am|apply Al)<;>intro _h)|refine Ab e ?_|refine As (by omega) ?_)<;>simp only[push_cast,rq]|intro _)
   exact h _ (by omega)
theorem Acn(Z:Cu O)(x:Vu)(c:Nat)(w:Qs x c)(p:Aa)(hp:p.length<=2^20)(hb:(p.length+1)*(c+1)<=2^29):Ak π O 210 [OA x,.s p] [] (.tup [.s (Ka x p).1,.i .i64 (Ka x p).2]) []:=by
 generalize hS:Ka x p=S;unfold Ka at hS;have L:=NY O Z x c w;unfold OA;refine Ac (vs:=[.s S.1,.i .i64 S.2]) Aof (by simp) (by simp) λn0 U=>?_;clear U;simp only[push_cast,seval]
 repeat' (first|(((first|apply Ai|apply Am|apply Al)<;>intro _h)<;>simp only[push_cast,seval,_h])|(refine As (by omega) ?_;simp only[push_cast,seval])|intro _)
 rename_i k1 k2;generalize ae:((n0+1+k1,6):Id)=bx;have h:bx.1<n0+1+k1+1+k2:=by grind
 have aa:n0<bx.1:=by grind
 generalize n0+1+k1+1+k2=n1 at *;have af:Qs x c:=w;have ⟨Y,hDV⟩:∃Y,Y=OA x:=⟨_,rfl⟩
 refine Aj p.length (Inv:=λm st=>∃n u b q out,m=q.length/\C4 x (q.length+1) q out=S/\q.length<=p.length/\out.length+q.length*(c+1)<=2^29/\bx.1<b.1/\b.1<n/\st=⟨[(1,.s q),(2,.ref (n0,2) 0),(6,.ref bx 0)],bS u bx b out++[((n0,2),.box (OA x))],n⟩) ⟨_,Ag.bld h,_,false,(n1,0),p,[],rfl,hS,Ab6 _,by grind,h,Ab4 _,rfl⟩ ?_;clear hS h;rintro m _ ⟨n,u,b,q,out,rfl,e,hq,V,J,ad,rfl⟩;have k:b≠bx:=λB=>by rw[B] at J;omega
 have f1:(bx=b)=False:=Ab8 (Ao0 k);have f2:(b=bx)=False:=Ab8 k;have f3:∀j,(((n0,j):Id)=bx)=False:=λj=>Ab8 λB=>by grind
 have f4:∀j,(bx=((n0,j):Id))=False:=λj=>Ab8 λB=>by grind
 have f5:∀j,(((n0,j):Id)=b)=False:=λj=>Ab8 λB=>by grind
 have f6:∀j,(b=((n0,j):Id))=False:=λj=>Ab8 λB=>by grind
 have r:∀E:AP,∀p∈[(((n0,2):Id),E)],p.1≠bx/\p.1≠b:=λE p hp=>by grind
 cases q with
 | nil=>rw[C4] at e;simp only[beq_self_eq_true,AbA] at e;subst e;have X:=WY O u bx b out k (by simp at V;omega);simp only[push_cast,seval];intros;refine AX X RZ ?_;simp only[push_cast,seval];intros;refine Ah ?_;simp[push_cast]
 | cons z q=>
  have ⟨R,hR⟩:∃R,R=z::q:=⟨_,rfl⟩
  have I:R.length=q.length+1:=by rw[hR];simp
  have H:R[0]?=some z:=by rw[hR];rfl
  have t:R.drop 1=q:=by rw[hR];rfl
  have ac:R.take 1=[z]:=by rw[hR];rfl
  have A:(R==([]:Aa))=false:=by rw[hR];rfl
  rw[<-hR] at e hq V⊢;clear hR;rw[C4,A] at e;simp only[Ab9,Ab7] at e;simp only[push_cast,seval,A];intros;refine dF O R (by omega) _ _ _ _ _ (λn3 ah=>?_);have N:(R.takeWhile EL).length<=R.length:=(List.takeWhile_sublist _).length_le;have C:=Abb O Z x (R.take (R.takeWhile EL).length) w.y ⟨w.m1,w.m2⟩ w.d w.wd;have ag:=L (R.take (R.takeWhile EL).length);generalize(R.takeWhile EL).length=K at *;have a:((K:Int)==0)=(K==0):=by rw[Aym];simp
  cases l:(K==0) with
  | true=>
   rw[l] at e;simp only[AbA] at e;simp only[push_cast,seval,a,l,H];intros;have W:out.length+1<=2^29:=by grind
   refine Bd (σi:=bS u bx b out) (Aml O u bx b out z k (by omega)) RZ (λn2 v σo T G=>?_);obtain⟨rfl,F,i1,i2,rfl⟩:=G;rw[Sx (r _)];have g:(1<=R.length)=True:=Arp (by omega);simp only[push_cast,seval,g,t,Ab6,AuB]
   repeat' (first|(((first|apply Ai|apply Am|apply Al)<;>intro _h)<;>simp only[push_cast,seval,_h,g,t,Ab6,AuB])|(refine As (by omega) ?_;simp only[push_cast,seval,g,t,Ab6,AuB])|intro _)
   refine⟨_,_,show q.length<R.length by omega,Ag.refl,_,true,F,q,out++[z],rfl,?_,by omega,?_,by omega,by omega,rfl⟩
   .grind
   .rw[I,A2p] at V;grind
  | false=>
   rw[l] at e;simp only[Ab9,Ab7] at e;have M:1<=K:=by grind
   have g:(K<=R.length)=True:=Arp N;generalize hF:GY x (R.take K)=D at *;have f:∀E:AP,lk (bS u bx b out++[((n0,2),E)]) (n0,2)=some E:=λE=>by simp only[bS,AvC,Avc,lk,f4,f6,Ab9,AbA]
   cases o:(D.2==0) with
   | true=>
    rw[o] at e;simp only[AbA] at e;have W:out.length+D.1.length<=2^29:=by have:1*(c+1)<=R.length*(c+1):=A0M _ (by omega);omega
    simp only[push_cast,seval,a,l,f,OA,g,Avz];intros;refine Ab (by exact C) ?_;simp only[push_cast,seval,o,bne]
    repeat' (first|(((first|apply Ai|apply Am|apply Al)<;>intro _h)<;>simp only[push_cast,seval,_h,a,l,f,OA,g,o,bne,Avz,Ab6,AuB])|(refine As (by omega) ?_;simp only[push_cast,seval,a,l,f,OA,g,o,bne,Avz,Ab6,AuB])|intro _)
    refine Bd (σi:=bS u bx b out) (OE O u bx b out D.1 k (by omega)) RZ (λn2 v σo T G=>?_);obtain⟨rfl,F,i1,i2,rfl⟩:=G;rw[Sx (r _)];simp only[push_cast,seval,g,Ab6,AuB]
    repeat' (first|(((first|apply Ai|apply Am|apply Al)<;>intro _h)<;>simp only[push_cast,seval,_h,a,g,Avz,Ab6,AuB])|(refine As (by omega) ?_;simp only[push_cast,seval,a,g,Avz,Ab6,AuB])|intro _)
    refine⟨_,_,show(R.drop K).length<R.length by simp;omega,Ag.refl,_,true,F,R.drop K,out++D.1,rfl,?_,by simp;omega,?_,by omega,?_,rfl⟩
    .rw[RH x _ R.length (R.drop K) _ (by omega) (by simp;omega)];exact e
    .have h1:R.length*(c+1)=(R.drop K).length*(c+1)+K*(c+1):=by rw[<-A2p];congr 1;simp;omega
     have h2:1*(c+1)<=K*(c+1):=A0M _ M;grind
    .omega
   | false=>
    rw[o] at e;simp only[Ab9,Ab7] at e;subst e;simp only[push_cast,seval,a,l,f,OA,g,Avz];intros;refine Ab (by exact C) ?_;simp only[push_cast,seval,o,bne]
    repeat' (first|(((first|apply Ai|apply Am|apply Al)<;>intro _h)<;>simp only[push_cast,seval,_h,a,l,f,OA,g,o,bne,Avz,Ab6,AuB])|(refine As (by omega) ?_;simp only[push_cast,seval,a,l,f,OA,g,o,bne,Avz,Ab6,AuB])|intro _)
    refine Ah ?_;simp[push_cast]
structure yM (L:Du) (c:Nat):Prop where
 c24:24<=c
 ml:∀s∈L.months,s.length<=c
 dl:∀s∈L.days,s.length<=c
 n:L.dates.length<=2^20
 sk:∀p∈L.dates,p.skel.length<=2^20
 pt:∀p∈L.dates,p.pat.length<=2^20/\(p.pat.length+1)*(c+1)<=2^29
theorem cY A:∀(l) (i b a),DR A l i b a=b\/i<=DR A l i b a/\DR A l i b a<i+l.length:=by
 intro l
 induction l with
 | nil=>intro i b a;left;rw[DR]
 | cons p l c=>intro i b a;rw[DR];grind
theorem Afe{l a}(h:(Fj l a).2=0):∃(i:Nat) (p:E4),(Fj l a).1=i/\l[i]?=some p:=by
 unfold Fj at h⊢;cases b:CW a with
 | none=>rw[b] at h;cases h
 | some w=>
  rw[b] at h;simp only at h⊢;have c:=cY (Gn w) l 0 (-1) 0;generalize DR (Gn w) l 0 (-1) 0=B at *;by_cases hB:B<0
  .grind
  .rw[AfL hB];refine⟨B.toNat,l[B.toNat]'(by omega),by simp only;omega,Am7 (by omega)⟩
theorem eP l a:(Fj l a).2=0\/(Fj l a).2=3\/(Fj l a).2=8:=by unfold Fj;grind
theorem eL(E:Cu O)(L:Du)(c:Nat)(j:yM L c)(b:Aa)(d:Int)(G:b.length<=2^24):Ak π O 163 [L.enc,.s b,.i .i64 d] [] (.tup [.s (FM L b d).1,.i .i64 (FM L b d).2]) []:=by
 have e:=Aks O L.dates b G (by have:=j.n;omega) j.sk;have r:=eP L.dates b;have u:=@Afe L.dates b;generalize hS:FM L b d=S;unfold FM at hS;rw[Du.enc_eq];cases l:EH d with
 | false=>
  have k:=TA O d l;rw[l] at hS;refine Ac (vs:=[.s S.1,.i .i64 S.2]) OW (by simp) (by simp) λn0 a=>?_;clear a;simp only[push_cast,seval]
  all_goals ((try simp only[Ab9,reduceCtorEq] at hS);subst hS)
  all_goals (try simp only )
  all_goals (repeat' (first|((first|refine Ab (by exact k) ?_|refine As (by omega) ?_);(try simp only[push_cast,seval]))|intro _))
  all_goals (first|(refine Af ?_;simp[get];done)|(refine Ah ?_;simp[push_cast];done)|skip)
 | true=>
  have k:=Zc O d l;have q:=fT O d l;have ⟨q1,q2,q3,q4,q5,q6⟩:=QZ l;have m:Qs (My L d) c:=by
   have K:(d+25567).tmod 7<7:=Int.tmod_lt_of_pos _ (by omega);refine⟨?_,q3,q4,?_,?_,j.c24,j.ml,j.dl⟩
   .show(IY d).1.toNat<_;omega
   .show((GR d).2+1).toNat<_;omega
   .show((d+25567).tmod 7).toNat<_;omega
  have g:=fun(p:Aa) (A:p.length<=2^20) (B:(p.length+1)*(c+1)<=2^29)=>Acn O E (My L d) c m p A B;have x:(((My L d).y:Nat):Int)=(IY d).1:=by show((IY d).1.toNat:Int)=_;omega
  have z:(((My L d).d:Nat):Int)=(GR d).2+1:=by show(((GR d).2+1).toNat:Int)=_;omega
  unfold OA at g;rw[x,z] at g;rw[l] at hS;simp only[AbA] at hS;generalize C:(Fj L.dates b).1=I at *;generalize D:(Fj L.dates b).2=J at *;rcases r with rfl|rfl|rfl
  .obtain⟨i,p,rfl,hp⟩:=u rfl;have h:=j.pt p (Ao6 hp);have o:=g p.pat h.1 h.2;have f:=ArB O p.pat h.1;have t:(L.dates.map E4.enc)[i]?=some p.enc:=by simp_all
   have F:(i<L.dates.length)=True:=Arp (Ao5.1 hp).1;have H:((0:Int)==8)=false:=rfl;have z2:((0:Int)==0)=true:=rfl;simp only[H,z2,AbA,Ab9,Ab7,A1i,hp] at hS;generalize Ka (My L d) p.pat=v at *;rw[E4.enc_eq] at t;cases w:cM p.pat with
   | true=>
    rw[w] at f hS;simp only[AbA] at hS;subst hS;refine Ac (vs:=[.s v.1,.i .i64 v.2]) OW (by simp) (by simp) λn0 a=>?_;clear a;simp only[push_cast,seval];repeat' (first|(first|((first|apply Ai|apply Am|apply Al)<;>intro _h)|refine Ab k ?_|refine Ab e ?_|refine Ab f ?_|refine Ab q ?_|refine Ab o ?_|refine As (by omega) ?_)<;>simp only[push_cast,seval,t]|intro _)
    refine Ah ?_;simp[push_cast]
   | false=>
    rw[w] at f hS;simp only[Ab9,Ab7] at hS;subst hS;refine Ac (vs:=[.s [],.i .i64 4]) OW (by simp) (by simp) λn0 a=>?_;clear a;simp only[push_cast,seval];repeat' (first|(first|((first|apply Ai|apply Am|apply Al)<;>intro _h)|refine Ab k ?_|refine Ab e ?_|refine Ab f ?_|refine Ab q ?_|refine As (by omega) ?_)<;>simp only[push_cast,seval,t]|intro _)
    refine Ah ?_;simp[push_cast]
  .simp only[show((3:Int)==8)=false from rfl,show((3:Int)==0)=false from rfl,Ab9,Ab7] at hS;subst hS;refine Ac (vs:=[.s [],.i .i64 3]) OW (by simp) (by simp) λn0 a=>?_;clear a;simp only[push_cast,seval];repeat' (first|(first|((first|apply Ai|apply Am|apply Al)<;>intro _h)|refine Ab k ?_|refine Ab e ?_|refine As (by omega) ?_)<;>simp only[push_cast,seval]|intro _)
   refine Ah ?_;simp[push_cast]
  .simp only[show((8:Int)==8)=true from rfl,AbA] at hS;subst hS;refine Ac (vs:=[.s [],.i .i64 18]) OW (by simp) (by simp) λn0 a=>?_;clear a;simp only[push_cast,seval];repeat' (first|(first|((first|apply Ai|apply Am|apply Al)<;>intro _h)|refine Ab k ?_|refine Ab e ?_|refine As (by omega) ?_)<;>simp only[push_cast,seval]|intro _)
   refine Ah ?_;simp[push_cast]
end Go.Ir
namespace Go.Proofs
open Go.RowKit Go.Shelf
attribute [local go_sem] Oper.semAt_some
def Tryz.en(zs:List ByteArray)(a j:Nat):Int×ByteArray:=((a:Int)-1-(j:Int),zs[a-1-j]?.getD default)
structure Pc (n₀ Bs:Nat) (W W':World):Prop where
 below:Below n₀ W W'
 box:∀o,W.heap[Bs]?=some o->o.isCells=true->W'.heap[Bs]?=some o
theorem Pc.refl(a b:Nat)(W:World):Pc a b W W:=⟨Below.refl _ _,λ_ h _=>h⟩
theorem Pc.trans{a b:Nat}{A B C:World}(h:Pc a b A B)(k:Pc a b B C):Pc a b A C:=⟨h.below.trans k.below,λo d c=>k.box o (h.box o d c) c⟩
theorem Pc.put{a c:Nat}{w:World}(j:a<=w.heap.size)(W:World)(l:Nat)(o g:Obj)(i:w.heap.size<=l)(h:W.heap[l]?=some o)(d:o.isCells=false)(k:o.isWalk=false):Pc a c W (W.putObj l g):=
 ⟨belowK_b j W l o g i h d k,λu b f=>by
  by_cases e:c=l
  .subst e;rw[h] at b;cases b;rw[d] at f;cases f
  .exact(World.putObj_heap_other e).trans b⟩
theorem Pc.set{a b:Nat}(W:World)(p:Addr)(v:Value)(c:a<=p.block)(hB:b≠p.block):Pc a b W (W.setCell p v):=
 ⟨(Below.refl a W).setCell c _,λ_ d _=>(Below.heap_setCell W p v b hB).trans d⟩
theorem Pc.of{a b:Nat}{W c:World}(h:Below W.heap.size W c)(e:a<=W.heap.size):Pc a b W c:=
 ⟨h.mono e,λ_ d _=>(h.block b (Array.getElem?_eq_some_iff.1 d).1).trans d⟩
theorem Tryz.back1_in(F:Fence)(n:Nat)(G:F.fn 273)(z:F.round=none)(Y:1<=n)(l s c b d a u:Nat)(zs:List ByteArray)(C:a<=2^30)(L:b<c)(J A:List Nat->World->Prop)
  (K:∀pre x W,J pre W->pre.length<a->YieldAt F (n-1) Tryz.prog l #[.int .i64 (Tryz.en zs a x).1,.string (Tryz.en zs a x).2] W λe g=>
   (e=.returned (.bool true)/\J (pre++[x]) g/\Pc c s W g)\/(e=.returned (.bool false)/\A (pre++[x]) g))
  (W:World)(h:Boxed W s 28 (.slice (some ⟨b,d,none⟩) a u))(N:∀j,j<a->W.cell? ⟨b,d+j,none⟩=some (.string (zs[j]?.getD default)))(E:J [] W) :
  CallsIn F n Tryz.prog 273 #[.func (.yield l) #[] #[],.pointer (some ⟨s,0,none⟩)] W λe g=>(∃v,e=.returned v)/\
   ((∃ys,ys=List.range a/\J ys g)\/(∃pre,(∃k,k<=a/\pre=List.range k)/\A pre g)):=by
 refine callsIn_of_wp Tryz.func273 rfl G ?_ z;simp only[Tryz.ntmps273,List.size_toArray,List.length_cons,List.length_nil,Nat.reduceAdd,Nat.reduceSub,Array.replicate_succ,Array.replicate_zero,List.push_toArray,List.append_toArray,List.nil_append,List.cons_append];have H:=h.cell
 gi_wp2
 gi_loopw [3] (λi wr=>∃k r:Nat,k+r=a/\i=.int .i64 ((r:Int)-1)/\J (List.range k) wr/\Pc c s W wr)
  (λi _=>(intOf i+1).toNat)
 case atStart=>exact⟨0,a,by omega,rfl,E,Pc.refl _ _ _⟩
 case round=>
  obtain⟨k,r,X,rfl,o,f⟩:=hrel;have M:=Boxed.cell (f.box _ h rfl);cases r with
  | zero=>
   obtain rfl:k=a:=by omega
   gi_wp2
   go_end0
   exact⟨⟨_,rfl⟩,.inl ⟨_,rfl,o⟩⟩
  | succ m=>
   have T:((m+1:Nat):Int)-1=(m:Int):=by omega
   rw[T];have R:wr.cell? ⟨b,d+m,none⟩=some (.string (zs[m]?.getD default)):=(f.below.cell (p:=⟨b,d+m,none⟩) L).trans (N m (by omega));obtain⟨V,tmps,t,B,D,I⟩:=K _ k wr o (by rw[List.length_range];omega);have S:Tryz.en zs a k=((m:Int),zs[m]?.getD default):=by rw[Tryz.en,show(a:Int)-1-(k:Int)=(m:Int) by omega,show a-1-k=m by omega]
   rw[S] at D;dsimp only at D
   gi_wp2
   refine I.mono ?_;rintro e U (⟨rfl,w,y⟩|⟨rfl,q⟩)
   .gi_wp2
    go_roundw
    case rel=>exact⟨k+1,m,by omega,rfl,by rw[List.range_succ];exact w,f.trans y⟩
    case measure=>simp[intOf]
   .gi_wp2
    refine bodyPost_ret (results_none rfl _ _ _) rfl ?_;exact⟨⟨_,rfl⟩,.inr ⟨_,⟨k+1,by omega,by rw[List.range_succ]⟩,q⟩⟩
theorem Tryz.back_in(F:Fence)(n:Nat)(f:F.fn 252)(d:F.round=none)(a:Option Addr)(c b:Nat)(w:World) :
  CallsIn F n Tryz.prog 252 #[.slice a c b] w λe w'=>e=.returned (.func (.func 273) #[] #[.pointer (some ⟨w.heap.size,0,none⟩)])/\w'=w.alloc (.cells #[.slice a c b] 28):=by
 refine callsIn_of_wp Tryz.func252 rfl f ?_ d;simp only[Tryz.ntmps252,List.size_toArray,List.length_cons,List.length_nil,Nat.reduceAdd,Nat.reduceSub,Array.replicate_succ,Array.replicate_zero,List.push_toArray,List.append_toArray,List.nil_append,List.cons_append]
 gi_wp2
 go_ret
 exact⟨rfl,rfl⟩
theorem Tryz.back_stops(F:Fence)(n:Nat)(t:F.fn 273)(m:F.round=none)(y:1<=n)(f c b d a g:Nat)(zs:List ByteArray)(i:a<=2^30)(w:World)(h:Boxed w f 28 (.slice (some ⟨b,d,none⟩) a g))(q:b<c)(e:c<=w.heap.size)
  (hI:∀j,j<a->w.cell? ⟨b,d+j,none⟩=some (.string (zs[j]?.getD default))) :
  SeqStopsK F n Tryz.prog 273 #[.pointer (some ⟨f,0,none⟩)] (λx:Nat=>#[Value.int .i64 (Tryz.en zs a x).1,Value.string (Tryz.en zs a x).2]) (Pc c f) (λys=>ys=List.range a) (λpre=>∃k,k<=a/\pre=List.range k) a w:=λl J r W o _ _ u s=>
 Tryz.back1_in F n t m y l f c b d a g zs i q J r u W ((o.block f h.lt).trans h) (λj v=>(o.cell (p:=⟨b,d+j,none⟩) (Nat.lt_of_lt_of_le q e)).trans (hI j v)) s
abbrev AqQ(Q:Exit->Act->World->Prop)(e:Exit)(a:Act)(w:World):Prop:=match e with
 | .panic _=>False
 | e=>Q e a w
theorem Xs{Q:Exit->Act->World->Prop}(e:Exit)(a:Act)(w:World)(h:AqQ Q e a w):Q e a w:=by cases e<;>first|exact h|exact h.elim
def NS(fil:ByteArray->ByteArray->ByteArray->ByteArray)(O:World)(q a b:ByteArray):Prop:=
 ∀w,Below O.heap.size O w->Calls Tryz.prog 251 #[.string q,.string a,.string b] w λe w'=>e=.returned (.string (fil q a b))/\Below w.heap.size w w'
structure JC (w:World) (c2 c3:ByteArray) (B6:Nat) (r:ByteArray) (Y:World):Prop where
 below:Below w.heap.size w Y
 p2:Y.cell? ⟨w.heap.size,2,none⟩=some (.string c2)
 p3:Y.cell? ⟨w.heap.size,3,none⟩=some (.string c3)
 r4:Y.cell? ⟨w.heap.size+1,0,none⟩=some (.string ⟨#[]⟩)/\Y.frozen? ⟨w.heap.size+1,0,none⟩=false
 r6:Y.cell? ⟨B6,0,none⟩=some (.string r)/\Y.frozen? ⟨B6,0,none⟩=false
 lo:w.heap.size+2<=B6
 hi:B6<Y.heap.size
theorem JC.alloc{w X b:World}{f c3 c:ByteArray}(t:TypeId)(l:Below w.heap.size w X)(i:Below X.heap.size X b)(m:X.heap.size=w.heap.size+2)(j:X.cell? ⟨w.heap.size,2,none⟩=some (.string f))(k:X.cell? ⟨w.heap.size,3,none⟩=some (.string c3))
  (g:X.cell? ⟨w.heap.size+1,0,none⟩=some (.string ⟨#[]⟩)/\X.frozen? ⟨w.heap.size+1,0,none⟩=false):JC w f c3 b.heap.size c (b.alloc (.cells #[.string c] t)):=by
 have o:=i.size;have a:Below X.heap.size X (b.alloc (.cells #[.string c] t)):=i.alloc o _;have d:=Boxed.new b t (.string c);have e:∀p:Addr,p.block<w.heap.size+2->p.block<X.heap.size:=λp h=>m ▸ h;exact⟨l.trans (a.mono (by omega)),(a.cell (e _ (by show w.heap.size<_;omega))).trans j,(a.cell (e _ (by show w.heap.size<_;omega))).trans k,⟨(a.cell (e _ (by show w.heap.size+1<_;omega))).trans g.1,(a.frozen (e _ (by show w.heap.size+1<_;omega))).trans g.2⟩,⟨d.cell,d.frozen⟩,by omega,by rw[World.size_alloc];omega⟩
theorem JC.set{w X a:World}{d c3 c:ByteArray}(k:Below w.heap.size w X)(g:Below X.heap.size X a)(m:X.heap.size=w.heap.size+2)(i:X.cell? ⟨w.heap.size,2,none⟩=some (.string d))(j:X.cell? ⟨w.heap.size,3,none⟩=some (.string c3))
  (f:X.cell? ⟨w.heap.size+1,0,none⟩=some (.string ⟨#[]⟩)/\X.frozen? ⟨w.heap.size+1,0,none⟩=false){v:Value}(k1:a.cell? ⟨w.heap.size+2,0,none⟩=some v)(k2:a.frozen? ⟨w.heap.size+2,0,none⟩=false):JC w d c3 (w.heap.size+2) c (a.setCell ⟨w.heap.size+2,0,none⟩ (.string c)):=by
 have q:=g.size;have b:Below X.heap.size X (a.setCell ⟨w.heap.size+2,0,none⟩ (.string c)):=g.setCell (p:=⟨w.heap.size+2,0,none⟩) (by show X.heap.size<=w.heap.size+2;omega) _;have e:∀p:Addr,p.block<w.heap.size+2->p.block<X.heap.size:=λp h=>m ▸ h;have l1:w.heap.size+2<a.heap.size:=by obtain⟨o,l,_⟩:=cells_of_cell k1;exact(Array.getElem?_eq_some_iff.1 l).1
 exact⟨k.trans (b.mono (by omega)),(b.cell (e _ (by show w.heap.size<_;omega))).trans i,(b.cell (e _ (by show w.heap.size<_;omega))).trans j,⟨(b.cell (e _ (by show w.heap.size+1<_;omega))).trans f.1,(b.frozen (e _ (by show w.heap.size+1<_;omega))).trans f.2⟩,⟨World.cell?_setCell_same' _ _ _ (by rw[k1];rfl),by rw[World.frozen?_setCell];exact k2⟩,Nat.le_refl _,by simpa using l1⟩
theorem Jg(w:World)(p a:Addr)(v:Value)(h:p.block≠a.block):(w.setCell p v).cell? a=w.cell? a:=World.cell?_setCell_other _ _ _ _ (λe=>h (e ▸ rfl))
theorem jV{W a:World}(h:Below W.heap.size W a)(B:Nat):KeepsFrom B W a:=⟨h.size,λk o _ b _=>(h.block k (Array.getElem?_eq_some_iff.1 b).1).trans b⟩
def Tryz.joinR(fil:ByteArray->ByteArray->ByteArray->ByteArray)(a c3:ByteArray):List (Int×ByteArray)->ByteArray->ByteArray
 | [],r=>r
 | x::l,r=>if 20000<r.size then r else Tryz.joinR fil a c3 l (fil (if x.1=0 then a else c3) x.2 r)
theorem Tryz.join_in(fil:ByteArray->ByteArray->ByteArray->ByteArray)(O w:World)(hw:Below O.heap.size O w)(c0 c1 c2 c3 c4:ByteArray)(b off L cap:Nat)(hL:L<=1000)(hL3:3<=L)(hcap:L<=cap)(zs:List ByteArray)(hzs:∀j:Nat,(zs[j]?.getD default).size<=2^20)(hcs:c2.size<=2^20/\c3.size<=2^20/\c4.size<=2^20)(hb:b<w.heap.size)(hz:∀j,j<L->w.cell? ⟨b,off+j,none⟩=some (.string (zs[j]?.getD default)))
  (hf:∀q x y:ByteArray,q.size<=2^20->x.size<=2^21->y.size<=2^21->NS fil O q x y/\(fil q x y).size<=q.size+x.size+y.size)(R:ByteArray)
  (hR:Tryz.joinR fil c2 c3 ((List.range (L-2)).map (Tryz.en zs (L-2))) (fil c4 (zs[L-2]?.getD default) (zs[L-1]?.getD default))=R) :
  Calls Tryz.prog 212 #[.agg #[.string c0,.string c1,.string c2,.string c3,.string c4],.slice (some ⟨b,off,none⟩) L cap] w fun e w'=>e=.returned (.string R)/\Below w.heap.size w w':=by
 refine(callsIn_wide (n:=9)).1 ?_
 have hro:Fence.wide.round=none:=rfl
 refine callsIn_of_wp_marks Tryz.func212 rfl trivial (Code.wpIn_mono Xs ?_) hro
 simp only[Tryz.ntmps212,List.size_toArray,List.length_cons,List.length_nil,Nat.reduceAdd,Nat.reduceSub,Array.replicate_succ,Array.replicate_zero,List.push_toArray,List.append_toArray,List.nil_append,List.cons_append]
 gi_wp2
 generalize hX:((w.alloc (.cells #[.string c0,.string c1,.string c2,.string c3,.string c4] 193)).alloc (.cells #[.string ⟨#[]⟩] 9))=X
 have hBX:Below w.heap.size w X:=by rw[<-hX];exact((Below.refl _ w).alloc (Nat.le_refl _) _).alloc (by simp) _
 have hXs:X.heap.size=w.heap.size+2:=by rw[<-hX];simp
 have hp:∀j c,j<5->#[c0,c1,c2,c3,c4][j]?=some c->X.cell? ⟨w.heap.size,j,none⟩=some (.string c)/\X.frozen? ⟨w.heap.size,j,none⟩=false:=by
  intro j c hj hc
  have hA:=World.alloc_heap_new w (.cells #[.string c0,.string c1,.string c2,.string c3,.string c4] 193)
  generalize hV:w.alloc (.cells #[.string c0,.string c1,.string c2,.string c3,.string c4] 193)=V at *
  have hVs:V.heap.size=w.heap.size+1:=by rw[<-hV];simp
  have hb:=(Below.refl V.heap.size V).alloc (Nat.le_refl _) (.cells #[.string ⟨#[]⟩] 9)
  rw[hX] at hb
  rw[hb.cell (p:=⟨w.heap.size,j,none⟩) (by show w.heap.size<_;omega),hb.frozen (p:=⟨w.heap.size,j,none⟩) (by show w.heap.size<_;omega)]
  rcases j with _|_|_|_|_|j
  all_goals first
   | (simp at hc;subst hc;simp[World.cell?,World.frozen?,hA];done)
   | omega
 have hq4:=hp 4 c4 (by omega) rfl
 have hr0:X.cell? ⟨w.heap.size+1,0,none⟩=some (.string ⟨#[]⟩)/\X.frozen? ⟨w.heap.size+1,0,none⟩=false:=by
  have bN:=Boxed.new (w.alloc (.cells #[.string c0,.string c1,.string c2,.string c3,.string c4] 193)) 9 (.string ⟨#[]⟩)
  rw[hX,World.size_alloc] at bN
  exact⟨bN.cell,bN.frozen⟩
 have hzX:∀j,j<L->X.cell? ⟨b,off+j,none⟩=some (.string (zs[j]?.getD default)):=fun j hj=>(hBX.cell (p:=⟨b,off+j,none⟩) hb).trans (hz j hj)
 have hw2:IntKind.i64.wrap ((L:Int)-2)=((L-2:Nat):Int):=by rw[IntKind.wrap_i64];omega
 have hw1:IntKind.i64.wrap ((L:Int)-1)=((L-1:Nat):Int):=by rw[IntKind.wrap_i64];omega
 have hz2:=hzX (L-2) (by omega)
 have hz1:=hzX (L-1) (by omega)
 have hl2:L-2<L:=by omega
 have hl1:L-1<L:=by omega
 have hq4c:=hq4.1
 have old:∀(o:Obj) (p:Addr),p.block<w.heap.size+2->(X.alloc o).cell? p=X.cell? p:=fun o p h=>((Below.refl X.heap.size X).alloc (Nat.le_refl _) o).cell (by rw[hXs];exact h)
 have hz2a:=fun o=>(old o ⟨b,off+(L-2),none⟩ (by simp;omega)).trans hz2
 have hz1a:=fun o=>(old o ⟨b,off+(L-1),none⟩ (by simp;omega)).trans hz1
 have hq4a:=fun o=>(old o ⟨w.heap.size,4,none⟩ (by simp)).trans hq4c
 rename_i Q h0 h1 h2 K hK
 have hR1s:=(hf c4 (zs[L-2]?.getD default) (zs[L-1]?.getD default) hcs.2.2 (Nat.le_trans (hzs _) (by decide)) (Nat.le_trans (hzs _) (by decide)))
 obtain⟨hf0,hR1s⟩:=hR1s
 generalize hR1:fil c4 (zs[L-2]?.getD default) (zs[L-1]?.getD default)=R1 at *
 have rest:∀B6 Y,JC w c2 c3 B6 R1 Y->Exit.then K Q Exit.normal { defers:=[],tmps:=#[.agg #[.string c0,.string c1,.string c2,.string c3,.string c4],
     .slice (some ⟨b,off,none⟩) L cap,.pointer (some ⟨w.heap.size,0,none⟩),undef,.pointer (some ⟨w.heap.size+1,0,none⟩),.int .i64 L,
     .pointer (some ⟨B6,0,none⟩),undef,undef,undef,
     .slice (some ⟨b,off,none⟩) L cap,.int .i64 L,.int .i64 L,
     .bool false,.bool false,.bool false,.bool false,undef,undef,undef,.bool false,
     .bool false,undef,undef,undef,undef,undef,undef,undef,undef,undef,
     .pointer (some ⟨w.heap.size,4,none⟩),.string c4,
     .slice (some ⟨b,off,none⟩) L cap,.int .i64 L,.int .i64 ((L-2:Nat):Int),
     .pointer (some ⟨b,off+(L-2),none⟩),.string (zs[L-2]?.getD default),
     .slice (some ⟨b,off,none⟩) L cap,.int .i64 L,.int .i64 ((L-1:Nat):Int),
     .pointer (some ⟨b,off+(L-1),none⟩),.string (zs[L-1]?.getD default),
     .string R1,undef,undef,undef,undef,undef,undef,undef,undef,undef,undef,undef,undef,undef,
     undef,undef,undef,undef,undef,undef,undef,undef,undef] } Y:=by
  rintro B6 Y ⟨jb,jp2,jp3,jr4,jr6,jlo,jhi⟩
  refine hK _ _ ?_
  gi_wp2_with (refine⟨trivial,?_⟩;gi_at_call 252;refine(Tryz.back_in Fence.wide 8 trivial rfl _ _ _ _).mono ?_;rintro e w' ⟨rfl,rfl⟩)
  have bN:=Boxed.new Y 28 (.slice (some ⟨b,off,none⟩) (L-2) cap)
  generalize hZ:Y.alloc (.cells #[.slice (some ⟨b,off,none⟩) (L-2) cap] 28)=Z
  rw[hZ] at bN
  have hBZ:Below w.heap.size w Z:=by rw[<-hZ];exact jb.alloc (by have:=jb.size;omega) _
  have hZs:Z.heap.size=Y.heap.size+1:=by rw[<-hZ];simp
  have hYs:w.heap.size<=Y.heap.size:=jb.size
  have oldY:∀p:Addr,p.block<Y.heap.size->Z.cell? p=Y.cell? p/\Z.frozen? p=Y.frozen? p:=fun p h=>by rw[<-hZ];exact⟨((Below.refl _ Y).alloc (Nat.le_refl _) _).cell h,((Below.refl _ Y).alloc (Nat.le_refl _) _).frozen h⟩
  have zb:∀p:Addr,p.block<w.heap.size->Z.cell? p=w.cell? p:=fun p h=>hBZ.cell h
  have h6:=(oldY ⟨B6,0,none⟩ jhi)
  have h4:=(oldY ⟨w.heap.size+1,0,none⟩ (by show w.heap.size+1<_;omega))
  have h2:=(oldY ⟨w.heap.size,2,none⟩ (by show w.heap.size<_;omega)).1
  have h3:=(oldY ⟨w.heap.size,3,none⟩ (by show w.heap.size<_;omega)).1
  refine wpIn_rangeFunc_ownG hro (by decide) (gf:=273) (lb:=#[.pointer (some ⟨Y.heap.size,0,none⟩)]) rfl trivial (enters_of Tryz.func273 (by kernel_rfl) rfl)
   (Tryz.back_stops Fence.wide 8 trivial rfl (by decide) Y.heap.size w.heap.size b off (L-2) cap zs (by omega) Z bN hb (by omega) (fun j hj=>(zb _ hb).trans (hz j (by omega)))) Pc.trans (Pc.put (by omega)) (Below.refl _ _) (fun _=>rfl)
   (fun(pre:List Nat) W=>((∃r:ByteArray,(∀suf,Tryz.joinR fil c2 c3 (pre.map (Tryz.en zs (L-2))++suf) R1=Tryz.joinR fil c2 c3 suf r)/\r.size<=2^22/\W.cell? ⟨B6,0,none⟩=some (.string r)/\W.frozen? ⟨B6,0,none⟩=false)/\
    W.cell? ⟨w.heap.size+1,0,none⟩=some (.string ⟨#[]⟩)/\W.frozen? ⟨w.heap.size+1,0,none⟩=false/\W.cell? ⟨w.heap.size,2,none⟩=some (.string c2)/\W.cell? ⟨w.heap.size,3,none⟩=some (.string c3))/\Below w.heap.size w W)
   (fun c (pre:List Nat) W=>(c=.ret/\∃r:ByteArray,(∀suf,Tryz.joinR fil c2 c3 (pre.map (Tryz.en zs (L-2))++suf) R1=r)/\W.cell? ⟨w.heap.size+1,0,none⟩=some (.string r))/\Below w.heap.size w W)
   (OwnFrom.and (Own.from (fun s A B row hs hg hr=>by
    obtain⟨⟨r,g1,g2,g3,g4⟩,g5,g6,g7,g8⟩:=hs
    exact⟨⟨r,g1,g2,cell_kept g3 hg hr,(frozen_kept g3 hg hr).trans g4⟩,cell_kept g5 hg hr,(frozen_kept g5 hg hr).trans g6,cell_kept g7 hg hr,cell_kept g8 hg hr⟩) _) (ownFrom_below (Nat.le_refl _) (by omega)))
   (fun c=>OwnFrom.and (Own.from (fun s A B row hs hg hr=>by
    obtain⟨g0,r,g1,g2⟩:=hs
    exact⟨g0,r,g1,cell_kept g2 hg hr⟩) _) (ownFrom_below (Nat.le_refl _) (by omega)))
   ⟨⟨⟨R1,fun _=>rfl,by have:=hzs (L-2);have:=hzs (L-1);have:=hcs.2.2;omega,h6.1.trans jr6.1,h6.2.trans jr6.2⟩,h4.1.trans jr4.1,h4.2.trans jr4.2,h2.trans jp2,h3.trans jp3⟩,hBZ⟩
   (fun x=>{ defers:=[],tmps:=#[.agg #[.string c0,.string c1,.string c2,.string c3,.string c4],.slice (some ⟨b,off,none⟩) L cap,.pointer (some ⟨w.heap.size,0,none⟩),undef,.pointer (some ⟨w.heap.size+1,0,none⟩),.int .i64 L,.pointer (some ⟨B6,0,none⟩),.int .i64 (Tryz.en zs (L-2) x).1,.string (Tryz.en zs (L-2) x).2,undef,.slice (some ⟨b,off,none⟩) L cap,.int .i64 L,.int .i64 L,.bool false,.bool false,.bool false,.bool false,undef,undef,undef,.bool false,.bool false,undef,undef,undef,undef,undef,undef,undef,undef,undef,.pointer (some ⟨w.heap.size,4,none⟩),.string c4,.slice (some ⟨b,off,none⟩) L cap,.int .i64 L,.int .i64 ((L-2:Nat):Int),.pointer (some ⟨b,off+(L-2),none⟩),.string (zs[L-2]?.getD default),.slice (some ⟨b,off,none⟩) L cap,.int .i64 L,.int .i64 ((L-1:Nat):Int),.pointer (some ⟨b,off+(L-1),none⟩),.string (zs[L-1]?.getD default),.string R1,.slice (some ⟨b,off,none⟩) L cap,.int .i64 L,.int .i64 ((L-2:Nat):Int),.slice (some ⟨b,off,none⟩) (L-2) cap,.func (.func 273) #[] #[.pointer (some ⟨Y.heap.size,0,none⟩)],.int .i64 (Tryz.en zs (L-2) x).1,.string (Tryz.en zs (L-2) x).2,undef,undef,undef,undef,undef,undef,undef,undef,undef,undef,undef,undef,undef,undef,undef] }) ?assign ?body ?dn ?stop
  case assign=>
   intro l x W K hK
   gi_wp2
   exact hK
  case body=>
   rintro l pre x W ⟨⟨⟨r,g1,g2,g3,g4⟩,g5,g6,g7,g8⟩,hB⟩ _
   have lt6:B6<W.heap.size:=by obtain⟨o,ho,_⟩:=cells_of_cell g3;exact(Array.getElem?_eq_some_iff.1 ho).1
   have hxs:(Tryz.en zs (L-2) x).2.size<=2^20:=hzs _
   have hsnoc:∀suf,Tryz.joinR fil c2 c3 ((pre++[x]).map (Tryz.en zs (L-2))++suf) R1=Tryz.joinR fil c2 c3 (Tryz.en zs (L-2) x::suf) r:=fun suf=>by rw[List.map_append,List.append_assoc];exact g1 _
   generalize Tryz.en zs (L-2) x=X0 at *
   gi_wp2_with (refine⟨trivial,?_⟩;gi_at_call 251;refine(CallsIn.inRound l (callsIn_wide.2 ((hf _ _ _ (by first|exact hcs.1|exact hcs.2.1) (by omega) (by omega)).1 _ (hw.trans (hB.mono hw.size))))).mono ?_;rintro e w1 ⟨rfl,hB1⟩;have k1:=(hB1.cell (p:=⟨B6,0,none⟩) lt6).trans g3;have k2:=(hB1.frozen (p:=⟨B6,0,none⟩) lt6).trans g4)
   .exact⟨(KeepsOthers.setCell _ _ _).from _,⟨rfl,r,fun suf=>(hsnoc suf).trans (by rw[Tryz.joinR,if_pos (by omega)]),World.cell?_setCell_same' _ _ _ (by rw[g5];rfl)⟩,hB.setCell (p:=⟨w.heap.size+1,0,none⟩) (by show w.heap.size<=w.heap.size+1;omega) _⟩
   .rename_i hx0
    have l1:w.heap.size+1<W.heap.size:=by omega
    have l0:w.heap.size<W.heap.size:=by omega
    refine⟨(jV hB1 _).trans ((KeepsOthers.setCell _ _ _).from _),(Pc.of hB1 hB.size).trans (Pc.set _ _ _ (by show w.heap.size<=B6;omega) (by show Y.heap.size≠B6;omega)),⟨⟨_,fun suf=>(hsnoc suf).trans (by rw[Tryz.joinR,if_neg (by omega),if_pos (by simpa using hx0)]),?_,World.cell?_setCell_same' _ _ _ (by rw[k1];rfl),by rw[World.frozen?_setCell];exact k2⟩,?_,?_,?_,?_⟩,(hB.trans (hB1.mono hB.size)).setCell (p:=⟨B6,0,none⟩) (by show w.heap.size<=B6;omega) _⟩
    .refine Nat.le_trans (hf _ _ _ (by first|exact hcs.1|exact hcs.2.1) (by omega) (by omega)).2 ?_
     have:=hcs.1;have:=hcs.2.1
     omega
    .rw[Jg _ _ _ _ (by show B6≠w.heap.size+1;omega)];exact(hB1.cell (p:=⟨w.heap.size+1,0,none⟩) l1).trans g5
    .rw[World.frozen?_setCell];exact(hB1.frozen (p:=⟨w.heap.size+1,0,none⟩) l1).trans g6
    .rw[Jg _ _ _ _ (by show B6≠w.heap.size;omega)];exact(hB1.cell (p:=⟨w.heap.size,2,none⟩) l0).trans g7
    .rw[Jg _ _ _ _ (by show B6≠w.heap.size;omega)];exact(hB1.cell (p:=⟨w.heap.size,3,none⟩) l0).trans g8
   .rename_i hx0
    have l1:w.heap.size+1<W.heap.size:=by omega
    have l0:w.heap.size<W.heap.size:=by omega
    refine⟨(jV hB1 _).trans ((KeepsOthers.setCell _ _ _).from _),(Pc.of hB1 hB.size).trans (Pc.set _ _ _ (by show w.heap.size<=B6;omega) (by show Y.heap.size≠B6;omega)),⟨⟨_,fun suf=>(hsnoc suf).trans (by rw[Tryz.joinR,if_neg (by omega),if_neg (by simpa using hx0)]),?_,World.cell?_setCell_same' _ _ _ (by rw[k1];rfl),by rw[World.frozen?_setCell];exact k2⟩,?_,?_,?_,?_⟩,(hB.trans (hB1.mono hB.size)).setCell (p:=⟨B6,0,none⟩) (by show w.heap.size<=B6;omega) _⟩
    .refine Nat.le_trans (hf _ _ _ (by first|exact hcs.1|exact hcs.2.1) (by omega) (by omega)).2 ?_
     have:=hcs.1;have:=hcs.2.1
     omega
    .rw[Jg _ _ _ _ (by show B6≠w.heap.size+1;omega)];exact(hB1.cell (p:=⟨w.heap.size+1,0,none⟩) l1).trans g5
    .rw[World.frozen?_setCell];exact(hB1.frozen (p:=⟨w.heap.size+1,0,none⟩) l1).trans g6
    .rw[Jg _ _ _ _ (by show B6≠w.heap.size;omega)];exact(hB1.cell (p:=⟨w.heap.size,2,none⟩) l0).trans g7
    .rw[Jg _ _ _ _ (by show B6≠w.heap.size;omega)];exact(hB1.cell (p:=⟨w.heap.size,3,none⟩) l0).trans g8
  case dn=>
   rintro D ys W hD rfl ⟨⟨⟨r,g1,g2,g3,g4⟩,g5,g6,g7,g8⟩,hB⟩ hJ
   gi_wp2
   have hK':=(KeepsOthers.setCell W ⟨w.heap.size+1,0,none⟩ (.string r)).same D _ hJ rfl
   refine⟨by simp,.inl ⟨_,_,rfl,run_takeDeferred hK',?_⟩⟩
   have hc5:=cell_kept (World.cell?_setCell_same' W ⟨w.heap.size+1,0,none⟩ (.string r) (by rw[g5];rfl)) (grownBy_putObj' _ D (.deferred none)) (fun r e=>by cases e;exact⟨_,hK',rfl⟩)
   have hr:=(g1 []).symm.trans ((congrArg (Tryz.joinR fil c2 c3 · R1) (List.append_nil _)).trans hR)
   rw[Tryz.joinR] at hr
   subst hr
   refine⟨.string r,?_,rfl,(hB.setCell (p:=⟨w.heap.size+1,0,none⟩) (by show w.heap.size<=w.heap.size+1;omega) _).trans (belowK_b (w:=w) (Nat.le_refl _) _ D _ _ (by omega) hK' rfl rfl)⟩
   simp[results,Tryz.f212,go_sem,hc5]
  case stop=>
   rintro D c pre W hD ⟨k,hk,rfl⟩ ⟨⟨rfl,r,g1,g2⟩,hB⟩ hJ
   gi_wp2
   refine⟨by simp,.inl ⟨_,_,rfl,run_takeDeferred hJ,?_⟩⟩
   have hc5:=cell_kept g2 (grownBy_putObj' _ D (.deferred none)) (fun r e=>by cases e;exact⟨_,hJ,rfl⟩)
   obtain⟨m,hm⟩:=Nat.exists_eq_add_of_le hk
   have he:List.range (L-2)=List.range k++(List.range m).map (k + ·):=by rw[hm,List.range_add]
   rw[he,List.map_append,g1] at hR
   subst hR
   refine⟨.string r,?_,rfl,hB.trans (belowK_b (w:=w) (Nat.le_refl _) W D _ _ (by omega) hJ rfl rfl)⟩
   simp[results,Tryz.f212,go_sem,hc5]
 have bX:Below O.heap.size O X:=hw.trans (hBX.mono hw.size)
 have bD:∀{V:World},Below O.heap.size O V->Below O.heap.size O V.drew:=fun h=>⟨h.os,h.tape,h.output,h.size,h.block⟩
 have bA:∀{V:World} (o:Obj),Below O.heap.size O V->Below O.heap.size O (V.alloc o):=fun o h=>h.alloc h.size o
 gi_region_with (refine⟨trivial,?_⟩;gi_at_call 251;refine(callsIn_wide.2 (hf0 _ (by first|exact bX|exact bD bX|exact bA _ bX|exact bD (bA _ bX)|exact bA _ (bD bX)))).mono ?_;rintro e w1 ⟨rfl,hB1⟩;have hk1:=fun h=>hB1.cell (p:=⟨X.heap.size,0,none⟩) h;have hk2:=fun h=>hB1.frozen (p:=⟨X.heap.size,0,none⟩) h;simp at hk1 hk2;(try simp only[hXs] at hk1 hk2);rw[hR1])
 all_goals
  have bb:Below X.heap.size X w1:=by
   first
   | exact⟨hB1.os,hB1.tape,hB1.output,hB1.size,hB1.block⟩
   | exact((Below.refl _ X).alloc (Nat.le_refl _) _).trans (Below.mono (⟨hB1.os,hB1.tape,hB1.output,hB1.size,hB1.block⟩:Below (X.alloc (.cells #[.string ⟨#[]⟩] 9)).heap.size (X.alloc (.cells #[.string ⟨#[]⟩] 9)) w1) (by simp))
  first
  | exact rest _ _ (JC.alloc _ hBX bb hXs (hp 2 c2 (by omega) rfl).1 (hp 3 c3 (by omega) rfl).1 hr0)
  | exact rest _ _ (JC.set hBX bb hXs (hp 2 c2 (by omega) rfl).1 (hp 3 c3 (by omega) rfl).1 hr0 hk1 hk2)
attribute [local go_sem] Oper.semAt_some
theorem Tryz.join_0(w:World)(f g h c3 i:ByteArray)(a:Option Addr)(b:Nat) :
  Calls Tryz.prog 212 #[.agg #[.string f,.string g,.string h,.string c3,.string i],.slice a 0 b] w λe w'=>e=.returned (.string ⟨#[]⟩)/\Below w.heap.size w w':=by
 refine(callsIn_wide (n:=9)).1 ?_;have c:Fence.wide.round=none:=rfl;refine callsIn_of_wp_marks Tryz.func212 rfl trivial (Code.wpIn_mono Xs ?_) c;simp only[Tryz.ntmps212,List.size_toArray,List.length_cons,List.length_nil,Nat.reduceAdd,Nat.reduceSub,Array.replicate_succ,Array.replicate_zero,List.push_toArray,List.append_toArray,List.nil_append,List.cons_append]
 gi_wp2
 have d:=Boxed.new (w.alloc (.cells #[.string f,.string g,.string h,.string c3,.string i] 193)) 9 (.string ⟨#[]⟩);rw[World.size_alloc] at d;refine⟨.string ⟨#[]⟩,?_,rfl,((Below.refl _ w).alloc (Nat.le_refl _) _).alloc (by simp) _⟩;simp[results,Tryz.f212,go_sem,d.cell]
theorem Tryz.join_1(w:World)(g h i c3 j z:ByteArray)(b a c:Nat)(k:b<w.heap.size)(l:w.cell? ⟨b,a,none⟩=some (.string z)) :
  Calls Tryz.prog 212 #[.agg #[.string g,.string h,.string i,.string c3,.string j],.slice (some ⟨b,a,none⟩) 1 c] w λe w'=>e=.returned (.string z)/\Below w.heap.size w w':=by
 refine(callsIn_wide (n:=9)).1 ?_;have d:Fence.wide.round=none:=rfl;refine callsIn_of_wp_marks Tryz.func212 rfl trivial (Code.wpIn_mono Xs ?_) d;simp only[Tryz.ntmps212,List.size_toArray,List.length_cons,List.length_nil,Nat.reduceAdd,Nat.reduceSub,Array.replicate_succ,Array.replicate_zero,List.push_toArray,List.append_toArray,List.nil_append,List.cons_append]
 gi_wp2
 have f:=Boxed.new (w.alloc (.cells #[.string g,.string h,.string i,.string c3,.string j] 193)) 9 (.string z);rw[World.size_alloc] at f;refine⟨.string z,?_,rfl,((Below.refl _ w).alloc (Nat.le_refl _) _).alloc (by simp) _⟩;simp[results,Tryz.f212,go_sem,f.cell]
theorem Tryz.join_2(fil:ByteArray->ByteArray->ByteArray->ByteArray)(O w:World)(y:Below O.heap.size O w)(g d i c3 j z0 m:ByteArray)(b c s:Nat)(k:b<w.heap.size)(v:w.cell? ⟨b,c,none⟩=some (.string z0))(x:w.cell? ⟨b,c+1,none⟩=some (.string m))(t:NS fil O d z0 m) :
  Calls Tryz.prog 212 #[.agg #[.string g,.string d,.string i,.string c3,.string j],.slice (some ⟨b,c,none⟩) 2 s] w λe w'=>e=.returned (.string (fil d z0 m))/\Below w.heap.size w w':=by
 refine(callsIn_wide (n:=9)).1 ?_;have u:Fence.wide.round=none:=rfl;refine callsIn_of_wp_marks Tryz.func212 rfl trivial (Code.wpIn_mono Xs ?_) u;simp only[Tryz.ntmps212,List.size_toArray,List.length_cons,List.length_nil,Nat.reduceAdd,Nat.reduceSub,Array.replicate_succ,Array.replicate_zero,List.push_toArray,List.append_toArray,List.nil_append,List.cons_append]
 gi_wp2
 generalize o:((w.alloc (.cells #[.string g,.string d,.string i,.string c3,.string j] 193)).alloc (.cells #[.string ⟨#[]⟩] 9))=X;have f:Below w.heap.size w X:=by rw[<-o];exact((Below.refl _ w).alloc (Nat.le_refl _) _).alloc (by simp) _
 have G:X.heap.size=w.heap.size+2:=by rw[<-o];simp
 have l:w.heap.size+1<X.heap.size:=by omega
 have q:=Boxed.new (w.alloc (.cells #[.string g,.string d,.string i,.string c3,.string j] 193)) 9 (.string ⟨#[]⟩);rw[o,World.size_alloc] at q;have I:X.cell? ⟨w.heap.size,1,none⟩=some (.string d):=by
  have D:=World.alloc_heap_new w (.cells #[.string g,.string d,.string i,.string c3,.string j] 193);generalize E:w.alloc (.cells #[.string g,.string d,.string i,.string c3,.string j] 193)=V at *;have F:V.heap.size=w.heap.size+1:=by rw[<-E];simp
  have k:=(Below.refl V.heap.size V).alloc (Nat.le_refl _) (.cells #[.string ⟨#[]⟩] 9);rw[o] at k;rw[k.cell (p:=⟨w.heap.size,1,none⟩) (by show w.heap.size<_;omega)];simp[World.cell?,D]
 have J:=(f.cell (p:=⟨b,c,none⟩) k).trans v;have K:=(f.cell (p:=⟨b,c+1,none⟩) k).trans x;have bX:Below O.heap.size O X:=y.trans (f.mono y.size);have A:∀{V:World},Below O.heap.size O V->Below O.heap.size O V.drew:=λh=>⟨h.os,h.tape,h.output,h.size,h.block⟩
 have B:=q.cell;have C:=q.frozen
 gi_region_with (refine⟨trivial,?_⟩;gi_at_call 251;refine(callsIn_wide.2 (t _ (by first|exact bX|exact A bX))).mono ?_;rintro e z ⟨rfl,a⟩;have r:Below X.heap.size X z:=⟨a.os,a.tape,a.output,a.size,a.block⟩;have k1:=(r.cell (p:=⟨w.heap.size+1,0,none⟩) l).trans B;have k2:=(r.frozen (p:=⟨w.heap.size+1,0,none⟩) l).trans C)
 all_goals
  gi_wp2
  refine⟨.string (fil d z0 m),?_,rfl,(f.trans (r.mono (by omega))).setCell (p:=⟨w.heap.size+1,0,none⟩) (by show w.heap.size<=w.heap.size+1;omega) _⟩;have H:=World.cell?_setCell_same' z ⟨w.heap.size+1,0,none⟩ (.string (fil d z0 m)) (by rw[k1];rfl);simp[results,Tryz.f212,go_sem,H]
end Go.Proofs
namespace Go.Ir
open Go.Proofs Go.RowKit
variable(O:World)
def ba(l:Aa):ByteArray:=⟨l.toArray⟩
def Px(q a b:ByteArray):ByteArray:=ba (FE q.data.toList a.data.toList b.data.toList)
theorem FH(l:Aa):(ba l).size=l.length:=by simp[ba,ByteArray.size]
theorem NI{P:Program}{O:World}{f:FuncId}{args:List V}{v:V}(i:callable P f=true)
  (h:∀w a,Below O.heap.size O w->(∃μ H,VRels μ H args a/\∀b u,H b=some u->w.cell? b=some u)->Calls P f a.toArray w λe w'=>∃val,e=.returned val/\(∀μ H,Ap μ H v val)/\Below w.heap.size w w'):Ak P O f args [] v [] where
 callable:=i
 dom id h:=h
 run n w μ H a hp hv:=by refine(h w a hp.base ⟨μ,H,hv,hp.pins⟩).mono λe w' ⟨val,j,k,g⟩=>?_;obtain⟨c,d⟩:=hp.below g;exact⟨val,μ,H,n,j,k μ H,c,Ab6 _,d,λ_ _ h=>h⟩
theorem AbN{a b c d e:Aa}{μ:Id->Option Value}{H:Addr->Option Value}{x:Value}(h:Ap μ H (.agg [.s a,.s b,.s c,.s d,.s e]) x):x=.agg #[.string (ba a),.string (ba b),.string (ba c),.string (ba d),.string (ba e)]:=by
 cases h with
 | agg cs g i j f=>
  match g,i with
  | [v0,k,v2,v3,v4],_=>obtain⟨rfl,_⟩:=Bx (f 0 _ _ rfl rfl);obtain⟨rfl,_⟩:=Bx (f 1 _ _ rfl rfl);obtain⟨rfl,_⟩:=Bx (f 2 _ _ rfl rfl);obtain⟨rfl,_⟩:=Bx (f 3 _ _ rfl rfl);obtain⟨rfl,_⟩:=Bx (f 4 _ _ rfl rfl);rfl
theorem Xb(l:List Aa):AQ (l.map V.s)=l.map V.s:=by
 induction l with
 | nil=>rfl
 | cons a l b=>simpa[AQ,cells] using b
theorem An5{l:List Aa}{w:World}{μ:Id->Option Value}{H:Addr->Option Value}{x:Value}(h:Ap μ H (.sl (l.map V.s)) x)(A:∀i u,H i=some u->w.cell? i=some u) :
  (l=[]/\∃a c,x=.slice a 0 c)\/∃b f c,x=.slice (some ⟨b,f,none⟩) l.length c/\l.length<=c/\∀j,j<l.length->w.cell? ⟨b,f+j,none⟩=some (.string ((l.map ba)[j]?.getD default)):=by
 generalize k:l.map V.s=es at h;cases h with
 | slE a c=>exact .inl ⟨by simpa using k,a,c,rfl⟩
 | slC es i c sz g r E B t D hp y=>
  subst k;rw[Xb] at t y;have d:∀j,j<l.length->w.cell? (i.add j)=some (.string ((l.map ba)[j]?.getD default)):=by
   intro j o;obtain⟨v,m⟩:∃v,g[j]?=some v:=⟨g[j]'(by simp at t;omega),Am7 _⟩
   have C:=y j (.s l[j]) v (by simp[o]) m;obtain⟨rfl,_⟩:=Bx C;rw[A _ _ (hp j _ m)];simp[o,ba]
  rw[Afb] at r
  match l,d with
  | [],_=>exact .inl ⟨rfl,some i,c,rfl⟩
  | a::l,d=>
   right;obtain⟨b,f,z⟩:=i;have p:=d 0 (by simp);have q:z=none:=by
    cases z with
    | none=>rfl
    | some s=>simp[Addr.add,World.cell?] at p;split at p<;>simp at p
   subst q;refine⟨b,f,c,by simp,r,λj o=>?_⟩;have:=d j o;unfold Addr.add at this;split at this
   .rename_i e;subst e;exact this
   .exact this
theorem Md(q:ByteArray):ba q.data.toList=q:=by cases q;simp[ba]
theorem N4(q a b:Aa):Px (ba q) (ba a) (ba b)=ba (FE q a b):=by simp[Px,ba]
theorem dI{O:World}{q a b:Aa}(j:q.length<=2^20)(i:a.length<=2^21)(c:b.length<=2^21)(h:∀w,Below O.heap.size O w->Ak Tryz.prog w 251 [.s q,.s a,.s b] [] (.s (FE q a b)) []):NS Px O (ba q) (ba a) (ba b):=λw g=>
 (Ph (h w g) (.cons (.s _ (by unfold AG;omega)) (.cons (.s _ (by unfold AG;omega)) (.cons (.s _ (by unfold AG;omega)) .nil_)))).mono λe w' ⟨val,μ,H,d,f,c⟩=>⟨by rw[d,(Bx f).1,N4];rfl,c⟩
def prs:List Aa->List (Int×ByteArray)
 | []=>[]
 | s::r=>((r.length:Int),ba s)::prs r
theorem Xw:∀(R:List Aa) (k:Nat),(prs R)[k]?=R[k]?.map λs=>((R.length:Int)-1-k,ba s)
 | [],k=>by simp[prs]
 | s::r,0=>by simp[prs]
 | s::r,k+1=>by rw[prs,Azq,Xw r k,Azq];congr 1;funext x;congr 1;simp only[An9];omega
theorem Us(p:Ed):∀(R:List Aa) (r:Aa),Tryz.joinR Px (ba p.start) (ba p.mid) (prs R) (ba r)=ba (joinR p R r)
 | [],r=>rfl
 | s::t,r=>by
  unfold prs Tryz.joinR joinR;rw[FH];by_cases h:20000<r.length
  .have a:(r.length:Int)>20000:=by omega
   simp only[h,a,AbA]
  .have a:¬(r.length:Int)>20000:=by omega
   simp only[h,a,Ab9];have b:Px (if((t.length:Int),ba s).1=0 then ba p.start else ba p.mid) ((t.length:Int),ba s).2 (ba r)=ba (FE (if t.isEmpty then p.start else p.mid) s r):=by
    rw[<-N4];cases t with
    | nil=>rfl
    | cons x t=>rw[AfL (by simp;omega)];rfl
   rw[b];exact Us p t _
theorem YU(p:Ed)(hp:p.start.length<=2^20/\p.mid.length<=2^20)(c:∀q a b:Aa,q.length<=2^20->a.length<=2^21->b.length<=2^21->(FE q a b).length<=q.length+a.length+b.length):∀(R:List Aa) (r:Aa),(∀s∈R,s.length<=2^20)->r.length<=2^22->(joinR p R r).length<=2^22
 | [],r,_,h=>h
 | s::t,r,d,h=>by
  rw[joinR];split
  .exact h
  .have f:=d s (by simp);refine YU p hp c t _ (λx e=>d x (by simp[e])) ?_;split
   .exact AoW (c _ _ _ hp.1 (by omega) (by omega)) (by have:=hp.1;omega)
   .exact AoW (c _ _ _ hp.2 (by omega) (by omega)) (by have:=hp.2;omega)
theorem eU(l:List Aa)(n:Nat)(d:n<=l.length):(List.range n).map (Tryz.en (l.map ba) n)=prs (l.take n).reverse:=by
 apply Az7;intro k;rw[Xw];have b:(l.take n).length=n:=by simp;omega
 by_cases c:k<n
 .rw[List.getElem?_reverse (by omega),b,List.getElem?_take_of_lt (by omega),A2k,b];have a:n-1-k<l.length:=by omega
  simp[Tryz.en,c,a]
 .rw[A15 (by simp;omega),A15 (by simp;omega)];rfl
theorem sK(p:Ed)(l:List Aa)(hp:p.two.length<=2^20/\p.start.length<=2^20/\p.mid.length<=2^20/\p.fin.length<=2^20)(N:l.length<=1000)(v:∀s∈l,s.length<=2^20)
  (D:∀w,Below O.heap.size O w->∀q a b:Aa,q.length<=2^20->a.length<=2^21->b.length<=2^21->Ak Tryz.prog w 251 [.s q,.s a,.s b] [] (.s (FE q a b)) []/\(FE q a b).length<=q.length+a.length+b.length) :
  Ak Tryz.prog O 212 [p.enc,.sl (l.map V.s)] [] (.s (Qm p l)) []:=by
 refine NI (by kernel_rfl) λw F A ⟨μ,H,T,I⟩=>?_;obtain⟨x,y,rfl,E,U⟩:=T.two;rw[Ed.enc_eq] at E;obtain rfl:=AbN E;have f:=λq a b k m r=>(D O (AyF _ _) q a b k m r).2;have u:∀q a b:Aa,q.length<=2^20->a.length<=2^21->b.length<=2^21->NS Px O (ba q) (ba a) (ba b):=λq a b k m r=>dI k m r λw A=>(D w A q a b k m r).1;have B:∀q x y:ByteArray,q.size<=2^20->x.size<=2^21->y.size<=2^21->NS Px O q x y/\(Px q x y).size<=q.size+x.size+y.size:=by
  intro q x y;obtain⟨q,rfl⟩:∃z,q=ba z:=⟨_,(Md q).symm⟩
  obtain⟨x,rfl⟩:∃z,x=ba z:=⟨_,(Md x).symm⟩;obtain⟨y,rfl⟩:∃z,y=ba z:=⟨_,(Md y).symm⟩;rw[N4,FH,FH,FH,FH];exact λk m r=>⟨u _ _ _ k m r,f _ _ _ k m r⟩
 have g:∀S:Aa,S.length<=2^22->(Calls Tryz.prog 212 #[.agg #[.string (ba p.style),.string (ba p.two),.string (ba p.start),.string (ba p.mid),.string (ba p.fin)],y] w λe w'=>e=.returned (.string (ba S))/\Below w.heap.size w w')->
   Calls Tryz.prog 212 [Value.agg #[.string (ba p.style),.string (ba p.two),.string (ba p.start),.string (ba p.mid),.string (ba p.fin)],y].toArray w λe w'=>∃val,e=.returned val/\(∀μ H,Ap μ H (.s S) val)/\Below w.heap.size w w':=λS hS h=>h.mono λe w' ⟨K,t⟩=>⟨_,K,λμ H=>.s _ (by unfold AG;omega),t⟩
 rcases An5 U I with⟨rfl,a,cap,rfl⟩|⟨b,off,cap,rfl,hcap,hz⟩
 .exact g [] (by simp) (Tryz.join_0 w _ _ _ _ _ a cap)
 have t:0<l.length->b<w.heap.size:=λh=>by obtain⟨o,R,_⟩:=cells_of_cell (hz 0 h);exact(AuO.1 R).1
 rcases l with _|⟨a,_|⟨c,_|⟨d,l⟩⟩⟩
 .exact g [] (by simp) (Tryz.join_0 w _ _ _ _ _ _ cap)
 .have G:=v a (by simp);exact g a (by omega) (Tryz.join_1 w _ _ _ _ _ (ba a) b off cap (t (by simp)) (hz 0 (by simp)))
 .have G:=v a (by simp);have k:=v c (by simp);refine g (FE p.two a c) (by have:=f p.two a c hp.1 (by omega) (by omega);omega) ?_;rw[<-N4];exact Tryz.join_2 Px O w A _ _ _ _ _ (ba a) (ba c) b off cap (t (by simp)) (hz 0 (by simp)) (hz 1 (by simp)) (u _ _ _ hp.1 (by omega) (by omega))
 .have J:3<=(a::c::d::l).length:=by simp
  have hS:Qm p (a::c::d::l)=joinR p ((a::c::d::l).take ((a::c::d::l).length-2)).reverse (FE p.fin ((a::c::d::l).getD ((a::c::d::l).length-2) []) ((a::c::d::l).getD ((a::c::d::l).length-1) [])):=rfl;rw[hS];generalize(a::c::d::l)=L at *;have C:∀j:Nat,(L.map ba)[j]?.getD default=ba (L.getD j []):=λj=>by rw[List.getD_eq_getElem?_getD,ArI];cases L[j]?<;>rfl
  have i:∀j:Nat,(L.getD j []).length<=2^20:=λj=>by
   rw[List.getD_eq_getElem?_getD];cases h:L[j]? with
   | none=>simp
   | some s=>exact v s (Ao6 h)
  have M:=f p.fin _ _ hp.2.2.2 (AoW (i (L.length-2)) (by decide)) (AoW (i (L.length-1)) (by decide));have X:=i (L.length-2);have W:=i (L.length-1);refine g _ (YU p ⟨hp.2.1,hp.2.2.1⟩ f _ _ (λs h=>v s (AzB (List.mem_reverse.1 h))) (by have:=hp.2.2.2;omega)) ?_;refine Tryz.join_in Px O w A _ _ _ _ _ b off L.length cap N J hcap (L.map ba) (λj=>by rw[C,FH];exact i j) (by rw[FH,FH,FH];exact⟨hp.2.1,hp.2.2.1,hp.2.2.2⟩) (t (by omega)) hz B _ ?_;rw[C,C,N4,eU L _ (by omega),Us]
end Go.Ir

namespace Go.Ir
open Go.Proofs
variable(O:World)
theorem Acp i (h:i<2):(Bi i).length=3:=by
 have:i=0\/i=1:=by omega
 rcases this with rfl|rfl<;>(unfold Bi Lib.decDigits;rfl)
theorem JS:∀(s p:Aa),Lib.index s p=-1\/0<=Lib.index s p/\Lib.index s p+p.length<=s.length
 | [],p=>by unfold Lib.index;grind
 | b::l,p=>by
  unfold Lib.index;split
  .grind
  .split
   .left;rfl
   .rename_i h;right;rcases JS l p with a|⟨a,c⟩
    .grind
    grind
theorem AeG(s p:Aa)(hp:p.length=3)(h:Lib.count s p=1):(Lib.replace s p [0] 1).length<=s.length:=by
 have a:(p==[0])=false:=by grind
 unfold Lib.replace Lib.replaceNum;rw[a];simp only[Ab7,Ab9,h];have b:¬((1:Int)<0\/((1:Nat):Int)<1):=by omega
 rw[AfL b];show(Lib.replaceK p [0] 1 s).length<=s.length;unfold Lib.replaceK;split
 .omega
 .rename_i d;rcases JS s p with c|⟨c,e⟩
  .grind
  .unfold Lib.replaceK;grind
theorem Qn(y:BS O)(s:Aa)(n:Nat)(E:1<=n)(F:n<=2)(A:s.length<=2^20):Ak π O 204 [.s s,.i .i64 n] [] (.b (R8 s n)) []:=by
 generalize hS:R8 s n=S;unfold R8 at hS;have w:decide ((n:Int)<1)=false:=by simp;omega
 have x:decide ((n:Int)>9)=false:=by simp;omega
 refine Ac (vs:=[.b S]) Amd (by simp) (by simp) λn0 r=>?_;clear r;push_cast[w,x]
 (repeat' (first|(first|(apply AL<;>intro _h)|refine As (by simp only <;>omega) ?_)<;>push_cast[_h,w,x]|intro _))
 refine Aj n (Inv:=λm st=>∃k q i,m+i=n/\UJ m i q=S/\q.length<=2^20/\st=⟨[(0,.s q),(13,.i .i64 n),(14,.i .i64 (i:Nat))],[],k⟩) ⟨_,Ag.refl,_,s,0,rfl,hS,A,rfl⟩ ?_;clear hS A;rintro m _ ⟨k,q,i,H,d,I,rfl⟩;cases m with
 | zero=>
  rw[UJ] at d;subst d;have a:decide ((i:Int)<(n:Int))=false:=by simp;omega
  have C:=qD O q (by omega);push_cast[a]
  (repeat' (first|(first|(apply AL<;>intro _h)|refine Ab (by exact C) ?_|refine As (by simp only <;>omega) ?_)<;>push_cast[_h,a]|intro _))
  exact Kn
 | succ m=>
  have a:decide ((i:Int)<(n:Int))=true:=by simp;omega
  have g:=Acp i (by omega);have l:=AkK O i (by omega);have j:=AeR O y q (Bi i) (by omega) (by omega);rw[UJ] at d;have t:=AeG q (Bi i) g;have e:123::Lib.decDigits i++[125]=Bi i:=by unfold Bi;simp
  have D:(Lib.decDigits i).length=1:=by unfold Bi at g;simp at g;omega
  have u:=fun(h:(Lib.replace q (Bi i) [0] 1).length<=AG)=>Oq O y q (Bi i) [0] 1 (by omega) (by omega) (by simp;omega) h;have p:IntKind.i64.wrap ((i:Int)+1)=((i+1:Nat):Int):=by rw[wrap64 (by omega) (by omega)];omega
  have k1:(1+(Lib.decDigits i).length<=AG)=True:=Arp (by unfold AG;omega);have k2:((123::Lib.decDigits i).length+1<=AG)=True:=Arp (by simp;unfold AG;omega);have c:((Lib.count q (Bi i):Int)==1)=(Lib.count q (Bi i)==1):=by rw[Aym];simp;omega
  generalize G:Bi i=v at *;cases f:(Lib.count q v==1) with
  | true=>
   rw[f] at d;simp only[AbA] at d;have z:=t (by simpa using f);have o:=u (by unfold AG;omega);generalize Lib.replace q v [0] 1=B at *;push_cast[a,p,k1,k2,e,c,f,bne]
   (repeat' (first|(first|(apply AL<;>intro _h)|refine Ab (by exact l) ?_|refine Ab (by exact j) ?_|refine Ab (by exact o) ?_|refine As (by simp only[AG]<;>omega) ?_)<;>push_cast[_h,a,p,k1,k2,e,c,f,bne]|intro _))
   exact⟨m,_,Ab4 _,Ag.refl,_,B,i+1,by omega,d,by omega,by rw[A2g];rfl⟩
  | false=>
   rw[f] at d;simp only[Ab9,Ab7] at d;subst d;push_cast[a,p,k1,k2,e,c,f,bne]
   (repeat' (first|(first|(apply AL<;>intro _h)|refine Ab (by exact l) ?_|refine Ab (by exact j) ?_|refine As (by simp only[AG]<;>omega) ?_)<;>push_cast[_h,a,p,k1,k2,e,c,f,bne]|intro _))
   exact Kn
theorem Ra(s p:Aa):(Lib.cut s p).1.length+(Lib.cut s p).2.1.length<=s.length:=by unfold Lib.cut;grind
def Alg:Ed:=⟨[],[],[],[],[]⟩
theorem Ae4(L:Du)(c:Aa)(l:L.lists.length<=2^20):Ak π O 211 [L.enc,.s c] [] (.tup [((Ix c L.lists).getD Alg).enc,.b (Ix c L.lists).isSome]) []:=by
 generalize hS:Ix c L.lists=S;rw[Du.enc_eq];refine Ac (vs:=[(S.getD Alg).enc,.b S.isSome]) AkQ (by simp) (by simp) λn0 g=>?_;clear g;simp only[push_cast,rq]
 (repeat' (first|(first|(apply AL<;>intro _h)|refine As (by omega) ?_)<;>simp only[push_cast,rq,_h]|intro _))
 rename_i k1 k2;refine Aj L.lists.length (Inv:=λm st=>∃dn a n,L.lists=dn++a/\m=a.length/\Ix c a=S/\st=⟨[(1,.s c),(4,.ref (n0,4) 0),(9,.sl (L.lists.map Ed.enc)),(10,.i .i64 L.lists.length),(11,.i .i64 dn.length)],[((n0,4),.box (.agg [.s [],.s [],.s [],.s [],.s []]))],n⟩) ⟨_,Ag.pre (σ:=[_]) (Ab6 _),[],L.lists,_,rfl,rfl,hS,rfl⟩ ?_;clear hS;rintro m _ ⟨dn,a,n,f,rfl,d,rfl⟩;cases a with
 | nil=>
  rw[Ix] at d;subst d;simp only[push_cast,rq,f]
  (repeat' (first|(first|(apply AL<;>intro _h)|refine As (by omega) ?_)<;>simp only[push_cast,rq,_h]|intro _))
  refine Ah ?_;simp[push_cast,Alg]
 | cons p a=>
  have j:=A9 f;rw[Ix] at d;have h:∀k:Nat,(((n+1+k,7):Id)=(n0,4))=False:=λk=>by simp
  cases e:(p.style==c) with
  | true=>
   rw[e] at d;simp only[AbA] at d;subst d;simp only[push_cast,rq,f,e]
   (repeat' (first|(first|(apply AL<;>intro _h)|refine As (by omega) ?_)<;>simp only[push_cast,rq,_h,f,Ae p (dn:=dn) (by omega),h,e]|intro _))
   refine Ah ?_;simp[push_cast]
  | false=>
   rw[e] at d;simp only[Ab9,Ab7] at d;simp only[push_cast,rq,f,Ae p (dn:=dn) (by omega),e]
   (repeat' (first|(first|(apply AL<;>intro _h)|refine As (by omega) ?_)<;>simp only[push_cast,rq,_h,f,Ae p (dn:=dn) (by omega),h,e]|intro _))
   exact⟨_,_,Ab4 _,Ag.drop1 (by simp[lk]) (Ab6 _),dn++[p],a,_,by simp,rfl,d,rfl⟩
theorem AlD(j:BS O)(p a b:Aa)(hp:p.length<=2^20)(q:a.length<=2^21)(r:b.length<=2^21):Ak π O 251 [.s p,.s a,.s b] [] (.s (FE p a b)) []/\(FE p a b).length<=p.length+a.length+b.length:=by
 have e0:Bi 0=[123,48,125]:=by unfold Bi Lib.decDigits;rfl
 have m:Bi 1=[123,49,125]:=by unfold Bi Lib.decDigits;rfl
 have i:=VI O j p (Bi 0) (by omega);have o:=Ra p (Bi 0);have d:=VI O j (Lib.cut p (Bi 0)).1 (Bi 1) (by omega);have l1:=Ra (Lib.cut p (Bi 0)).1 (Bi 1);have f:=VI O j (Lib.cut p (Bi 0)).2.1 (Bi 1) (by omega);have l:=Ra (Lib.cut p (Bi 0)).2.1 (Bi 1);generalize hS:FE p a b=S;unfold FE at hS;rw[e0] at i o d l1 f l hS;rw[m] at d l1 f l hS;generalize Lib.cut p [123,48,125]=e at *;generalize Lib.cut e.1 [123,49,125]=g at *;generalize Lib.cut e.2.1 [123,49,125]=k at *;cases h:g.2.2 with
 | true=>
  rw[h] at d hS;simp only[AbA] at hS;subst hS;refine⟨?_,by simp only[Ajd];omega⟩;refine Ac (vs:=[.s (g.1++b++g.2.1++a++e.2.1)]) jJ (by simp) (by simp) λn0 c=>?_;clear c;push_cast;repeat' (first|(first|(apply AL<;>intro _h)|refine Ab i ?_|refine Ab d ?_|refine Ab f ?_|refine As (by simp only[Ajd,AG]<;>omega) ?_)<;>push_cast[_h]|intro _)
  exact Kn
 | false=>
  rw[h] at d hS;simp only[Ab9,Ab7] at hS;subst hS;refine⟨?_,by simp only[Ajd];omega⟩;refine Ac (vs:=[.s (e.1++a++k.1++b++k.2.1)]) jJ (by simp) (by simp) λn0 c=>?_;clear c;push_cast;repeat' (first|(first|(apply AL<;>intro _h)|refine Ab i ?_|refine Ab d ?_|refine Ab f ?_|refine As (by simp only[Ajd,AG]<;>omega) ?_)<;>push_cast[_h]|intro _)
  exact Kn
structure AiC (L:Du):Prop where
 n:L.lists.length<=2^20
 t:∀p∈L.lists,p.two.length<=2^20/\p.start.length<=2^20/\p.mid.length<=2^20/\p.fin.length<=2^20
theorem PE{st}:∀{l p},Ix st l=some p->p∈l
 | [],p,h=>by cases h
 | x::l,p,h=>by
  rw[Ix] at h;split at h
  .cases h;simp
  .exact Ab5 _ (PE h)
theorem Aes(f:BS O) p l (hp:p.two.length<=2^20/\p.start.length<=2^20/\p.mid.length<=2^20/\p.fin.length<=2^20)(g:l.length<=1000)(h:∀s∈l,s.length<=2^20):Ak π O 212 [p.enc,.sl (l.map V.s)] [] (.s (Qm p l)) []:=by exact sK O p l hp g h (λw i q a b c d e=>AlD w (FF f i) q a b c d e)
theorem eW(D:BS O) L (C:AiC L)(c:Aa) l (J:l.length<=2^30)(v:∀s∈l,s.length<=2^20):Ak π O 164 [L.enc,.s c,.sl (l.map V.s)] [] (.tup [.s (GN L c l).1,.i .i64 (GN L c l).2]) []:=by
 have f:=Ae4 O L c C.n;generalize hS:GN L c l=S;unfold GN at hS;rw[Du.enc_eq] at f⊢;cases y:Ix c L.lists with
 | none=>
  rw[y] at f hS;simp only[Option.getD_none,AyQ] at f;simp only at hS;subst hS;refine Ac (vs:=[.s [],.i .i64 18]) mG (by simp) (by simp) λn0 j=>?_;clear j;simp only[push_cast,rq]
  (repeat' (first|(first|(apply AL<;>intro _h)|refine Ab (by exact f) ?_|refine As (by simp only <;>omega) ?_)<;>simp only[push_cast,rq]|intro _))
  refine Ah ?_;simp[push_cast]
 | some p=>
  have B:=C.t p (PE y);rw[y] at f hS;simp only[Option.getD_some,AwY] at f;simp only at hS;have r:=λh=>Aes O D p l B h v;generalize Qm p l=w at *;rw[Ed.enc_eq] at f r;have g:lI p=[p.two,p.start,p.mid,p.fin].all λs=>R8 s 2:=rfl;have ⟨Q,hQ⟩:∃Q,Q=[p.two,p.start,p.mid,p.fin]:=⟨_,rfl⟩
  have A:∀s∈Q,s.length<=2^20:=by rw[hQ];intro s v;simp at v;rcases v with rfl|rfl|rfl|rfl<;>omega
  have z:Q.length=4:=by rw[hQ];rfl
  have q:Q.map V.s=[.s p.two,.s p.start,.s p.mid,.s p.fin]:=by rw[hQ];rfl
  rw[<-hQ] at g;generalize lI p=I at *;clear hQ;refine Ac (vs:=[.s S.1,.i .i64 S.2]) mG (by simp) (by simp) λn0 j=>?_;clear j;simp only[push_cast,rq]
  (repeat' (first|(first|(apply AL<;>intro _h)|refine Ab (by exact f) ?_|refine As (by simp only <;>omega) ?_)<;>simp only[push_cast,rq]|intro _))
  rename_i k1 k2 k3 K;have e:(4:Int)=(Q.length:Int):=by rw[z];rfl
  generalize H:((n0+1+k1,8):Id)=F;refine Aj Q.length (Inv:=λm st=>∃dn a n,Q=dn++a/\m=a.length/\(if a.all (λs=>R8 s 2) then(if(l.length:Int)>1000 then(([]:Aa),(6:Int)) else if(w.length:Int)>20000 then([],6) else(w,0)) else([],4))=S/\st=⟨[(2,.sl (l.map V.s)),(8,.ref F 0),(29,.sl (Q.map V.s)),(30,.i .i64 Q.length),(31,.i .i64 dn.length)],[(F,.box (.agg [.s p.style,.s p.two,.s p.start,.s p.mid,.s p.fin]))],n⟩) ⟨_,Ag.pre (σ:=[_]) (Ab6 _),[],Q,_,rfl,rfl,by rw[<-g];exact hS,by rw[q,<-e];rfl⟩ ?_;clear hS g q e;rintro m _ ⟨dn,a,n,k,rfl,b,rfl⟩;cases a with
  | nil=>
   simp only[List.all_nil,AbA] at b;cases o:decide ((l.length:Int)>1000) with
   | true=>
    rw[Amm (Awz o)] at b;subst b;simp only[push_cast,rq,o,k]
    (repeat' (first|(first|(apply AL<;>intro _h)|refine As (by simp only <;>omega) ?_)<;>simp only[push_cast,rq,_h,o]|intro _))
    refine Ah ?_;simp[push_cast]
   | false=>
    have x:=AvV o;rw[AfL x] at b;have E:=r (by omega);cases u:decide ((w.length:Int)>20000) with
    | true=>
     rw[Amm (Awz u)] at b;subst b;simp only[push_cast,rq,o,k]
     (repeat' (first|(first|(apply AL<;>intro _h)|refine Ab (by exact E) ?_|refine As (by simp only <;>omega) ?_)<;>simp only[push_cast,rq,u]|intro _))
     refine Ah ?_;simp[push_cast]
    | false=>
     rw[AfL (AvV u)] at b;subst b;simp only[push_cast,rq,o,k]
     (repeat' (first|(first|(apply AL<;>intro _h)|refine Ab (by exact E) ?_|refine As (by simp only <;>omega) ?_)<;>simp only[push_cast,rq,u]|intro _))
     refine Ah ?_;simp[push_cast]
  | cons s a=>
   have G:=A9 k;have d:=Qn O D s 2 (by omega) (by omega) (A s (by rw[k];simp));rw[A1D] at b;cases hB:R8 s 2 with
   | true=>
    rw[hB] at b d;simp only[AxA] at b;simp only[push_cast,rq,k]
    (repeat' (first|(first|(apply AL<;>intro _h)|refine Ab (by exact d) ?_|refine As (by simp only <;>omega) ?_)<;>simp only[push_cast,rq,Ae s (dn:=dn) (by omega)]|intro _))
    exact⟨_,_,Ab4 _,Ag.refl,dn++[s],a,_,by simp,rfl,b,rfl⟩
   | false=>
    rw[hB] at b d;simp only[AyN,Ab7,Ab9] at b;subst b;simp only[push_cast,rq,k]
    (repeat' (first|(first|(apply AL<;>intro _h)|refine Ab (by exact d) ?_|refine As (by simp only <;>omega) ?_)<;>simp only[push_cast,rq]|intro _))
    refine Ah ?_;simp[push_cast]
def Ld(l:List (Aa×Aa×Aa)):List (V×V):=l.map λe=>(.agg [.s e.1,.s e.2.1],.s e.2.2)
def UK:ET:=.st [(0,.str),(1,.str)]
def GE(u c:Aa):List (Aa×Aa×Aa)->Option Aa
 | []=>none
 | e::l=>if u==e.1&&c==e.2.1 then some e.2.2 else GE u c l
theorem Vp u c:∀(l) (n),(∃i p,GE u c l=some p/\BE UK (.agg [.s u,.s c]) (Ld l) n=some (some (i,.s p)))\/(GE u c l=none/\BE UK (.agg [.s u,.s c]) (Ld l) n=some none):=by
 intro l
 induction l with
 | nil=>intro n;right;exact⟨rfl,rfl⟩
 | cons e l d=>
  intro n;have a:Fl UK (.agg [.s u,.s c]) (.agg [.s e.1,.s e.2.1])=some (u==e.1&&c==e.2.1):=by unfold UK Fl;simp only[An9,AtX,and_self,AbA,eqO,A0B,Azq,EI];cases(u==e.1)<;>cases(c==e.2.1)<;>rfl
  have b:BE UK (.agg [.s u,.s c]) (Ld (e::l)) n=(match Fl UK (.agg [.s u,.s c]) (.agg [.s e.1,.s e.2.1]) with
   | some true=>some (some (n,.s e.2.2))
   | some false=>BE UK (.agg [.s u,.s c]) (Ld l) (n+1)
   | none=>none):=rfl
  rw[b,a,GE];grind
def Re(l:List (Aa×Aa×Aa))(x:Fv):List (Aa×Aa×Aa):=match GE x.unit x.cls l with
 | some _=>l
 | none=>l++[(x.unit,x.cls,x.pat)]
theorem fZ u c l e:GE u c (l++[e])=match GE u c l with
  | some p=>some p
  | none=>if u==e.1&&c==e.2.1 then some e.2.2 else none:=by
 induction l with
 | nil=>rfl
 | cons x l a=>rw[AvC,GE,GE];grind
theorem OP u c:∀(us) (l),GE u c (us.foldl Re l)=match GE u c l with
  | some p=>some p
  | none=>MC u c us:=by
 intro us
 induction us with
 | nil=>intro l;simp only[A1d,MC];split<;>simp_all
 | cons x us b=>
  intro l;rw[AyT,b,MC];have a:(x.unit==u&&x.cls==c)=(u==x.unit&&c==x.cls):=by grind
  rw[a];unfold Re;cases d:GE x.unit x.cls l with
  | some p=>grind
  | none=>simp only;rw[fZ];grind
theorem PK l u c p:Ld l++[(.agg [.s u,.s c],.s p)]=Ld (l++[(u,c,p)]):=by simp[Ld]
theorem AkL(L:Du)(y:L.units.length<=2^20):Kk π O 240 [L.enc] [] (.map (Ld (L.units.foldl Re []))) []:=by
 generalize hS:L.units.foldl Re []=S;rw[Du.enc_eq];refine Sk (s:=2) AnR (by simp) (by simp ) λn0 t=>?_;clear t;simp only[push_cast,seval]
 (repeat' (first|(first|(apply AL<;>intro _h)|refine As (by omega) ?_)<;>simp only[push_cast,seval,_h]|intro _))
 rename_i k1 k2 k3;generalize v:((n0+1+k1,9):Id)=mid;have r:mid.1<n0+1+k1+1+k2+1+k3:=by grind
 generalize n0+1+k1+1+k2+1+k3=z at *;refine Aj L.units.length (Inv:=λm st=>∃dn a n M,L.units=dn++a/\m=a.length/\a.foldl Re M=S/\mid.1<n/\st=⟨[(3,.arr mid),(11,.sl (L.units.map Fv.enc)),(12,.i .i64 L.units.length),(13,.i .i64 dn.length)],[(mid,.map (Ld M))],n⟩) ⟨_,Ag.drop (λi e h=>AK (τ:=[_]) h) (Ab6 _),[],L.units,_,[],rfl,rfl,hS,r,rfl⟩ ?_;clear hS r;rintro m _ ⟨dn,a,n,M,o,rfl,f,x,rfl⟩;cases a with
 | nil=>simp only[A1d] at f;subst f;simp only[push_cast,seval,o];intros;exact MP rfl (by simp[lk])
 | cons u a=>
  have w:=A9 o;rw[AyT] at f;have g:∀k j,(mid=(n+1+k,j))=False:=λk j=>Ab8 λq=>by grind
  have c:∀k j,((n+1+k,j)=mid)=False:=λk j=>Ab8 λq=>AiZ (g k j) q.symm;have d:∀k l j,(mid=(n+1+k+1+l,j))=False:=λk l j=>Ab8 λq=>by grind
  have b:∀k l j,((n+1+k+1+l,j)=mid)=False:=λk l j=>Ab8 λq=>AiZ (d k l j) q.symm;unfold Re at f;rcases Vp u.unit u.cls M 0 with⟨i,p,h1,h2⟩|⟨h1,h2⟩
  .rw[h1] at f;simp only at f;unfold UK at h2;simp only[push_cast,seval,o,Ae u (dn:=dn) (by omega),h2,c,b]
   (repeat' (first|(first|(apply AL<;>intro _h)|refine As (by omega) ?_)<;>simp only[push_cast,seval,_h,o,Ae u (dn:=dn) (by omega),h2,g,c,d,b]|intro _))
   exact⟨_,_,Ab4 _,Ag.drop (λi e h=>by obtain⟨rfl,rfl⟩:=YC h;simp[lk,c,b]) (Ab6 _),dn++[u],a,_,_,by simp,rfl,f,by omega,rfl⟩
  .rw[h1] at f;simp only at f;unfold UK at h2;simp only[push_cast,seval,o,Ae u (dn:=dn) (by omega),h2,c,b,PK]
   (repeat' (first|(first|(apply AL<;>intro _h)|refine As (by omega) ?_)<;>simp only[push_cast,seval,_h,o,Ae u (dn:=dn) (by omega),h2,g,c,d,b,PK]|intro _))
   exact⟨_,_,Ab4 _,Ag.drop (λi e h=>by obtain⟨rfl,rfl⟩:=YC h;simp[lk,c,b]) (Ab6 _),dn++[u],a,_,_,by simp,rfl,f,by omega,rfl⟩
theorem uO L u c:KH L u c=match GE u c (L.units.foldl Re []) with
  | some p=>some p
  | none=>GE u [111,116,104,101,114] (L.units.foldl Re []):=by
 unfold KH;rw[OP,OP];rfl
theorem Adh L (u c:Aa)(g:L.units.length<=2^20):Ak π O 203 [L.enc,.s u,.s c] [] (.tup [.s ((KH L u c).getD []),.b (KH L u c).isSome]) []:=by
 have hp:=AkL O L g;generalize hS:KH L u c=S;rw[uO] at hS;generalize L.units.foldl Re []=M at *;rw[Du.enc_eq] at hp⊢;have d:=Vp u c M 0;have f:=Vp u [111,116,104,101,114] M 0;unfold UK at d f;refine Ac (vs:=[.s (S.getD []),.b S.isSome]) Al6 (by simp) (by simp) λn0 a=>?_;clear a;simp only[push_cast,seval];intro k1;refine Jn hp (λi e h=>by simp[lk] at h) ?_;rw[I0];rcases d with⟨i,p,h1,h2⟩|⟨h1,h2⟩
 .rw[h1] at hS;simp only at hS;subst hS;simp only[push_cast,seval,h2]
  (repeat' (first|(first|(apply AL<;>intro _h)|refine As (by omega) ?_)<;>simp only[push_cast,seval,_h,h2]|intro _))
  refine Ah ?_;simp[push_cast]
 .rw[h1] at hS;simp only at hS;rcases f with⟨i,p,h3,h4⟩|⟨h3,h4⟩
  .rw[h3] at hS;subst hS;simp only[push_cast,seval,h2,h4]
   (repeat' (first|(first|(apply AL<;>intro _h)|refine As (by omega) ?_)<;>simp only[push_cast,seval,_h,h2,h4]|intro _))
   refine Ah ?_;simp[push_cast]
  .rw[h3] at hS;subst hS;simp only[push_cast,seval,h2,h4]
   (repeat' (first|(first|(apply AL<;>intro _h)|refine As (by omega) ?_)<;>simp only[push_cast,seval,_h,h2,h4]|intro _))
   refine Ah ?_;simp[push_cast]
structure Zm (L:Du):Prop where
 n:L.units.length<=2^20
 p:∀u∈L.units,u.pat.length<=2^16
theorem LF{u c}:∀{l p},MC u c l=some p->∃x∈l,x.pat=p
 | [],p,h=>by cases h
 | x::l,p,h=>by
  rw[MC] at h;split at h
  .grind
  .have ⟨y,h1,h2⟩:=LF h;grind
theorem Q6{L}(b:Zm L){u c p}(h:KH L u c=some p):p.length<=2^16:=by
 unfold KH at h;split at h
 .rename_i q d;cases h;obtain⟨x,a,rfl⟩:=LF d;exact b.p x a
 .obtain⟨x,a,rfl⟩:=LF h;exact b.p x a
theorem Il L (a:M1 L) n st (b:n.length<=2^30):(Dc L n st).1.length<=2^23+2^19:=by
 have l1:=EQ L a (DY n).1 (L9 n);have d:=EQ L a (DW n).1 (LJ n);have e:=a.perc;unfold Dc;cases hB:E6 n with
 | false=>simp
 | true=>have c:=EQ L a n (RU hB);grind
def GI(L:Du)(u n:Aa):Aa×Int:=
 if(Cs L.card n).2==0 then
  match KH L u (Cs L.card n).1 with
  | none=>([],18)
  | some p=>if R8 p 1 then(if(Dc L n []).2==0 then(Lib.replace p [123,48,125] (Dc L n []).1 1,0) else([],(Dc L n []).2)) else([],4)
 else([],(Cs L.card n).2)
theorem Uy(s p t:Aa):(Lib.replace s p t 1).length<=s.length+t.length:=by
 have c:∀s,(Lib.replaceK p t 1 s).length<=s.length+t.length:=by
  intro s;unfold Lib.replaceK;split
  .omega
  .rename_i d;rcases JS s p with b|⟨b,e⟩
   .grind
   .unfold Lib.replaceK;grind
 unfold Lib.replace Lib.replaceNum;split
 .omega
 .split
  .rename_i h;have a:Lib.count s p=0:=by omega
   rw[a];unfold Lib.replaceK;omega
  .exact c s
theorem iJ(q:BS O) L (o:M1 L)(r:Zm L)(u n:Aa)(h:n.length<=2^30)(v:Ax L.card<=2^30):Ak π O 162 [L.enc,.s u,.s n] [] (.tup [.s (GI L u n).1,.i .i64 (GI L u n).2]) []:=by
 have e:=MV O L.card n h v;have g:=Adh O L u (Cs L.card n).1 r.n;have f:=OR O L o n [] h;have j:=Il L o n [] h;have m:=@Q6 L r u (Cs L.card n).1;generalize hS:GI L u n=S;unfold GI at hS;generalize Cs L.card n=C at *;generalize Dc L n []=N at *;generalize KH L u C.1=U at *;rw[Du.enc_eq] at *;have ⟨c1,c2⟩:=C;have ⟨n1,n2⟩:=N;simp only at *;cases b:(c2==0) with
 | false=>
  rw[b] at hS;simp only[Ab7,Ab9] at hS;subst hS;refine Ac (vs:=[.s [],.i .i64 c2]) Nt (by simp) (by simp) λn0 a=>?_;clear a;simp only[push_cast,rq]
  repeat' (first|((apply AL<;>intro _h)<;>simp only[push_cast,rq,_h,bne,b])|((first|refine Ab (by exact e) ?_|refine As (by simp only <;>omega) ?_);simp only[push_cast,rq,bne,b])|intro _)
  refine Ah ?_;simp[push_cast]
 | true=>
  rw[b] at hS;simp only[AbA] at hS;cases U with
  | none=>
   simp only at hS;subst hS;refine Ac (vs:=[.s [],.i .i64 18]) Nt (by simp) (by simp) λn0 a=>?_;clear a;simp only[push_cast,rq]
   repeat' (first|((apply AL<;>intro _h)<;>simp only[push_cast,rq,_h,bne,b,Option.getD_none,AyQ])|((first|refine Ab (by exact e) ?_|refine Ab (by exact g) ?_|refine As (by simp only <;>omega) ?_);simp only[push_cast,rq,bne,b,AyQ])|intro _)
   refine Ah ?_;simp[push_cast]
  | some p=>
   have k:=m rfl;have c:=Qn O q p 1 (by omega) (by omega) (by omega);have w:=Uy p [123,48,125] n1;have l:=Oq O q p [123,48,125] n1 1 (by omega) (by simp) (AoW (A1N k j) (by omega)) (by unfold AG;omega);simp only at hS;cases hB:R8 p 1 with
   | false=>
    rw[hB] at hS c;simp only[Ab7,Ab9] at hS;subst hS;refine Ac (vs:=[.s [],.i .i64 4]) Nt (by simp) (by simp) λn0 a=>?_;clear a;simp only[push_cast,rq]
    repeat' (first|((apply AL<;>intro _h)<;>simp only[push_cast,rq,_h,bne,b,Option.getD_some,AwY])|((first|refine Ab (by exact e) ?_|refine Ab (by exact g) ?_|refine Ab (by exact c) ?_|refine As (by simp only <;>omega) ?_);simp only[push_cast,rq,bne,b])|intro _)
    refine Ah ?_;simp[push_cast]
   | true=>
    rw[hB] at hS c;simp only[AbA] at hS;cases d:(n2==0) with
    | false=>
     rw[d] at hS;simp only[Ab7,Ab9] at hS;subst hS;refine Ac (vs:=[.s [],.i .i64 n2]) Nt (by simp) (by simp) λn0 a=>?_;clear a;simp only[push_cast,rq]
     repeat' (first|((apply AL<;>intro _h)<;>simp only[push_cast,rq,_h,bne,b,d,Option.getD_some,AwY])|((first|refine Ab (by exact e) ?_|refine Ab (by exact g) ?_|refine Ab (by exact c) ?_|refine Ab (by exact f) ?_|refine As (by simp only <;>omega) ?_);simp only[push_cast,rq,bne,b,d])|intro _)
     refine Ah ?_;simp[push_cast]
    | true=>
     rw[d] at hS;simp only[AbA] at hS;subst hS;generalize Lib.replace p [123,48,125] n1 1=t at *;refine Ac (vs:=[.s t,.i .i64 0]) Nt (by simp) (by simp) λn0 a=>?_;clear a;simp only[push_cast,rq]
     repeat' (first|((apply AL<;>intro _h)<;>simp only[push_cast,rq,_h,bne,b,d,Option.getD_some,AwY])|((first|refine Ab (by exact e) ?_|refine Ab (by exact g) ?_|refine Ab (by exact c) ?_|refine Ab (by exact f) ?_|refine Ab (by exact l) ?_|refine As (by simp only <;>omega) ?_);simp only[push_cast,rq,bne,b,d])|intro _)
     refine Ah ?_;simp[push_cast]
def PW(k t:Int):Bool:=if k==2 then !(t==4) else if k==5 then t==3 else if k==6 then t==4 else t==2
theorem Ak5 k (v:Ch):Ak π O 161 [.i .i64 k,v.enc] [] (.b (PW k v.type)) []:=by
 generalize hS:PW k v.type=S;unfold PW at hS;rw[Ch.enc_eq];refine Ac (vs:=[.b S]) Al0 (by simp) (by simp) λn0 e=>?_;clear e;simp only[push_cast,rq]
 all_goals (cases d:(k==2)<;>cases a:(k==5)<;>cases c:(k==6))
 all_goals ((try simp only[d,a,c,AbA,Ab9,reduceCtorEq] at hS);subst hS)
 all_goals (try simp only[push_cast,rq,a,c,bne])
 all_goals (repeat' (first|((first|refine As (by omega) ?_);(try simp only[push_cast,rq,d,a,c,bne]))|intro _))
 all_goals (first|(refine Af ?_;simp[get];done)|(exact Gj;done)|skip)
def LG(L:Du)(k:Int)(st:Aa)(v:Ch):Aa×Int:=
 if k<2||k>6 then([],1) else if !(FA v&&PW k v.type) then([],11)
 else if k==3 then Dc L v.text st else if k==4 then GI L st v.text else if k==5 then FM L st v.date else if k==6 then GN L st v.list
 else if !(v.type==3) then(v.text,0) else if En v.date==[] then([],2) else(En v.date,0)
structure uX (L:Du) (c:Nat):Prop where
 sym:M1 L
 uni:Zm L
 lst:AiC L
 dat:yM L c
 card:Ax L.card<=2^30
structure ZN (v:Ch):Prop where
 text:v.text.length<=2^30
 len:v.list.length<=2^30
 list:∀s∈v.list,s.length<=2^20
theorem WW(y:BS O)(z:Cu O)(L:Du)(c:Nat)(m:uX L c)(x:Ad)(v:Ch)(o:ZN v)(I:x.style.length<=2^24):Ak π O 119 [L.enc,x.enc,v.enc] [] (.tup [.s (LG L x.kind x.style v).1,.i .i64 (LG L x.kind x.style v).2]) []:=by
 have p:=Je O v o.text;have q:=Ak5 O x.kind v;have r:=OR O L m.sym v.text x.style o.text;have t:=iJ O y L m.sym m.uni x.style v.text o.text m.card;have u:=eL O z L c m.dat x.style v.date I;have w:=eW O y L m.lst x.style v.list o.len o.list;have H:=(NO O z v.date).1;generalize hS:LG L x.kind x.style v=S;unfold LG at hS;rw[Ch.enc_eq] at p q⊢;rw[Du.enc_eq] at r t u w⊢;rw[Ad.enc_eq];generalize x.kind=k at *;generalize x.style=st at *;generalize En v.date=A at *;generalize Dc L v.text st=D at *;generalize GI L st v.text=E at *;generalize FM L st v.date=F at *;generalize GN L st v.list=G at *;have ⟨x3,y3⟩:=D;have ⟨x4,y4⟩:=E;have ⟨x5,y5⟩:=F;have ⟨x6,y6⟩:=G;simp only at r t u w;generalize FA v=C at *;generalize J:PW k v.type=B at *;cases b:decide (k<2) with
 | true=>
  rw[b] at hS;simp only[Bool.true_or,AbA] at hS;subst hS;refine Ac (vs:=[.s [],.i .i64 1]) NT (by simp) (by simp) λn0 a=>?_;clear a;simp only[push_cast,rq,b]
  repeat' (first|(((first|apply Ai|apply Am|apply Al)<;>intro _h)<;>simp only[push_cast,rq,_h,b])|(refine As (by simp only <;>omega) ?_;simp only[push_cast,rq,b])|intro _)
  refine Ah ?_;simp[push_cast]
 | false=>
  cases d:decide (k>6) with
  | true=>
   rw[b,d] at hS;simp only[A1r,AbA] at hS;subst hS;refine Ac (vs:=[.s [],.i .i64 1]) NT (by simp) (by simp) λn0 a=>?_;clear a;simp only[push_cast,rq,b,d]
   repeat' (first|(((first|apply Ai|apply Am|apply Al)<;>intro _h)<;>simp only[push_cast,rq,_h,b,d])|(refine As (by simp only <;>omega) ?_;simp only[push_cast,rq,b,d])|intro _)
   refine Ah ?_;simp[push_cast]
  | false=>
   rw[b,d] at hS;simp only[A0T,Ab7,Ab9] at hS;cases C with
   | false=>
    simp only[AyN,AzQ,AbA] at hS;subst hS;refine Ac (vs:=[.s [],.i .i64 11]) NT (by simp) (by simp) λn0 a=>?_;clear a;simp only[push_cast,rq,b,d]
    repeat' (first|(((first|apply Ai|apply Am|apply Al)<;>intro _h)<;>simp only[push_cast,rq,_h,b,d])|((first|refine Ab (by exact p) ?_|refine As (by simp only <;>omega) ?_);simp only[push_cast,rq])|intro _)
    refine Ah ?_;simp[push_cast]
   | true=>
    cases B with
    | false=>
     simp only[A0j,AzQ,AbA] at hS;subst hS;refine Ac (vs:=[.s [],.i .i64 11]) NT (by simp) (by simp) λn0 a=>?_;clear a;simp only[push_cast,rq,b,d]
     repeat' (first|(((first|apply Ai|apply Am|apply Al)<;>intro _h)<;>simp only[push_cast,rq,_h,b,d])|((first|refine Ab (by exact p) ?_|refine Ab (by exact q) ?_|refine As (by simp only <;>omega) ?_);simp only[push_cast,rq])|intro _)
     refine Ah ?_;simp[push_cast]
    | true=>
     simp only[A0e,Azx,Ab7,Ab9] at hS;refine Ac (vs:=[.s S.1,.i .i64 S.2]) NT (by simp) (by simp) λn0 a=>?_;clear a;simp only[push_cast,rq,b,d]
     all_goals (cases e:(k==3)<;>cases f:(k==4)<;>cases g:(k==5)<;>cases h:(k==6)<;>cases j:(v.type==3)<;>cases l:(A==[]))
     all_goals ((try simp only[e,f,g,h,j,l,bq,AbA,Ab9,Int.reduceBEq,reduceCtorEq] at hS);subst hS)
     all_goals (try simp only[push_cast,rq,e,f,g,h,j,l,b,d,bne])
     all_goals (repeat' (first|((first|refine Ab (by exact p) ?_|refine Ab (by exact q) ?_|refine Ab (by exact r) ?_|refine Ab (by exact t) ?_|refine Ab (by exact u) ?_|refine Ab (by exact w) ?_|refine Ab (by exact H) ?_|refine As (by simp only[Ajd,An9,AtX,AG]<;>omega) ?_);(try simp only[push_cast,rq,e,f,g,h,j,l,b,d,bne]))|intro _))
     all_goals (first|(refine Af ?_;simp[get];done)|(refine Ah ?_;simp[push_cast,get];done)|skip)
end Go.Ir

namespace Go.Ir
open Go.Proofs Go.RowKit
variable(O:World)
def Acz{a:Type}(f:V->Option a):List V->Option (List a)
 | []=>some []
 | v::vs=>match f v with
  | some w=>match Acz f vs with
   | some b=>some (w::b)
   | none=>none
  | none=>none
theorem Qf{e f}:∀{l a},Acz f l=some a->l.length=a.length/\∀(k:Nat) (c) (d:e),l[k]?=some c->a[k]?=some d->f c=some d
 | [],a,h=>by cases h;grind
 | v::vs,a,h=>by
  rw[Acz] at h;split at h
  .rename_i w g;split at h
   .rename_i i b;cases h;have ⟨h1,h2⟩:=Qf b;grind
   .cases h
  .cases h
def Tv{a:Type}(f:V->Option a):V->Option (List a)
 | .sl es=>Acz f es
 | .nil=>some []
 | _=>none
def JG{a:Type}(f:V->Option a)(enc:a->V):Prop:=∀v x,f v=some x->JI (λ_=>none) v (enc x)/\(cells (enc x)).length=(cells v).length/\v.ok=true/\(enc x).ok=true
theorem Jm{i f}{enc:i->V}(e:JG f enc):JG (Tv f) λl=>.sl (l.map enc):=by
 intro v l h;cases v with
 | sl es=>
  have ⟨h1,h2⟩:=Qf (f:=f) h;refine⟨.sl _ _ (by simpa using h1) (λk c g b a=>?_) (λk c g b a=>?_),rfl,rfl,rfl⟩
  .rw[ArI] at a;obtain⟨x,d,rfl⟩:=Afo.1 a;exact(e _ _ (h2 k c x b d)).1
  .rw[ArI] at a;obtain⟨x,d,rfl⟩:=Afo.1 a;exact(e _ _ (h2 k c x b d)).2
 | nil=>cases h;exact⟨.nil,rfl,rfl,rfl⟩
 | _=>cases h
def Ei:V->Option Aa
 | .s l=>some l
 | _=>none
theorem Cq:JG Ei V.s:=by intro v l h;cases v<;>cases h;exact⟨.refl _,rfl,rfl,rfl⟩
def Kh:V->Option Int
 | .i .i64 n=>some n
 | _=>none
theorem HB:JG Kh (V.i .i64):=by
 intro v n h;unfold Kh at h;split at h
 .cases h;exact⟨.refl _,rfl,rfl,rfl⟩
 .cases h
def Ajq(f:V->Option (List Ad)):V->Option AD
 | .agg [k,ps]=>match Ei k with
  | some k=>match f ps with
   | some ps=>some (k,ps)
   | none=>none
  | none=>none
 | _=>none
def eY:Nat->V->Option Ad
 | 0=>λ_=>none
 | n+1=>λv=>match v with
  | .agg [a,t,m,st,cs,ps]=>(Kh a).bind λa=>(Ei t).bind λt=>(Ei m).bind λm=>(Ei st).bind λst=>(Tv (Ajq (Tv (eY n))) cs).bind λcs=>(Tv (eY n) ps).bind λps=>some ⟨a,t,m,st,cs,ps⟩
  | _=>none
theorem AeW{f}(e:JG f λl=>.sl (l.map Ad.enc)):JG (Ajq f) AD.enc:=by
 intro v c h;unfold Ajq at h;split at h
 .rename_i k ps;split at h
  .rename_i q g;split at h
   .rename_i i a;cases h;have o:=Cq _ _ g;have p:=e _ _ a;rw[AD.enc_eq];refine⟨.agg _ _ rfl λj c m b d=>?_,rfl,rfl,rfl⟩
    match j with
    | 0=>grind
    | 1=>grind
    | j+2=>simp at b
   .cases h
  .cases h
 .cases h
theorem QN:∀n,JG (eY n) Ad.enc
 | 0=>λv x h=>by cases h
 | n+1=>by
  intro v p h;have a:=Jm (QN n);have b:=Jm (AeW a);unfold eY at h;split at h
  .have ⟨kd,h0,h⟩:=AbS.1 h;have ⟨t,h1,h⟩:=AbS.1 h;have ⟨m,h2,h⟩:=AbS.1 h;have ⟨st,h3,h⟩:=AbS.1 h;have ⟨cs,h4,h⟩:=AbS.1 h;have ⟨ps,h5,h⟩:=AbS.1 h;cases h;have g:=HB _ _ h0;have i:=Cq _ _ h1;have k:=Cq _ _ h2;have l:=Cq _ _ h3;have o:=b _ _ h4;have q:=a _ _ h5;rw[Ad.enc_eq];refine⟨.agg _ _ rfl λj c f d e=>?_,rfl,rfl,rfl⟩
   match j with
   | 0=>grind
   | 1=>grind
   | 2=>grind
   | 3=>grind
   | 4=>simp_all
   | 5=>simp_all
   | j+6=>simp at d
  .cases h
def SA:List V->Option V
 | [v]=>(Tv (eY 40) v).bind λps=>bif Nat.ble (A7 ps) 1000000 then some (.i .i64 (CV ps)) else none
 | _=>none
theorem sX:Bo π O (onP 62 SA):=iT λargs v h=>by
 unfold SA at h;split at h
 .rename_i x;have ⟨ps,h1,h2⟩:=AbS.1 h;cases d:Nat.ble (A7 ps) 1000000 with
  | false=>rw[d] at h2;cases h2
  | true=>
   rw[d] at h2;cases h2;have f:=A0H d;refine⟨Jq (Ue O _ ps (Ab4 _) (by omega)) rfl λk a e c b=>?_,rfl⟩
   match k with
   | 0=>simp at c b;subst c b;exact(Jm (QN 40) _ _ h1).1
   | k+1=>simp at c
 .cases h
end Go.Ir
