/- A part of the proof that the law EvalIsolates answers true at every input of a bulk of at most 2^20. -/
import Derived.Test.YtmlnblijickboaaGreatDoorPae
import Derived.Lib.RuneBytes
import Derived.Lib.RuneCount
import Derived.RangeFuncNested
import Derived.RangeFuncBound
import Derived.RangeFuncCalls
import Derived.RangeFuncLeaves
import Derived.RangeFuncBox
import Derived.Shelf.Abstract
import Derived.Shelf.RegionOpen
import Derived.WalkKit
import Derived.OwnWalkIn
import Derived.TacticsInMore
import Derived.LoopNIn
import Derived.LoopIn
import Derived.Test.YtmlnblijickboaaGreatDoorRows
import Derived.ChangeArms
set_option linter.all false
set_option maxHeartbeats 4000000
set_option maxRecDepth 100000
open Nat renaming reduceEqDiff→rq
open Int renaming reduceBEq→rb
namespace Go.Ir
open Go.Proofs
variable(O:World)
def TB:Nat:=81
def bS(u:Bool)(x b:Id)(l:Ad):Au:=[(x,.tbox TB (.agg [wA u x,.arr b])),(b,.arr 5 1 (Az l))]
def BW(x:Id)(l:Ad)(r:V)(n n':Nat)(v:V)(σ':Au):Prop:=v=r/\∃a:Id,n<=a.1/\a.1<n'/\σ'=bS true x a l
theorem Vx{u x b l}:lk (bS u x b l) x=some (.tbox TB (.agg [wA u x,.arr b])):=by simp[bS,lk]
theorem Qk u x b:An π O 53 [.ref x 0] [(x,.tbox TB (.agg [wA u x,.arr b]))] (.tup []) [(x,.tbox TB (.agg [.ref x 0,.arr b]))]:=by
 cases u with
 | true=>exact Xs O
 | false=>exact XX O (by kernel_rfl)
theorem MO u x b (l t:Ad)(a:b≠x)(h:l.length+t.length<=2^30):FQ π O 94 [.ref x 0,.s t] (bS u x b l) (BW x (l++t) (.tup [.i .i64 t.length,.ni])):=by
 generalize v:BW x (l++t) (.tup [.i .i64 t.length,.ni])=R;refine Ct Agq (by simp) λn0 d=>?_;have z:x.1<n0:=d x _ Vx;have y:b.1<n0:=d b _ (by simp[bS,lk,AsR a];rfl);clear d;have f:=Qk O u x b;have g:(x=b)=False:=Amp (AsR a);have m:(b=x)=False:=Amp a;simp only[push_cast,seval,rq,g,m,bS];intro k1;refine BJ f (λi e h=>BA (τ:=[(b,Be.arr 5 1 (Az l))]) h) ?_;rw[If (λp hp=>by simp at hp;subst hp;exact a)];clear f;have o:∀k j:Nat,((n0+1+k1+1+k,j)=x)=False:=λk j=>Amp λc=>by have:=Ayb Prod.fst c;simp only at this;omega
 have q:∀k j:Nat,((n0+1+k,j)=b)=False:=λk j=>Amp λc=>(by have:=Ayb Prod.fst c;(try simp only at this);omega)
 have r:∀k j:Nat,(b=(n0+1+k,j))=False:=λk j=>Amp λc=>Axj (q k j) c.symm;simp only[push_cast,seval,rq,g,m,o,Bq];intro k2;refine As (by unfold AM;omega) ?_;simp only[push_cast,seval,rq,g,m,o,Bq];intro k3 A;subst v;rw[Fo];exact⟨_,Aj.refl,[.i .i64 t.length,.ni],bS true x (n0+1+k1+1+k2,14) (l++t),⟨rfl,rfl,trivial⟩,J2 (AsR (λc=>Axj (o _ _) c)),rfl,_,by simp only;omega,by simp only;omega,rfl⟩
theorem AjM u x b l c (a:b≠x)(h:l.length+1<=2^30):FQ π O 117 [.ref x 0,.i .u8 c.toNat] (bS u x b l) (BW x (l++[c]) .ni):=by
 generalize v:BW x (l++[c]) .ni=R;refine Ct AlF (by simp) λn0 f=>?_;have A:x.1<n0:=f x _ Vx;have z:b.1<n0:=f b _ (by simp[bS,lk,AsR a];rfl);clear f;have g:=Qk O u x b;have m:(x=b)=False:=Amp (AsR a);have o:(b=x)=False:=Amp a;simp only[push_cast,seval,rq,m,o,bS];intro k1;refine BJ g (λi e h=>BA (τ:=[(b,Be.arr 5 1 (Az l))]) h) ?_;rw[If (λp hp=>by simp at hp;subst hp;exact a)];clear g;have q:∀k j:Nat,((n0+1+k1+1+k,j)=x)=False:=λk j=>Amp λd=>by have:=Ayb Prod.fst d;simp only at this;omega
 have r:∀k j:Nat,((n0+1+k,j)=b)=False:=λk j=>Amp λd=>(by have:=Ayb Prod.fst d;(try simp only at this);omega)
 have s:∀k j:Nat,(b=(n0+1+k,j))=False:=λk j=>Amp λd=>Axj (r k j) d.symm;have t:(l.length+1<=AM)=True:=Amy (by unfold AM;omega);simp only[push_cast,seval,rq,m,o,q,Bq,t];intro k2 k3 B;subst v;have y:Az l++[.i .u8 c.toNat]=Az (l++[c]):=by rw[<-Fo];rfl
 rw[y];exact⟨_,Aj.refl,[.ni],bS true x (n0+1+k1+1+k2,14) (l++[c]),⟨rfl,trivial⟩,J2 (AsR (λd=>Axj (q _ _) d)),rfl,_,by simp only;omega,by simp only;omega,rfl⟩
def Ws(a b:Int):Int:=IntKind.u8.wrap (BitVec.ofInt 8 a ||| BitVec.ofInt 8 b).toNat
def anU(a b:Int):Int:=IntKind.u8.wrap (BitVec.ofInt 8 a &&& BitVec.ofInt 8 b).toNat
def srI(a:Int)(k:Nat):Int:=a.fdiv (2 ^ k)
def QX(n:Int):UInt8:=UInt8.ofNat n.toNat
theorem Aqy a b:FT (.bit .or) [.i .u8 a,.i .u8 b]=some (.i .u8 (Ws a b)):=rfl
theorem Alm a b:FT (.bit .and) [.i .u8 a,.i .u8 b]=some (.i .u8 (anU a b)):=rfl
theorem Uw a b (h:0<=b):FT (.shf .shr) [.i .i32 a,.i .u64 b]=some (.i .i32 (srI a (min b.toNat 32))):=by simp only[FT,Aiv h];rfl
theorem L7 n:IntKind.u8.wrap n=n % 256:=by simp only[IntKind.wrap,IntKind.bits,IntKind.signed];simp
theorem Ajl a b:0<=Ws a b/\Ws a b<256:=by unfold Ws;rw[L7];omega
theorem AqD{n}(h:0<=n/\n<256):V.i .u8 n=.i .u8 ((QX n).toNat:Int):=by unfold QX;congr 1;rw[AzH];omega
def u8(r:Int):Int:=IntKind.u8.wrap r
def Wa(r:Int)(k:Nat):Int:=Ws 128 (anU (u8 (srI r k)) 63)
def Yv(r:Int):Int:=Ws 128 (anU (u8 r) 63)
def Hx(r:Int):List Int:=
 if decide (IntKind.u32.wrap r<=127) then[u8 r]
 else if decide (IntKind.u32.wrap r<=2047) then[Ws 192 (u8 (srI r 6)),Yv r]
 else if decide (IntKind.u32.wrap r<55296)||decide (57343<IntKind.u32.wrap r)&&decide (IntKind.u32.wrap r<=65535) then[Ws 224 (u8 (srI r 12)),Wa r 6,Yv r]
 else if decide (IntKind.u32.wrap r>65535)&&decide (IntKind.u32.wrap r<=1114111) then[Ws 240 (u8 (srI r 18)),Wa r 12,Wa r 6,Yv r]
 else[239,191,189]
def Cr(r:Int):Ad:=(Hx r).map QX
theorem uJ r:∀n∈Hx r,0<=n/\n<256:=by
 have b:=Ajl;unfold Hx;split
 .intro n a;simp at a;subst a;unfold u8;rw[L7];omega
 .split
  .intro n a;simp at a;rcases a with rfl|rfl<;>exact b _ _
  .split
   .intro n a;simp at a;rcases a with rfl|rfl|rfl<;>exact b _ _
   .split
    .intro n a;simp at a;rcases a with rfl|rfl|rfl|rfl<;>exact b _ _
    grind
theorem Kp r:1<=(Cr r).length/\(Cr r).length<=4:=by unfold Cr Hx;grind
theorem Ahb r:(Hx r).map (V.i .u8)=Az (Cr r):=by unfold Cr Az;rw[A0F];exact Ayp λn a=>AqD (uJ r n a)
def V2(l:Ad)(n n':Nat)(v:V)(σ':Au):Prop:=∃a:Id,n<=a.1/\a.1<n'/\v=.arr a/\σ'=[(a,.arr 5 1 (Az l))]
theorem o8 b (l:Ad) r (u:l.length<=2^30)(s:decide (IntKind.u32.wrap r<=127)=false):FQ π O 76 [.arr b,.i .i32 r] [(b,.arr 5 1 (Az l))] (V2 (l++Cr r)):=by
 have t:Az (l++Cr r)=Az l++(Hx r).map (V.i .u8):=by rw[Ahb,<-Fo]
 generalize e:V2 (l++Cr r)=R;unfold V2 at e;rw[t] at e;generalize hS:Hx r=S at e;unfold Hx at hS;rw[s] at hS;have q1:=λa b=>Aqy a b;have q2:=λa b=>Alm a b;have q:=Uw r 6 (by omega);have c:=Uw r 12 (by omega);have d:=Uw r 18 (by omega);have k:(l.length+2<=AM)=True:=Amy (by unfold AM;omega);have m:(l.length+3<=AM)=True:=Amy (by unfold AM;omega);have o:(l.length+4<=AM)=True:=Amy (by unfold AM;omega);refine Ct Aqt (by simp) λn0 p=>?_;clear p;cases k1:decide (IntKind.u32.wrap r<=2047)<;>cases k2:decide (IntKind.u32.wrap r<55296)<;>cases k3:decide (57343<IntKind.u32.wrap r)<;>cases f:decide (IntKind.u32.wrap r<=65535)<;>cases g:decide (IntKind.u32.wrap r>65535)<;>cases j:decide (IntKind.u32.wrap r<=1114111)
 all_goals simp only[k1,k2,k3,f,g,j,AmS,Am0,Amq,Amr,Atc,AsM,Agp,AfT,Agw,A0G] at hS
 all_goals subst hS
 all_goals simp only[push_cast,seval,rq,q1,q2,q,c,d,k,m,o,Bq,k1,k2,k3,f,g,j]
 all_goals repeat' (first|(((first|apply Ac|apply Af|apply Ag)<;>intro _h)<;>simp only[push_cast,seval,rq,_h,q1,q2,q,c,d,k,m,o,Bq,k1,k2,k3,f,g,j])|(refine As (by simp only[Aaf,Aa8,Adu,Am]<;>omega) ?_;simp only[push_cast,seval,rq,q1,q2,q,c,d,k,m,o,Bq,k1,k2,k3,f,g,j])|intro _)
 all_goals (first|(intros;subst e;exact⟨_,Aj.refl,[.arr _],[_],⟨rfl,trivial⟩,λ_ _ h=>h,_,by simp only;omega,by simp only;omega,rfl,rfl⟩)|skip)
theorem bU b (l:Ad) r (t:l.length<=2^30):FQ π O 54 [.arr b,.i .i32 r] [(b,.arr 5 1 (Az l))] (V2 (l++Cr r)):=by
 cases a:decide (IntKind.u32.wrap r<=127) with
 | true=>
  have y:Az (l++Cr r)=Az l++[.i .u8 (IntKind.u8.wrap r)]:=by rw[<-Fo,<-Ahb];unfold Hx;rw[a];rfl
  generalize d:V2 (l++Cr r)=R;unfold V2 at d;rw[y] at d;have g:(l.length+1<=AM)=True:=Amy (by unfold AM;omega);refine Ct Afg (by simp) λn0 f=>?_;clear f;simp only[push_cast,seval,rq,g,Bq,a]
  repeat' (first|(((first|apply Ac|apply Af|apply Ag)<;>intro _h)<;>simp only[push_cast,seval,rq,_h,g,Bq,a])|(refine As (by simp only[Aaf,Aa8,Adu,Am]<;>omega) ?_;simp only[push_cast,seval,rq,g,Bq,a])|intro _)
  subst d;exact⟨_,Aj.refl,[.arr _],[_],⟨rfl,trivial⟩,λ_ _ h=>h,_,by simp only;omega,by simp only;omega,rfl,rfl⟩
 | false=>
  have q:=o8 O b l r t a;generalize d:V2 (l++Cr r)=R;rw[d] at q;have j:∀n n' v σ',R n n' v σ'->∀m o,m<=n->n'<=o->R m o v σ':=by rw[<-d];rintro n n' v σ' ⟨c,z,i2,h⟩ m o A x;exact⟨c,by omega,by omega,h⟩
  have k:∀n n' v σ',R n n' v σ'->∃c,v=.arr c/\∃e,σ'=[(c,e)]:=by rw[<-d];rintro n n' v σ' ⟨c,z,i2,a,s⟩;exact⟨c,a,_,s⟩
  refine Ct Afg (by simp) λn0 f=>?_;clear f;simp only[push_cast,seval,rq,a]
  repeat' (first|(((first|apply Ac|apply Af|apply Ag)<;>intro _h)<;>simp only[push_cast,seval,rq,_h,a])|(refine As (by simp only[Aaf,Aa8,Adu,Am]<;>omega) ?_;simp only[push_cast,seval,rq,a])|intro _)
  refine AY q (λ_ _ h=>h) (λB v σo u p=>?_);rw[Fu];obtain⟨c,rfl,e,rfl⟩:=k _ _ _ _ p;simp only[push_cast,seval,rq,a]
  repeat' (first|(((first|apply Ac|apply Af|apply Ag)<;>intro _h)<;>simp only[push_cast,seval,rq,_h,a])|(refine As (by simp only[Aaf,Aa8,Adu,Am]<;>omega) ?_;simp only[push_cast,seval,rq,a])|intro _)
  exact⟨_,Aj.refl,[.arr c],[(c,e)],⟨rfl,trivial⟩,λ_ _ h=>h,j _ _ _ _ p _ _ (by omega) (by simp only;omega)⟩
theorem Ala u x b l r (a:b≠x)(h:l.length<=2^29):FQ π O 35 [.ref x 0,.i .i32 r] (bS u x b l) (BW x (l++Cr r) (.tup [.i .i64 ((Cr r).length:Nat),.ni])):=by
 have D:=Kp r;generalize B:BW x (l++Cr r) (.tup [.i .i64 ((Cr r).length:Nat),.ni])=R;refine Ct Ao1 (by simp) λn0 d=>?_;have G:x.1<n0:=d x _ Vx;have F:b.1<n0:=d b _ (by simp[bS,lk,AsR a];rfl);clear d;have f:=Qk O u x b;have j:(x=b)=False:=Amp (AsR a);have o:(b=x)=False:=Amp a;simp only[push_cast,seval,rq,j,o,bS,Bq];intro k1;refine BJ f (λi e h=>BA (τ:=[(b,Be.arr 5 1 (Az l))]) h) ?_;rw[If (λp hp=>by simp at hp;subst hp;exact a)];clear f;simp only[push_cast,seval,rq,j,o,bS,Bq];intros;refine AY (bU O b l r (by omega)) (λi e h=>by
  simp only[lk] at h⊢;split at h
  .rename_i z;subst z;simp only[j,AfT,Agp];exact h
  .cases h) (λI v σo C A=>?_)
 obtain⟨c,t,i2,rfl,rfl⟩:=A;have k:over [(b,Be.arr 5 1 (Az l))] [(c,Be.arr 5 1 (Az (l++Cr r)))] [(x,Be.tbox TB (.agg [.ref x 0,.arr b])),(b,Be.arr 5 1 (Az l))]=[(c,Be.arr 5 1 (Az (l++Cr r))),(x,Be.tbox TB (.agg [.ref x 0,.arr b]))]:=by have:=Fl (σi:=[(b,Be.arr 5 1 (Az l))]) (σo:=[(c,Be.arr 5 1 (Az (l++Cr r)))]) (pre:=[(x,Be.tbox TB (.agg [.ref x 0,.arr b]))]) (λp hp q s=>by simp at hp s;subst hp s;exact AsR a);simpa using this
 rw[k];have y:(c=x)=False:=Amp λg=>by rw[g] at t;omega
 have m:(x=c)=False:=Amp λg=>by rw[<-g] at t;omega
 have E:IntKind.i64.wrap (((l++Cr r).length:Nat)-(l.length:Int))=((Cr r).length:Nat):=by rw[Aaf,wrap64 (by omega) (by omega)];omega
 simp only[push_cast,seval,rq,y,m,Bq,E];intros;subst B;exact⟨_,Aj.refl,[.i .i64 ((Cr r).length:Nat),.ni],bS true x c (l++Cr r),⟨rfl,rfl,trivial⟩,J2 (λg=>Axj m g),rfl,c,by omega,by simp only;omega,rfl⟩
theorem Aj.bld{O:World}{nt n:Nat}{env:Bm}{τ:Au}{x:Id}(f:x.1<n):Aj O nt ⟨env,(x,.tbox TB (.agg [.np,.nil]))::τ,n⟩ ⟨env,bS false x (n,0) []++τ,n+1⟩:=by
 have a:((n,0):Id)≠x:=λd=>by grind
 refine(Aj.ownTbox (A:=[.np]) (B:=[]) 5 1 0).trans (Aj.drop (λi e h=>?_) (AfJ _));simp only[bS,AsT,Aub,lk] at h⊢;by_cases b:x=i
 .subst b;rw[Aiv rfl] at h;rw[Amt a,Aiv rfl];exact h
 .rw[Amt b] at h;by_cases c:((n,0):Id)=i
  .rw[Aiv c] at h⊢;exact h
  grind
theorem TR u x b l (a:b≠x)(c:l.length<=2^30):An π O 33 [.ref x 0] (bS u x b l) (.s l) [(x,.tbox TB (.agg [wA u x,.arr b]))]:=
 O3 O (T:=TB) (r:=[]) a (by unfold Am;omega)
theorem P4{u d x b a l c τ}(f:∀p∈τ,p.1≠x/\p.1≠b):over (bS u x b l) (bS d x a c) (bS u x b l++τ)=bS d x a c++τ:=by
 have:=Jz (σi:=bS u x b l) (σo:=bS d x a c) (pre:=[]) (post:=τ) (λp hp=>by cases hp) (λp hp q e=>by simp[bS] at e;grind
)
 simpa using this
theorem PF{u x b l τ}:∀i e,lk (bS u x b l) i=some e->lk (bS u x b l++τ) i=some e:=λi e h=>BA h
def Br(n:Int):Bool:=decide (n>=0)&&(decide (n<=1114111)&&(decide (n<55296)||decide (n>57343)))
theorem AaP n:An π O 34 [.i .i64 n] [] (.b (Br n)) []:=by
 generalize hS:Br n=S;unfold Br at hS;refine Ah (vs:=[.b S]) AmZ (by simp) (by simp) λn0 f=>?_;clear f;simp only[push_cast,seval,rq];cases a:decide (n>=0)<;>cases c:decide (n<=1114111)<;>cases d:decide (n<55296)<;>cases e:decide (n>57343)
 all_goals simp only[a,c,d,e,AmS,Am0,Amq,Amr,Atc,AsM,A0G] at hS
 all_goals subst hS
 all_goals simp only[push_cast,seval,rq,a,c,d,e]
 all_goals repeat' (first|(((first|apply Ac|apply Af|apply Ag)<;>intro _h)<;>simp only[push_cast,seval,rq,_h,a,c,d,e])|(refine As (by simp only[Aaf,Aa8,Adu,Am]<;>omega) ?_;simp only[push_cast,seval,rq,a,c,d,e])|intro _)
 all_goals exact Ae (by simp[get])
def Hf(c:Int):Bool:=decide (c>=8294)&&decide (c<=8296)
theorem KT c:An π O 17 [.i .i64 c] [] (.b (Hf c)) []:=by
 generalize hS:Hf c=S;unfold Hf at hS;refine Ah (vs:=[.b S]) Ao7 (by simp) (by simp) λn0 e=>?_;clear e;simp only[push_cast,seval,rq];cases a:decide (c>=8294)<;>cases d:decide (c<=8296)
 all_goals simp only[a,d,AmS,Am0,Amq,Amr] at hS
 all_goals subst hS
 all_goals simp only[push_cast,seval,rq,a,d]
 all_goals repeat' (first|(((first|apply Ac|apply Af|apply Ag)<;>intro _h)<;>simp only[push_cast,seval,rq,_h,a,d])|(refine As (by simp only[Aaf,Aa8,Adu,Am]<;>omega) ?_;simp only[push_cast,seval,rq,a,d])|intro _)
 all_goals exact Ae (by simp[get])
def DN(s:Ad):Nat->Nat->List Int
 | 0,_=>[]
 | n+1,p=>if p<s.length then(Utf8.decode ⟨s.toArray⟩ p).1::DN s n (p+(Utf8.decode ⟨s.toArray⟩ p).2) else[]
def EQ(s:Ad):List Int:=DN s s.length 0
def Dq(l:List Int):Ad:=l.flatMap λn=>Cr (IntKind.i32.wrap (if Br n then n else 65533))
theorem MU s:∀(n m p),s.length<=n+p->s.length<=m+p->DN s n p=DN s m p:=by
 intro n
 induction n with
 | zero=>
  intro m p a b;cases m with
  | zero=>rfl
  | succ m=>rw[DN,DN,Amt (by omega)]
 | succ n c=>
  intro m p a b;cases m with
  | zero=>grind
  | succ m=>
   rw[DN,DN];split
   .rename_i hp;have:=Lib.decode_width_pos ⟨s.toArray⟩ p (by simpa[ByteArray.size] using hp);grind
   .rfl
theorem Kk s:∀(n p),(DN s n p).length<=n:=by
 intro n
 induction n with
 | zero=>intro p;simp[DN]
 | succ n a=>intro p;rw[DN];grind
theorem mB l:(Dq l).length<=4*l.length:=by
 induction l with
 | nil=>simp[Dq]
 | cons n l a=>have h:=Kp (IntKind.i32.wrap (if Br n then n else 65533));have:Dq (n::l)=Cr (IntKind.i32.wrap (if Br n then n else 65533))++Dq l:=rfl;grind
theorem qF(l:List Int):∀y∈l.map (V.i .i64),y.ok=true:=by intro y a;obtain⟨x,_,rfl⟩:=Awt.1 a;rfl
theorem S8(s:Ad)(F:s.length<=2^28):An π O 16 [.s s] [] (.sl ((EQ s).map (V.i .i64))) []:=by
 generalize hS:EQ s=S;unfold EQ at hS;refine Ah (vs:=[.sl (S.map (V.i .i64))]) Ap2 (by simp) (by simp) λn0 u=>?_;clear u;simp only[push_cast,seval,rq]
 repeat' (first|(((first|apply Ac|apply Af|apply Ag)<;>intro _h)<;>simp only[push_cast,seval,rq,_h])|(refine As (by simp only[Aaf,Aa8,Adu,Am]<;>omega) ?_;simp only[push_cast,seval,rq])|intro _)
 rename_i k1 k2 k3;generalize r:((n0+1+k1+1+k2,7):Id)=c;have b:c.1<n0+1+k1+1+k2+1+k3:=by rw[<-r];simp only;omega
 generalize n0+1+k1+1+k2+1+k3=y at *;refine Ak s.length (Inv:=λm st=>∃n p id out,m=s.length-p/\out++DN s (s.length-p) p=S/\out.length<=p/\out.length<=s.length/\c.1<id.1/\id.1<n/\st=⟨[(3,.arr id),(7,.arr c)],[(id,.arr 3 1 (out.map (V.i .i64))),(c,.it s p)],n⟩) ⟨_,(Aj.own (s:=3) (e:=3) (sz:=1) (k:=0) rfl).trans (Aj.envD (env':=[(3,.arr (y,0)),(7,.arr c)]) (λt=>?_) (AfJ _)),_,0,(y,0),[],rfl,hS,AfJ _,Aul _,b,Adx _,rfl⟩ ?_
 .left;simp only[get];by_cases h:3=t
  .subst h;simp
  .simp[h]
 clear hS b;rintro m _ ⟨n,p,id,out,rfl,g,E,B,b,z,rfl⟩;have f:(id=c)=False:=Amp λo=>by rw[o] at b;omega
 have d:(c=id)=False:=Amp λo=>by rw[o] at b;omega
 by_cases hp:p<s.length
 .have x:=Lib.decode_width_pos ⟨s.toArray⟩ p (by simpa[ByteArray.size] using hp);have a:(p<s.length)=True:=Amy hp;obtain⟨q,C⟩:∃q,s.length-p=q+1:=⟨s.length-p-1,by omega⟩
  rw[C,DN,Aiv hp] at g;rw[MU s q (s.length-(p+(Utf8.decode ⟨s.toArray⟩ p).2)) _ (by omega) (by omega)] at g;have A:=decode_le ⟨s.toArray⟩ p;generalize j:Utf8.decode ⟨s.toArray⟩ p=D at *;have l:(out.length+1<=AM)=True:=Amy (by unfold AM;omega);have v:IntKind.i64.wrap (D.1:Int)=(D.1:Int):=wrap64 (by omega) (by omega);simp only[push_cast,seval,rq,a,j,f,d,l,v,AaT]
  repeat' (first|(((first|apply Ac|apply Af|apply Ag)<;>intro _h)<;>simp only[push_cast,seval,rq,_h,a,j,f,d,l,v,AaT])|(refine As (by simp only[Aaf,Aa8,Adu,Am]<;>omega) ?_;simp only[push_cast,seval,rq,a,j,f,d,l,v,AaT])|intro _)
  rw[DO];exact⟨_,_,by omega,Aj.refl,_,p+D.2,_,out++[(D.1:Int)],rfl,by rw[Awz];exact g,by simp;omega,by simp;omega,by simp only;omega,by simp only;omega,rfl⟩
 .have a:(p<s.length)=False:=Amp hp;rw[show s.length-p=0 by omega,DN,AmY] at g;subst g;simp only[push_cast,seval,rq,a,f,d];intros;refine GZ (Aj.frzAt (s:=3) (id:=id) rfl (by simp[lk,d]) (qF out) (AfJ _)) ?_;simp only[push_cast,seval,rq,a,f,d];intros;exact Ae (by simp[get])
theorem RO l (I:l.length<=2^26):An π O 18 [.sl (l.map (V.i .i64))] [] (.s (Dq l)) []:=by
 generalize hS:Dq l=S;refine Ah (vs:=[.s S]) Ask (by simp) (by simp) λn0 o=>?_;clear o;simp only[push_cast,seval,rq]
 repeat' (first|(((first|apply Ac|apply Af|apply Ag)<;>intro _h)<;>simp only[push_cast,seval,rq,_h])|(refine As (by simp only[Aaf,Aa8,Adu,Am]<;>omega) ?_;simp only[push_cast,seval,rq])|intro _)
 rename_i k1 k2 k3;generalize F:((n0+1+k1,3):Id)=x;have e:x.1<n0+1+k1+1+k2+1+k3:=by rw[<-F];simp only;omega
 generalize n0+1+k1+1+k2+1+k3=G at *;refine Ak l.length (Inv:=λm st=>∃dn a n u b out,l=dn++a/\m=a.length/\out++Dq a=S/\out.length+4*a.length<=2^28/\x.1<b.1/\b.1<n/\st=⟨[(3,.ref x 0),(6,.sl (l.map (V.i .i64))),(7,.i .i64 l.length),(8,.i .i64 dn.length)],bS u x b out,n⟩) ⟨_,Aj.bld e,[],l,_,false,(G,0),[],rfl,rfl,hS,by simp;omega,e,Adx _,by simp⟩ ?_;clear hS e;rintro m _ ⟨dn,a,n,u,b,out,d,rfl,j,y,k,B,rfl⟩;have g:b≠x:=λD=>by rw[D] at k;omega
 cases a with
 | nil=>simp only[Dq,AzU,AmY] at j;subst j;have r:=TR O u x b out g (by omega);simp only[push_cast,seval,rq,d];intros;refine BJ r (λ_ _ h=>h) ?_;simp only[push_cast,seval,rq];intros;exact Ae (by simp[get])
 | cons c a=>
  have C:=Ay d;have p:=AaP O c;have f:out++(Cr (IntKind.i32.wrap (if Br c then c else 65533))++Dq a)=S:=j;clear j;generalize Br c=t at *;have q:=Kp (IntKind.i32.wrap (if t then c else 65533));cases t
  all_goals simp only[Agp,AfT,Agw] at f q
  all_goals simp only[push_cast,seval,rq,d,Aa c (dn:=dn) (by omega)]
  all_goals repeat' (first|(((first|apply Ac|apply Af|apply Ag)<;>intro _h)<;>simp only[push_cast,seval,rq,_h,d,Aa c (dn:=dn) (by omega)])|((first|refine Ab (by exact p) ?_|refine As (by simp only[Aaf,Aa8,Adu,Am]<;>omega) ?_);simp only[push_cast,seval,rq,d,Aa c (dn:=dn) (by omega)])|intro _)
  all_goals (refine AY (Ala O u x b out _ g (by simp at y;omega)) (λ_ _ h=>h) (λK v σo E A=>?_))
  all_goals (obtain⟨rfl,z,J,i2,rfl⟩:=A)
  all_goals rw[Fu]
  all_goals simp only[push_cast,seval,rq,d,Aa c (dn:=dn) (by omega)]
  all_goals repeat' (first|(((first|apply Ac|apply Af|apply Ag)<;>intro _h)<;>simp only[push_cast,seval,rq,_h,d,Aa c (dn:=dn) (by omega)])|(refine As (by simp only[Aaf,Aa8,Adu,Am]<;>omega) ?_;simp only[push_cast,seval,rq,d,Aa c (dn:=dn) (by omega)])|intro _)
  all_goals exact⟨_,_,Adx _,Aj.refl,dn++[c],a,_,true,z,_,by simp,rfl,by rw[Awz];exact f,by simp at y⊢;omega,by omega,by omega,rfl⟩
def C7:List Int->List Bool->Int->Ad->Ad×Int
 | [],_,k,out=>(out,k)
 | c::r,a,k,out=>
  if Hf c then(if decide (k<8) then C7 r (a++[true]) (k+1) (out++Dq [c]) else C7 r (a++[false]) k out)
  else if c==8297 then(match a.getLast? with
   | none=>C7 r a k out
   | some true=>C7 r a.dropLast (k-1) (out++Dq [c])
   | some false=>C7 r a.dropLast k out)
  else C7 r a k (out++Dq [c])
def FJ:Nat->Ad
 | 0=>[]
 | n+1=>Dq [8297]++FJ n
def RL(s:Ad):Ad:=(C7 (EQ s) [] 0 []).1++FJ (C7 (EQ s) [] 0 []).2.toNat
theorem Pq c:An π O 18 [.sl [.i .i64 c]] [] (.s (Dq [c])) []:=RO O [c] (by simp)
theorem EF c:(Dq [c]).length<=4:=mB [c]
theorem Ps{u x b a out E}(c:a≠x)(d:a≠b):∀i e,lk (bS u x b out++[(a,E)]) i=some e->lk ((a,E)::bS u x b out) i=some e:=by intro i e h;simp only[bS,AsT,Aub,lk] at h⊢;grind
theorem Sp{u e x b c a l d E}(g:a≠x)(h:a≠b):over (bS u x b l) (bS e x c d) ((a,E)::bS u x b l)=bS e x c d++[(a,E)]:=by
 have:=Fl (σi:=bS u x b l) (σo:=bS e x c d) (pre:=[(a,E)]) (λp hp q f=>by simp at hp;subst hp;simp[bS] at f;grind
)
 simpa using this
theorem We{u x b a l E}(c:a≠x)(d:a≠b):∀i e,lk (bS u x b l) i=some e->lk ((a,E)::bS u x b l) i=some e:=by intro i e h;simp only[lk];rw[Amt,<-h];rintro rfl;simp[bS,lk,AsR c,AsR d] at h
theorem YS(s:Ad)(hs:s.length<=2^24):An π O 130 [.s s] [] (.s (RL s)) []:=by
 have aB:=Kk s s.length 0;have aA:=S8 O s (by omega);generalize hS:RL s=S;unfold RL at hS;have aV:(EQ s).length<=2^24:=by unfold EQ;omega
 generalize EQ s=D at *;generalize hB:C7 D [] 0 []=B at hS;refine Ah (vs:=[.s S]) AlP (by simp) (by simp) λn0 aL=>?_;clear aL;simp only[push_cast,seval,rq]
 repeat' (first|(((first|apply Ac|apply Af|apply Ag)<;>intro _h)<;>simp only[push_cast,seval,rq,_h])|((first|refine Ab (by exact aA) ?_|refine As (by simp only[Aaf,Aa8,Adu,Am]<;>omega) ?_);simp only[push_cast,seval,rq])|intro _)
 rename_i k1 k2 k3 k4 k5;generalize hx:((n0+1+k1,3):Id)=x;have W:x.1<n0+1+k1+1+k2+1+k3+1+k4+1+k5:=by rw[<-hx];simp only;omega
 generalize n0+1+k1+1+k2+1+k3+1+k4+1+k5=n1 at *;refine Ak D.length (Inv:=λm st=>∃dn d n u b out M k r,D=dn++d/\m=d.length/\C7 d M k out=B/\-(dn.length:Int)<=k/\k<=8/\M.length<=dn.length/\out.length+4*d.length<=2^26/\x.1<b.1/\x.1<r.1/\r≠b/\b.1<n/\r.1<n/\st=⟨[(3,.ref x 0),(4,.arr r),(5,.i .i64 k),(11,.sl (D.map (V.i .i64))),(12,.i .i64 D.length),(13,.i .i64 dn.length)],bS u x b out++[(r,.arr 4 1 (M.map V.b))],n⟩) ⟨_,((Aj.bld (τ:=[]) W).trans (Aj.own (s:=4) (e:=4) (sz:=1) (k:=0) rfl)).trans ((Aj.envD (env':=[(3,.ref x 0),(4,.arr (n1+1,0)),(5,.i .i64 0),(11,.sl (D.map (V.i .i64))),(12,.i .i64 D.length),(13,.i .i64 0)]) (λt=>?_) (AfJ _)).trans (Aj.drop (σ':=bS false x (n1,0) []++[((n1+1,0),.arr 4 1 [])]) (Ps (λf=>by rw[<-f] at W;simp only at W;omega) (by simp)) (AfJ _))),[],D,_,false,(n1,0),[],[],0,(n1+1,0),rfl,rfl,hB,by simp,by omega,AfJ _,by simp;omega,W,by simp only;omega,by simp,by simp only;omega,by simp only;omega,rfl⟩ ?_
 .left;simp only[get];by_cases h3:3=t
  .subst h3;simp
  .by_cases h4:4=t
   .subst h4;simp
   .simp[h3,h4]
 clear hB W;rintro m _ ⟨dn,d,n,u,b,out,M,k,r,g,rfl,l,q1,q2,q3,q4,G,q6,q7,q8,q9,rfl⟩;have y:b≠x:=λf=>by rw[f] at G;omega
 have ag:r≠x:=λf=>by rw[f] at q6;omega
 cases d with
 | nil=>
  rw[C7] at l;subst l;simp only at hS;have aK:D.length=dn.length:=by rw[g];simp
  have z:(x=b)=False:=Amp (AsR y);have A:(b=x)=False:=Amp y;simp only[push_cast,seval,rq,g];intros;rename_i j2 j1;have az:b.1<n+1+j2+1+j1:=by omega
  generalize n+1+j2+1+j1=n2 at *;have aM:out.length<=2^26:=by omega
  clear g aK q1 q3 q4 q6 q7 q8 q9 ag;refine Ak k.toNat (Inv:=λm st=>∃n u b out j,m=(k-j).toNat/\0<=j/\j<=8/\out++FJ (k-j).toNat=S/\(out.length:Int)<=2^26+4*j/\x.1<b.1/\b.1<n/\st=⟨[(3,.ref x 0),(56,.i .i64 k),(57,.i .i64 j)],bS u x b out,n⟩) ⟨_,Aj.pre (AfJ _),_,u,b,out,0,by simp,by omega,by omega,by simpa using hS,by omega,G,az,rfl⟩ ?_;clear hS az aM G z A y;rintro m _ ⟨n,u,b,out,j,rfl,j1,j2,l,ho,G,q8,rfl⟩;have y:b≠x:=λf=>by rw[f] at G;omega
  cases hj:decide (j<k) with
  | true=>
   have aJ:=AuL hj;have E:=Pq O 8297;have aH:=EF 8297;obtain⟨q,hq⟩:∃q,(k-j).toNat=q+1:=⟨(k-j).toNat-1,by omega⟩
   rw[hq,FJ,<-Awz] at l;generalize Dq [8297]=L at *;have w1:IntKind.i64.wrap (j+1)=j+1:=by rw[wrap64 (by omega) (by omega)]
   simp only[push_cast,seval,rq,hj,w1]
   repeat' (first|(((first|apply Ac|apply Af|apply Ag)<;>intro _h)<;>simp only[push_cast,seval,rq,_h,hj,w1])|((first|refine Ab (by exact E) ?_|refine As (by simp only[Aaf,Aa8,Adu,Am]<;>omega) ?_);simp only[push_cast,seval,rq,hj,w1])|intro _)
   refine AY (MO O u x b out L y (by omega)) (λ_ _ h=>h) (λn2 v σo ak hQ=>?_);obtain⟨rfl,N,i1,i2,rfl⟩:=hQ;rw[Fu];simp only[push_cast,seval,rq,hj,w1]
   repeat' (first|(((first|apply Ac|apply Af|apply Ag)<;>intro _h)<;>simp only[push_cast,seval,rq,_h,hj,w1])|(refine As (by simp only[Aaf,Aa8,Adu,Am]<;>omega) ?_;simp only[push_cast,seval,rq,hj,w1])|intro _)
   exact⟨q,_,by omega,Aj.refl,_,true,N,out++L,j+1,by omega,by omega,by omega,by rw[show(k-(j+1)).toNat=q by omega];exact l,by simp;omega,by omega,by omega,rfl⟩
  | false=>have aJ:=AuU hj;rw[show(k-j).toNat=0 by omega,FJ,AmY] at l;subst l;have aN:=TR O u x b out y (by omega);simp only[push_cast,seval,rq,hj];intros;refine BJ aN (λ_ _ h=>h) ?_;simp only[push_cast,seval,rq,hj];intros;exact Ae (by simp[get])
 | cons c d=>
  have aW:=Ay g;have F:=KT O c;have E:=Pq O c;have aH:=EF c;rw[C7] at l;generalize Dq [c]=L at *;have z:(x=b)=False:=Amp (AsR y);have A:(b=x)=False:=Amp y;have I:(x=r)=False:=Amp (AsR ag);have J:(r=x)=False:=Amp ag;have K:(b=r)=False:=Amp (AsR q7);have f6:(r=b)=False:=Amp q7;simp only[Aa8] at q4;cases hI:Hf c with
  | true=>
   rw[hI] at l F;simp only[Agp] at l;have hL:(M.length+1<=AM)=True:=Amy (by unfold AM;omega);cases hK:decide (k<8) with
   | true=>
    rw[hK] at l;simp only[Agp] at l;have aX:=AuL hK;have w1:IntKind.i64.wrap (k+1)=k+1:=by rw[wrap64 (by omega) (by omega)]
    simp only[push_cast,seval,rq,g,Aa c (dn:=dn) (by omega),bS,z,A,I,J,K,f6,hL,w1,hK,AaT,AsT,Aub]
    repeat' (first|(((first|apply Ac|apply Af|apply Ag)<;>intro _h)<;>simp only[push_cast,seval,rq,_h,g,Aa c (dn:=dn) (by omega),bS,z,A,I,J,K,f6,hL,w1,hK,AaT,AsT,Aub])|((first|refine Ab (by exact F) ?_|refine Ab (by exact E) ?_|refine As (by simp only[Aaf,Aa8,Adu,Am]<;>omega) ?_);simp only[push_cast,seval,rq,g,Aa c (dn:=dn) (by omega),bS,z,A,I,J,K,f6,hL,w1,hK,AaT,AsT,Aub])|intro _)
    rename_i j7 Z Y X j3 j2 j1 j0;generalize a:((n+1+j7+1+Z+1+Y+1+X,25):Id)=o;have g1:o≠x:=λf=>by rw[<-f,<-a] at q6;rw[<-f,<-a] at G;simp only at G;omega
    have R:o≠b:=λf=>by rw[<-f,<-a] at q8;simp only at q8;omega
    have g3:x.1<o.1:=by rw[<-a];simp only;omega
    have g4:o.1<n+1+j7+1+Z+1+Y+1+X+1:=by rw[<-a];simp only;omega
    clear a;refine AY (σi:=bS u x b out) (MO O u x b out L y (by omega)) (We g1 R) (λn2 v σo ak hQ=>?_);obtain⟨rfl,N,i1,i2,rfl⟩:=hQ;have U:over (bS u x b out) (bS true x N (out++L)) [(o,Be.arr 4 1 (List.map V.b M++[V.b true])),(x,Be.tbox TB (.agg [wA u x,.arr b])),(b,Be.arr 5 1 (Az out))]=bS true x N (out++L)++[(o,Be.arr 4 1 ((M++[true]).map V.b))]:=by rw[<-DO];exact Sp g1 R
    rw[U];clear U;simp only[push_cast,seval,rq,g,Aa c (dn:=dn) (by omega)]
    repeat' (first|(((first|apply Ac|apply Af|apply Ag)<;>intro _h)<;>simp only[push_cast,seval,rq,_h,g,Aa c (dn:=dn) (by omega)])|(refine As (by simp only[Aaf,Aa8,Adu,Am]<;>omega) ?_;simp only[push_cast,seval,rq,g,Aa c (dn:=dn) (by omega)])|intro _)
    exact⟨_,_,Adx _,Aj.refl,dn++[c],d,_,true,N,out++L,M++[true],k+1,o,by simp,rfl,l,by simp;omega,by omega,by simp;omega,by simp;omega,by omega,g3,λf=>by rw[<-f] at i1;omega,by omega,by omega,rfl⟩
   | false=>
    rw[hK] at l;simp only[AfT,Agw] at l;simp only[push_cast,seval,rq,g,Aa c (dn:=dn) (by omega),bS,z,A,I,J,K,f6,hL,hK,AaT,AsT,Aub]
    repeat' (first|(((first|apply Ac|apply Af|apply Ag)<;>intro _h)<;>simp only[push_cast,seval,rq,_h,g,Aa c (dn:=dn) (by omega),bS,z,A,I,J,K,f6,hL,hK,AaT,AsT,Aub])|((first|refine Ab (by exact F) ?_|refine Ab (by exact E) ?_|refine As (by simp only[Aaf,Aa8,Adu,Am]<;>omega) ?_);simp only[push_cast,seval,rq,g,Aa c (dn:=dn) (by omega),bS,z,A,I,J,K,f6,hL,hK,AaT,AsT,Aub])|intro _)
    rename_i Z Y X j3 j2 j1 j0;generalize a:((n+1+Z+1+Y+1+X+1+j3,25):Id)=o;have g1:o≠x:=λf=>by rw[<-f,<-a] at q6;rw[<-f,<-a] at G;simp only at G;omega
    have R:o≠b:=λf=>by rw[<-f,<-a] at q8;simp only at q8;omega
    have g3:x.1<o.1:=by rw[<-a];simp only;omega
    have g4:o.1<n+1+Z+1+Y+1+X+1+j3+1:=by rw[<-a];simp only;omega
    clear a;rw[DO];exact⟨_,_,Adx _,Aj.drop (σ':=bS u x b out++[(o,Be.arr 4 1 ((M++[false]).map V.b))]) (Ps g1 R) (AfJ _),dn++[c],d,_,u,b,out,M++[false],k,o,by simp,rfl,l,by simp;omega,q2,by simp;omega,by omega,G,g3,R,by omega,by omega,rfl⟩
  | false=>
   rw[hI] at l F;simp only[AfT,Agw] at l;cases C:(c==8297) with
   | false=>
    rw[C] at l;simp only[AfT,Agw] at l;simp only[push_cast,seval,rq,g,Aa c (dn:=dn) (by omega),C]
    repeat' (first|(((first|apply Ac|apply Af|apply Ag)<;>intro _h)<;>simp only[push_cast,seval,rq,_h,g,Aa c (dn:=dn) (by omega),C])|((first|refine Ab (by exact F) ?_|refine Ab (by exact E) ?_|refine As (by simp only[Aaf,Aa8,Adu,Am]<;>omega) ?_);simp only[push_cast,seval,rq,g,Aa c (dn:=dn) (by omega),C])|intro _)
    refine AY (σi:=bS u x b out) (MO O u x b out L y (by omega)) PF (λn2 v σo ak hQ=>?_);obtain⟨rfl,N,i1,i2,rfl⟩:=hQ;rw[P4 (λp hp=>by simp at hp;subst hp;exact⟨ag,q7⟩)];simp only[push_cast,seval,rq,g,Aa c (dn:=dn) (by omega),C]
    repeat' (first|(((first|apply Ac|apply Af|apply Ag)<;>intro _h)<;>simp only[push_cast,seval,rq,_h,g,Aa c (dn:=dn) (by omega),C])|(refine As (by simp only[Aaf,Aa8,Adu,Am]<;>omega) ?_;simp only[push_cast,seval,rq,g,Aa c (dn:=dn) (by omega),C])|intro _)
    exact⟨_,_,Adx _,Aj.refl,dn++[c],d,_,true,N,out++L,M,k,r,by simp,rfl,l,by simp;omega,q2,by simp;omega,by simp;omega,by omega,q6,λf=>by rw[<-f] at i1;omega,by omega,by omega,rfl⟩
   | true=>
    rw[C] at l;simp only[Agp] at l;rcases A06 M with rfl|⟨ops,kp,rfl⟩
    .simp only[List.getLast?_nil] at l;simp only[push_cast,seval,rq,g,Aa c (dn:=dn) (by omega),bS,z,A,I,J,K,f6,C,AaT,AsT,Aub,Asz]
     repeat' (first|(((first|apply Ac|apply Af|apply Ag)<;>intro _h)<;>simp only[push_cast,seval,rq,_h,g,Aa c (dn:=dn) (by omega),bS,z,A,I,J,K,f6,C,AaT,AsT,Aub,Asz])|((first|refine Ab (by exact F) ?_|refine Ab (by exact E) ?_|refine As (by simp only[Aaf,Aa8,Adu,Am]<;>omega) ?_);simp only[push_cast,seval,rq,g,Aa c (dn:=dn) (by omega),bS,z,A,I,J,K,f6,C,AaT,AsT,Aub,Asz])|intro _)
     exact⟨_,_,Adx _,Aj.refl,dn++[c],d,_,u,b,out,[],k,r,by simp,rfl,l,by simp;omega,q2,by simp,by omega,G,q6,q7,by omega,by omega,rfl⟩
    .have aI:(ops++[kp]).getLast?=some kp:=by simp
     have aB:(ops++[kp]).dropLast=ops:=by simp
     rw[A07] at *;rw[aI,aB] at l;have e0:(((ops++[kp]).length:Int)==0)=false:=by rw[Ayq];simp;omega
     have w5:IntKind.i64.wrap (((ops++[kp]).length:Int)-1)=(ops.length:Int):=by simp only[Aaf,Aa8,Adu] at q3⊢;rw[wrap64 (by omega) (by omega)];omega
     have e1:(List.map V.b (ops++[kp]))[ops.length]?=some (.b kp):=by simp
     have e2:(ops.length<(ops++[kp]).length)=True:=Amy (by simp);have e3:List.take ops.length (List.map V.b (ops++[kp]))=List.map V.b ops:=by simp
     have e4:(ops.length<=(ops++[kp]).length)=True:=Amy (by simp);have w6:IntKind.i64.wrap (k-1)=k-1:=by rw[wrap64 (by omega) (by omega)]
     simp only[Aaf,Aa8,Adu] at q3;cases kp
     .simp only at l;simp only[push_cast,seval,rq,g,Aa c (dn:=dn) (by omega),bS,z,A,I,J,K,f6,C,e0,e1,e2,e3,e4,w5,w6,AaT,AsT,Aub]
      repeat' (first|(((first|apply Ac|apply Af|apply Ag)<;>intro _h)<;>simp only[push_cast,seval,rq,_h,g,Aa c (dn:=dn) (by omega),bS,z,A,I,J,K,f6,C,e0,e1,e2,e3,e4,w5,w6,AaT,AsT,Aub])|((first|refine Ab (by exact F) ?_|refine Ab (by exact E) ?_|refine As (by simp only[Aaf,Aa8,Adu,Am]<;>omega) ?_);simp only[push_cast,seval,rq,g,Aa c (dn:=dn) (by omega),bS,z,A,I,J,K,f6,C,e0,e1,e2,e3,e4,w5,w6,AaT,AsT,Aub])|intro _)
      rename_i j8 j7 Z Y X j3 j2 j1 j0;generalize a:((n+1+j8+1+j7+1+Z+1+Y+1+X+1+j3,46):Id)=o;have g1:o≠x:=λf=>by rw[<-f,<-a] at G;simp only at G;omega
      have R:o≠b:=λf=>by rw[<-f,<-a] at q8;simp only at q8;omega
      have g3:x.1<o.1:=by rw[<-a];simp only;omega
      have g4:o.1<n+1+j8+1+j7+1+Z+1+Y+1+X+1+j3+1:=by rw[<-a];simp only;omega
      clear a;exact⟨_,_,Adx _,Aj.drop (σ':=bS u x b out++[(o,Be.arr 4 1 (ops.map V.b))]) (Ps g1 R) (AfJ _),dn++[c],d,_,u,b,out,ops,k,o,by simp,rfl,l,by simp;omega,q2,by simp;omega,by omega,G,g3,R,by omega,by omega,rfl⟩
     .simp only at l;simp only[push_cast,seval,rq,g,Aa c (dn:=dn) (by omega),bS,z,A,I,J,K,f6,C,e0,e1,e2,e3,e4,w5,w6,AaT,AsT,Aub]
      repeat' (first|(((first|apply Ac|apply Af|apply Ag)<;>intro _h)<;>simp only[push_cast,seval,rq,_h,g,Aa c (dn:=dn) (by omega),bS,z,A,I,J,K,f6,C,e0,e1,e2,e3,e4,w5,w6,AaT,AsT,Aub])|((first|refine Ab (by exact F) ?_|refine Ab (by exact E) ?_|refine As (by simp only[Aaf,Aa8,Adu,Am]<;>omega) ?_);simp only[push_cast,seval,rq,g,Aa c (dn:=dn) (by omega),bS,z,A,I,J,K,f6,C,e0,e1,e2,e3,e4,w5,w6,AaT,AsT,Aub])|intro _)
      rename_i j9 j8 j7 Z Y X j3 j2 j1 j0;generalize a:((n+1+j9+1+j8+1+j7+1+Z+1+Y+1+X,46):Id)=o;have g1:o≠x:=λf=>by rw[<-f,<-a] at G;simp only at G;omega
      have R:o≠b:=λf=>by rw[<-f,<-a] at q8;simp only at q8;omega
      have g3:x.1<o.1:=by rw[<-a];simp only;omega
      have g4:o.1<n+1+j9+1+j8+1+j7+1+Z+1+Y+1+X+1:=by rw[<-a];simp only;omega
      clear a;refine AY (σi:=bS u x b out) (MO O u x b out L y (by omega)) (We g1 R) (λn2 v σo ak hQ=>?_);obtain⟨rfl,N,i1,i2,rfl⟩:=hQ;have U:over (bS u x b out) (bS true x N (out++L)) [(o,Be.arr 4 1 (List.map V.b ops)),(x,Be.tbox TB (.agg [wA u x,.arr b])),(b,Be.arr 5 1 (Az out))]=bS true x N (out++L)++[(o,Be.arr 4 1 (ops.map V.b))]:=Sp g1 R;rw[U];clear U;simp only[push_cast,seval,rq,g,Aa c (dn:=dn) (by omega)]
      repeat' (first|(((first|apply Ac|apply Af|apply Ag)<;>intro _h)<;>simp only[push_cast,seval,rq,_h,g,Aa c (dn:=dn) (by omega)])|(refine As (by simp only[Aaf,Aa8,Adu,Am]<;>omega) ?_;simp only[push_cast,seval,rq,g,Aa c (dn:=dn) (by omega)])|intro _)
      exact⟨_,_,Adx _,Aj.refl,dn++[c],d,_,true,N,out++L,ops,k-1,o,by simp,rfl,l,by simp;omega,by omega,by simp;omega,by simp;omega,by omega,g3,λf=>by rw[<-f] at i1;omega,by omega,by omega,rfl⟩
def Hh(s:Ad):Ad:=Dq [8296]++RL s++Dq [8297]
theorem Z6:∀(l) (a) (k) (out),k<=8->(C7 l a k out).1.length<=out.length+4*l.length/\(C7 l a k out).2<=8:=by
 intro l
 induction l with
 | nil=>intro a k out b;rw[C7];simp;exact b
 | cons c l e=>
  intro a k out b;have d:=EF c;rw[C7];split
  .grind
  .split
   .split
    .grind
    .grind
    grind
   grind
theorem YY n:(FJ n).length<=4*n:=by
 induction n with
 | zero=>simp[FJ]
 | succ n a=>have:=EF 8297;rw[FJ,Aaf];omega
theorem WO s:(RL s).length<=4*s.length+32:=by have b:=Z6 (EQ s) [] 0 [] (by omega);have c:=YY (C7 (EQ s) [] 0 []).2.toNat;have a:=Kk s s.length 0;unfold RL;rw[Aaf];have d:(EQ s).length<=s.length:=a;grind
theorem vH s:(Hh s).length<=4*s.length+40:=by have a:=WO s;have b:=EF 8296;have c:=EF 8297;unfold Hh;grind
theorem AiX(s:Ad)(g:s.length<=2^24):An π O 96 [.s s] [] (.s (Hh s)) []:=by
 have f:=YS O s g;have d:=Pq O 8296;have e:=Pq O 8297;have h:=WO s;have i:=EF 8296;have j:=EF 8297;unfold Hh;generalize Dq [8296]=b at *;generalize Dq [8297]=c at *;generalize RL s=B at *;refine Ah (vs:=[.s (b++B++c)]) Ars (by simp) (by simp) λn0 a=>?_;clear a;simp only[push_cast,seval,rq]
 repeat' (first|(((first|apply Ac|apply Af|apply Ag)<;>intro _h)<;>simp only[push_cast,seval,rq,_h])|((first|refine Ab (by exact f) ?_|refine Ab (by exact d) ?_|refine Ab (by exact e) ?_|refine As (by simp only[Aaf,Aa8,Adu,Am]<;>omega) ?_);simp only[push_cast,seval,rq])|intro _)
 exact Ae (by simp[get])
def Ks(x:QH):V:=.agg [.s x.L.tag,.s x.L.parent,.s x.L.dir,.sl (x.L.card.map AH.enc),.sl (x.L.ord.map AH.enc),.s x.L.dec,.s x.L.grp,.s x.L.minus,.s x.L.perc,.i .i64 x.L.prim,.i .i64 x.L.sec,.sl (x.L.lists.map Cp.enc),.sl (x.L.units.map De.enc),.sl (x.L.dates.map CJ.enc),.sl (x.L.months.map V.s),.sl (x.L.days.map V.s),.i .i64 x.y,.i .i64 x.m,.i .i64 x.d,.i .i64 x.wd]
structure Oi (x:QH) (c:Nat):Prop where
 y:x.y<2^40
 m1:1<=x.m
 m2:x.m<=12
 d:x.d<2^40
 wd:x.wd<7
 c24:24<=c
 ml:∀s∈x.L.months,s.length<=c
 dl:∀s∈x.L.days,s.length<=c
theorem Nt(b:Ca O) x c (a:Oi x c) f:(ES x f).1.length<=c:=by
 have j:=a.c24;have ⟨_,l1⟩:=F0 O b x.y (by have:=a.y;omega);have ⟨_,l2⟩:=F0 O b x.m (by have:=a.m2;omega);have ⟨_,l3⟩:=F0 O b x.d (by have:=a.d;omega);have ⟨_,l4⟩:=Gf O b x.m (by have:=a.m2;omega);have ⟨_,l5⟩:=Gf O b x.d (by have:=a.d;omega);have e:∀(l:List Ad) (i:Nat),(∀s∈l,s.length<=c)->(l.getD i []).length<=c:=by grind
 have g:=e x.L.months (x.m-1) a.ml;have h:=e x.L.days x.wd a.dl;unfold ES;grind
theorem JQ x:∀(n m) (p out),p.length<n->p.length<m->BK x n p out=BK x m p out:=by
 intro n
 induction n with
 | zero=>intro m p out h;omega
 | succ n d=>
  intro m p out b c;cases m with
  | zero=>omega
  | succ m=>
   rw[BK,BK];split
   .rfl
   .rename_i hp;have a:1<=p.length:=by grind
    grind
theorem ZV(p:Ad)(hp:p.length<=2^20) A B τ n0 Q 
  (l:∀n,n0<=n->Q (.exit 2) ⟨[(1,.s p),(2,A),(6,B),(7,.i .i64 ((p.takeWhile Dj).length:Nat)),(21,.b false)],τ,n⟩) :
  Iq π O 48 Q5 Q ⟨[(1,.s p),(2,A),(6,B),(7,.i .i64 0)],τ,n0⟩:=by
 refine Ak p.length (Inv:=λm st=>∃dn a n,p=dn++a/\m=a.length/\(∀c∈dn,Dj c=true)/\n0<=n/\st=⟨[(1,.s p),(2,A),(6,B),(7,.i .i64 dn.length)],τ,n⟩) ⟨_,Aj.refl,[],p,_,rfl,rfl,by simp,AfJ _,rfl⟩ ?_;rintro m _ ⟨dn,a,n,e,rfl,o,v,rfl⟩;cases a with
 | nil=>
  have g:p.takeWhile Dj=dn:=by have:=(Sq (p:=Dj) (w:=dn) (r:=[]) o (by simp)).1;rw[e];simpa using this
  rw[g] at l;have q:decide ((dn.length:Int)<(p.length:Int))=false:=by rw[e];simp
  simp only[push_cast,seval,rq,q];intro k;exact l _ (by omega)
 | cons c a=>
  have t:=Ay e;have f:=iZ O c;cases j:Dj c with
  | true=>
   rw[j] at f;simp only[push_cast,seval,rq,e,Aa c (dn:=dn) (by omega)]
   repeat' (first|(((first|apply Ac|apply Af|apply Ag)<;>intro _h)<;>simp only[push_cast,seval,rq,_h,e,Aa c (dn:=dn) (by omega)])|((first|refine Ab (by exact f) ?_|refine As (by simp only[Aaf,Aa8,Adu,Am]<;>omega) ?_);simp only[push_cast,seval,rq,e,Aa c (dn:=dn) (by omega)])|intro _)
   exact⟨_,_,Adx _,Aj.refl,dn++[c],a,_,by simp,rfl,λd u=>by
    rcases Am5.1 u with h|h
    .exact o d h
    .simp at h;rw[h];exact j,by omega,rfl⟩
  | false=>
   rw[j] at f;have g:p.takeWhile Dj=dn:=by have:=(Sq (p:=Dj) (w:=dn) (r:=c::a) o (by simp[j])).1;rw[e];exact this
   rw[g,e] at l;simp only[push_cast,seval,rq,e,Aa c (dn:=dn) (by omega)]
   repeat' (first|(((first|apply Ac|apply Af|apply Ag)<;>intro _h)<;>simp only[push_cast,seval,rq,_h,e,Aa c (dn:=dn) (by omega)])|((first|refine Ab (by exact f) ?_|refine As (by simp only[Aaf,Aa8,Adu,Am]<;>omega) ?_);simp only[push_cast,seval,rq,e,Aa c (dn:=dn) (by omega)])|intro _)
   exact l _ (by omega)
theorem zU(hT:Ca O)(x:QH)(c:Nat)(F:Oi x c)(p:Ad)(hp:p.length<=2^20)(hb:(p.length+1)*(c+1)<=2^29):An π O 153 [Ks x,.s p] [] (.tup [.s (H8 x p).1,.i .i64 (H8 x p).2]) []:=by
 generalize hS:H8 x p=S;unfold H8 at hS;have Y:=Nt O hT x c F;unfold Ks;refine Ah (vs:=[.s S.1,.i .i64 S.2]) AiE (by simp) (by simp) λn0 ac=>?_;clear ac;simp only[push_cast,seval,rq]
 repeat' (first|(((first|apply Ac|apply Af|apply Ag)<;>intro _h)<;>simp only[push_cast,seval,rq,_h])|(refine As (by simp only[Aaf,Aa8,Adu,Am]<;>omega) ?_;simp only[push_cast,seval,rq])|intro _)
 rename_i k1 k2;generalize J:((n0+1+k1,6):Id)=bx;have t:bx.1<n0+1+k1+1+k2:=by rw[<-J];simp only;omega
 have k:n0<bx.1:=by rw[<-J];simp only;omega
 generalize n0+1+k1+1+k2=n1 at *;have aq:Oi x c:=F;obtain⟨DV,an⟩:∃DV,DV=Ks x:=⟨_,rfl⟩
 refine Ak p.length (Inv:=λm st=>∃n u b q out,m=q.length/\BK x (q.length+1) q out=S/\q.length<=p.length/\out.length+q.length*(c+1)<=2^29/\bx.1<b.1/\b.1<n/\st=⟨[(1,.s q),(2,.ref (n0,2) 0),(6,.ref bx 0)],bS u bx b out++[((n0,2),.box (Ks x))],n⟩) ⟨_,Aj.bld t,_,false,(n1,0),p,[],rfl,hS,AfJ _,by simp;rw[A0y] at hb;omega,t,Adx _,rfl⟩ ?_;clear hS t;rintro m _ ⟨n,u,b,q,out,rfl,e,hq,ho,r,ap,rfl⟩;have z:b≠bx:=λl=>by rw[l] at r;omega
 have f1:(bx=b)=False:=Amp (AsR z);have f2:(b=bx)=False:=Amp z;have f3:∀j,(((n0,j):Id)=bx)=False:=λj=>Amp λl=>by rw[<-l] at k;simp only at k;omega
 have f4:∀j,(bx=((n0,j):Id))=False:=λj=>Amp λl=>by rw[l] at k;simp only at k;omega
 have f5:∀j,(((n0,j):Id)=b)=False:=λj=>Amp λl=>by rw[<-l] at r;simp only at r;omega
 have f6:∀j,(b=((n0,j):Id))=False:=λj=>Amp λl=>by rw[l] at r;simp only at r;omega
 have C:∀E:Be,∀p∈[(((n0,2):Id),E)],p.1≠bx/\p.1≠b:=λE p hp=>by simp at hp;subst hp;exact⟨λl=>Axj (f3 2) l,λl=>Axj (f5 2) l⟩
 cases q with
 | nil=>rw[BK] at e;simp only[A03,Agp] at e;subst e;have af:=TR O u bx b out z (by simp at ho;omega);simp only[push_cast,seval,rq];intros;refine BJ af PF ?_;simp only[push_cast,seval,rq];intros;refine Ai ?_;simp[push_cast,get]
 | cons G q=>
  obtain⟨R,D⟩:∃R,R=G::q:=⟨_,rfl⟩;have W:R.length=q.length+1:=by rw[D];simp
  have V:R[0]?=some G:=by rw[D];rfl
  have B:R.drop 1=q:=by rw[D];rfl
  have X:R.take 1=[G]:=by rw[D];rfl
  have I:(R==([]:Ad))=false:=by rw[D];rfl
  rw[<-D] at e hq ho⊢;clear D;rw[BK,I] at e;simp only[AfT,Agw] at e;simp only[push_cast,seval,rq,I];intros;refine ZV O R (by omega) _ _ _ _ _ (λn3 au=>?_);have aa:(R.takeWhile Dj).length<=R.length:=(List.takeWhile_sublist _).length_le;have L:=nI O hT x (R.take (R.takeWhile Dj).length) F.y ⟨F.m1,F.m2⟩ F.d F.wd;have ar:=Y (R.take (R.takeWhile Dj).length);generalize(R.takeWhile Dj).length=K at *;have a:((K:Int)==0)=(K==0):=by rw[Axn];simp
  cases o:(K==0) with
  | true=>
   rw[o] at e;simp only[Agp] at e;simp only[push_cast,seval,rq,a,o,V];intros;have ae:out.length+1<=2^29:=by have:1*(c+1)<=R.length*(c+1):=Ay5 _ (by omega);omega
   refine AY (σi:=bS u bx b out) (AjM O u bx b out G z (by omega)) PF (λn2 v σo ab U=>?_);obtain⟨rfl,N,i1,i2,rfl⟩:=U;rw[P4 (C _)];have g:(1<=R.length)=True:=Amy (by omega);simp only[push_cast,seval,rq,g,B,AfJ,An6]
   repeat' (first|(((first|apply Ac|apply Af|apply Ag)<;>intro _h)<;>simp only[push_cast,seval,rq,_h,g,B,AfJ,An6])|(refine As (by simp only[Aaf,Aa8,Adu,Am]<;>omega) ?_;simp only[push_cast,seval,rq,g,B,AfJ,An6])|intro _)
   refine⟨_,_,show q.length<R.length by omega,Aj.refl,_,true,N,q,out++[G],rfl,?_,by omega,?_,by omega,by omega,rfl⟩
   .rw[JQ x _ R.length q _ (by omega) (by omega),<-B,<-X];exact e
   .rw[W,A0y] at ho;rw[Aaf,Aa8,Adu];omega
  | false=>
   rw[o] at e;simp only[AfT,Agw] at e;have Z:1<=K:=by
    rcases AzZ K with h|h
    .rw[h] at o;cases o
    .exact h
   have g:(K<=R.length)=True:=Amy aa;generalize hF:ES x (R.take K)=M at *;have f:∀E:Be,lk (bS u bx b out++[((n0,2),E)]) (n0,2)=some E:=λE=>by simp only[bS,AsT,Aub,lk,f1,f2,f3,f4,f5,f6,AfT,Agp]
   cases A:(M.2==0) with
   | true=>
    rw[A] at e;simp only[Agp] at e;have ae:out.length+M.1.length<=2^29:=by have:1*(c+1)<=R.length*(c+1):=Ay5 _ (by omega);omega
    simp only[push_cast,seval,rq,a,o,f,Ks,g,A,bne,Aul,AfJ,An6];intros;refine Ab (by exact L) ?_;simp only[push_cast,seval,rq,a,o,f,Ks,g,A,bne,Aul,AfJ,An6]
    repeat' (first|(((first|apply Ac|apply Af|apply Ag)<;>intro _h)<;>simp only[push_cast,seval,rq,_h,a,o,f,Ks,g,A,bne,Aul,AfJ,An6])|(refine As (by simp only[Aaf,Aa8,Adu,Am]<;>omega) ?_;simp only[push_cast,seval,rq,a,o,f,Ks,g,A,bne,Aul,AfJ,An6])|intro _)
    refine AY (σi:=bS u bx b out) (MO O u bx b out M.1 z (by omega)) PF (λn2 v σo ab U=>?_);obtain⟨rfl,N,i1,i2,rfl⟩:=U;rw[P4 (C _)];simp only[push_cast,seval,rq,a,g,Aul,AfJ,An6]
    repeat' (first|(((first|apply Ac|apply Af|apply Ag)<;>intro _h)<;>simp only[push_cast,seval,rq,_h,a,g,Aul,AfJ,An6])|(refine As (by simp only[Aaf,Aa8,Adu,Am]<;>omega) ?_;simp only[push_cast,seval,rq,a,g,Aul,AfJ,An6])|intro _)
    refine⟨_,_,show(R.drop K).length<R.length by simp;omega,Aj.refl,_,true,N,R.drop K,out++M.1,rfl,?_,by simp;omega,?_,by omega,?_,rfl⟩
    .rw[JQ x _ R.length (R.drop K) _ (by omega) (by simp;omega)];exact e
    .have h1:R.length*(c+1)=(R.drop K).length*(c+1)+K*(c+1):=by rw[<-A0y];congr 1;simp;omega
     have h2:1*(c+1)<=K*(c+1):=Ay5 _ Z;rw[Aaf];omega
    .omega
   | false=>
    rw[A] at e;simp only[AfT,Agw] at e;subst e;simp only[push_cast,seval,rq,a,o,f,Ks,g,A,bne,Aul,AfJ,An6];intros;refine Ab (by exact L) ?_;simp only[push_cast,seval,rq,a,o,f,Ks,g,A,bne,Aul,AfJ,An6]
    repeat' (first|(((first|apply Ac|apply Af|apply Ag)<;>intro _h)<;>simp only[push_cast,seval,rq,_h,a,o,f,Ks,g,A,bne,Aul,AfJ,An6])|(refine As (by simp only[Aaf,Aa8,Adu,Am]<;>omega) ?_;simp only[push_cast,seval,rq,a,o,f,Ks,g,A,bne,Aul,AfJ,An6])|intro _)
    refine Ai ?_;simp[push_cast,get]
structure oZ (L:Ce) (c:Nat):Prop where
 c24:24<=c
 ml:∀s∈L.months,s.length<=c
 dl:∀s∈L.days,s.length<=c
 n:L.dates.length<=2^20
 sk:∀p∈L.dates,p.skel.length<=2^20
 pt:∀p∈L.dates,p.pat.length<=2^20/\(p.pat.length+1)*(c+1)<=2^29
theorem YO A:∀(l) (i b a),D9 A l i b a=b\/i<=D9 A l i b a/\D9 A l i b a<i+l.length:=by
 intro l
 induction l with
 | nil=>intro i b a;left;rw[D9]
 | cons p l c=>intro i b a;rw[D9];grind
theorem AaM{l a}(h:(EE l a).2=0):∃(i:Nat) (p:CJ),(EE l a).1=i/\l[i]?=some p:=by
 unfold EE at h⊢;cases b:Cx a with
 | none=>rw[b] at h;cases h
 | some w=>
  rw[b] at h;simp only at h⊢;have c:=YO (Fm w) l 0 (-1) 0;generalize D9 (Fm w) l 0 (-1) 0=B at *;by_cases hB:B<0
  .grind
  .rw[Amt hB];refine⟨B.toNat,l[B.toNat]'(by omega),by simp only;omega,Aqa (by omega)⟩
theorem bV l a:(EE l a).2=0\/(EE l a).2=3\/(EE l a).2=8:=by unfold EE;grind
theorem YD(G:Ca O)(L:Ce)(c:Nat)(l:oZ L c)(e:Ad)(d:Int)(I:e.length<=2^24):An π O 111 [L.enc,.s e,.i .i64 d] [] (.tup [.s (DP L e d).1,.i .i64 (DP L e d).2]) []:=by
 have f:=Ame O L.dates e I (by have:=l.n;omega) l.sk;have u:=bV L.dates e;have v:=@AaM L.dates e;generalize hS:DP L e d=S;unfold DP at hS;rw[Ce.enc_eq];cases o:Et d with
 | false=>
  have m:=SL O d o;rw[o] at hS;refine Ah (vs:=[.s S.1,.i .i64 S.2]) M4 (by simp) (by simp) λn0 a=>?_;clear a;simp only[push_cast,seval,rq]
  all_goals ((try simp only[bq,Agp,AfT,rb,reduceCtorEq] at hS);subst hS)
  all_goals (try simp only[push_cast,seval,rq])
  all_goals (repeat' (first|((first|refine Ab (by exact m) ?_|refine As (by simp only[Aaf,Aa8,Adu,Am]<;>omega) ?_);(try simp only[push_cast,seval,rq]))|intro _))
  all_goals (first|(refine Ae ?_;simp[get];done)|(refine Ai ?_;simp[push_cast,get];done)|skip)
 | true=>
  have m:=V9 O d o;have t:=ZZ O d o;obtain⟨q1,q2,q3,J,U,V⟩:=Qa o;have q:Oi (Je L d) c:=by
   have R:(d+25567).tmod 7<7:=Int.tmod_lt_of_pos _ (by omega);refine⟨?_,q3,J,?_,?_,l.c24,l.ml,l.dl⟩
   .show(HC d).1.toNat<_;omega
   .show((FP d).2+1).toNat<_;omega
   .show((d+25567).tmod 7).toNat<_;omega
  have h:=fun(p:Ad) (C:p.length<=2^20) (D:(p.length+1)*(c+1)<=2^29)=>zU O G (Je L d) c q p C D;have A:(((Je L d).y:Nat):Int)=(HC d).1:=by show((HC d).1.toNat:Int)=_;omega
  have B:(((Je L d).d:Nat):Int)=(FP d).2+1:=by show(((FP d).2+1).toNat:Int)=_;omega
  unfold Ks at h;rw[A,B] at h;rw[o] at hS;simp only[Agp] at hS;generalize E:(EE L.dates e).1=M at *;generalize F:(EE L.dates e).2=N at *;rcases u with rfl|rfl|rfl
  .obtain⟨i,p,rfl,hp⟩:=v rfl;have k:=l.pt p (Au8 hp);have r:=h p.pat k.1 k.2;have g:=Apj O p.pat k.1;have j:(L.dates.map CJ.enc)[i]?=some p.enc:=by rw[AtX,hp];rfl
   have b:(i<L.dates.length)=True:=Amy (Ath.1 hp).1;have K:((0:Int)==8)=false:=rfl;have z2:((0:Int)==0)=true:=rfl;simp only[K,z2,Agp,AfT,Agw,A0P,hp] at hS;generalize H8 (Je L d) p.pat=x at *;rw[CJ.enc_eq] at j;cases z:b9 p.pat with
   | true=>
    rw[z] at g hS;simp only[Agp] at hS;subst hS;refine Ah (vs:=[.s x.1,.i .i64 x.2]) M4 (by simp) (by simp) λn0 a=>?_;clear a;simp only[push_cast,seval,rq,j,b]
    repeat' (first|(((first|apply Ac|apply Af|apply Ag)<;>intro _h)<;>simp only[push_cast,seval,rq,_h,j,b])|((first|refine Ab (by exact m) ?_|refine Ab (by exact f) ?_|refine Ab (by exact g) ?_|refine Ab (by exact t) ?_|refine Ab (by exact r) ?_|refine As (by simp only[Aaf,Aa8,Adu,Am]<;>omega) ?_);simp only[push_cast,seval,rq,j,b])|intro _)
    refine Ai ?_;simp[push_cast,get]
   | false=>
    rw[z] at g hS;simp only[AfT,Agw] at hS;subst hS;refine Ah (vs:=[.s [],.i .i64 4]) M4 (by simp) (by simp) λn0 a=>?_;clear a;simp only[push_cast,seval,rq,j,b]
    repeat' (first|(((first|apply Ac|apply Af|apply Ag)<;>intro _h)<;>simp only[push_cast,seval,rq,_h,j,b])|((first|refine Ab (by exact m) ?_|refine Ab (by exact f) ?_|refine Ab (by exact g) ?_|refine Ab (by exact t) ?_|refine As (by simp only[Aaf,Aa8,Adu,Am]<;>omega) ?_);simp only[push_cast,seval,rq,j,b])|intro _)
    refine Ai ?_;simp[push_cast,get]
  .simp only[show((3:Int)==8)=false from rfl,show((3:Int)==0)=false from rfl,AfT,Agw] at hS;subst hS;refine Ah (vs:=[.s [],.i .i64 3]) M4 (by simp) (by simp) λn0 a=>?_;clear a;simp only[push_cast,seval,rq]
   repeat' (first|(((first|apply Ac|apply Af|apply Ag)<;>intro _h)<;>simp only[push_cast,seval,rq,_h])|((first|refine Ab (by exact m) ?_|refine Ab (by exact f) ?_|refine As (by simp only[Aaf,Aa8,Adu,Am]<;>omega) ?_);simp only[push_cast,seval,rq])|intro _)
   refine Ai ?_;simp[push_cast,get]
  .simp only[show((8:Int)==8)=true from rfl,Agp] at hS;subst hS;refine Ah (vs:=[.s [],.i .i64 18]) M4 (by simp) (by simp) λn0 a=>?_;clear a;simp only[push_cast,seval,rq]
   repeat' (first|(((first|apply Ac|apply Af|apply Ag)<;>intro _h)<;>simp only[push_cast,seval,rq,_h])|((first|refine Ab (by exact m) ?_|refine Ab (by exact f) ?_|refine As (by simp only[Aaf,Aa8,Adu,Am]<;>omega) ?_);simp only[push_cast,seval,rq])|intro _)
   refine Ai ?_;simp[push_cast,get]
end Go.Ir
namespace Go.Proofs
open Go.RowKit Go.Shelf
attribute [local go_sem] Oper.semAt_some
def Tryz.en(zs:List ByteArray)(a j:Nat):Int×ByteArray:=((a:Int)-1-(j:Int),zs[a-1-j]?.getD default)
structure ND (n₀ Bs:Nat) (W W':World):Prop where
 below:Below n₀ W W'
 box:∀o,W.heap[Bs]?=some o->o.isCells=true->W'.heap[Bs]?=some o
theorem ND.refl(a b:Nat)(W:World):ND a b W W:=⟨Below.refl _ _,λ_ h _=>h⟩
theorem ND.trans{a b:Nat}{A B C:World}(h:ND a b A B)(k:ND a b B C):ND a b A C:=⟨h.below.trans k.below,λo d c=>k.box o (h.box o d c) c⟩
theorem ND.put{a c:Nat}{w:World}(j:a<=w.heap.size)(W:World)(l:Nat)(o g:Obj)(i:w.heap.size<=l)(h:W.heap[l]?=some o)(d:o.isCells=false)(k:o.isWalk=false):ND a c W (W.putObj l g):=
 ⟨belowK_b j W l o g i h d k,λu b f=>by
  by_cases e:c=l
  .subst e;rw[h] at b;cases b;rw[d] at f;cases f
  .exact(World.putObj_heap_other e).trans b⟩
theorem ND.set{a b:Nat}(W:World)(p:Addr)(v:Value)(c:a<=p.block)(hB:b≠p.block):ND a b W (W.setCell p v):=
 ⟨(Below.refl a W).setCell c _,λ_ d _=>(Below.heap_setCell W p v b hB).trans d⟩
theorem ND.of{a b:Nat}{W c:World}(h:Below W.heap.size W c)(e:a<=W.heap.size):ND a b W c:=
 ⟨h.mono e,λ_ d _=>(h.block b (Array.getElem?_eq_some_iff.1 d).1).trans d⟩
theorem Tryz.back1_in(F:Fence)(n:Nat)(I:F.fn 224)(A:F.round=none)(hn:1<=n)(l s c b d a u:Nat)(zs:List ByteArray)(D:a<=2^30)(N:b<c)(J B:List Nat->World->Prop)
  (M:∀pre x W,J pre W->pre.length<a->YieldAt F (n-1) Tryz.prog l #[.int .i64 (Tryz.en zs a x).1,.string (Tryz.en zs a x).2] W λe g=>
   (e=.returned (.bool true)/\J (pre++[x]) g/\ND c s W g)\/(e=.returned (.bool false)/\B (pre++[x]) g))
  (W:World)(h:Boxed W s 28 (.slice (some ⟨b,d,none⟩) a u))(S:∀j,j<a->W.cell? ⟨b,d+j,none⟩=some (.string (zs[j]?.getD default)))(G:J [] W) :
  CallsIn F n Tryz.prog 224 #[.func (.yield l) #[] #[],.pointer (some ⟨s,0,none⟩)] W λe g=>(∃v,e=.returned v)/\
   ((∃ys,ys=List.range a/\J ys g)\/(∃pre,(∃k,k<=a/\pre=List.range k)/\B pre g)):=by
 refine callsIn_of_wp Tryz.func224 rfl I ?_ A;simp only[Tryz.ntmps224,List.size_toArray,List.length_cons,List.length_nil,Nat.reduceAdd,Nat.reduceSub,Array.replicate_succ,Array.replicate_zero,List.push_toArray,List.append_toArray,List.nil_append,List.cons_append];have K:=h.cell
 gi_wp2
 gi_loopw [3] (λi wr=>∃k r:Nat,k+r=a/\i=.int .i64 ((r:Int)-1)/\J (List.range k) wr/\ND c s W wr)
  (λi _=>(intOf i+1).toNat)
 case atStart=>exact⟨0,a,by omega,rfl,G,ND.refl _ _ _⟩
 case round=>
  obtain⟨k,r,hk,rfl,o,f⟩:=hrel;have R:=Boxed.cell (f.box _ h rfl);cases r with
  | zero=>
   obtain rfl:k=a:=by omega
   gi_wp2
   go_end0
   exact⟨⟨_,rfl⟩,.inl ⟨_,rfl,o⟩⟩
  | succ m=>
   have X:((m+1:Nat):Int)-1=(m:Int):=by omega
   rw[X];have U:wr.cell? ⟨b,d+m,none⟩=some (.string (zs[m]?.getD default)):=(f.below.cell (p:=⟨b,d+m,none⟩) N).trans (S m (by omega));obtain⟨Z,tmps,t,C,E,L⟩:=M _ k wr o (by rw[List.length_range];omega);have V:Tryz.en zs a k=((m:Int),zs[m]?.getD default):=by rw[Tryz.en,show(a:Int)-1-(k:Int)=(m:Int) by omega,show a-1-k=m by omega]
   rw[V] at E;dsimp only at E
   gi_wp2
   refine L.mono ?_;rintro e Y (⟨rfl,y,z⟩|⟨rfl,q⟩)
   .gi_wp2
    go_roundw
    case rel=>exact⟨k+1,m,by omega,rfl,by rw[List.range_succ];exact y,f.trans z⟩
    case measure=>simp[intOf]
   .gi_wp2
    refine bodyPost_ret (results_none rfl _ _ _) rfl ?_;exact⟨⟨_,rfl⟩,.inr ⟨_,⟨k+1,by omega,by rw[List.range_succ]⟩,q⟩⟩
theorem Tryz.back_in(F:Fence)(n:Nat)(f:F.fn 194)(d:F.round=none)(a:Option Addr)(c b:Nat)(w:World) :
  CallsIn F n Tryz.prog 194 #[.slice a c b] w λe w'=>e=.returned (.func (.func 224) #[] #[.pointer (some ⟨w.heap.size,0,none⟩)])/\w'=w.alloc (.cells #[.slice a c b] 28):=by
 refine callsIn_of_wp Tryz.func194 rfl f ?_ d;simp only[Tryz.ntmps194,List.size_toArray,List.length_cons,List.length_nil,Nat.reduceAdd,Nat.reduceSub,Array.replicate_succ,Array.replicate_zero,List.push_toArray,List.append_toArray,List.nil_append,List.cons_append]
 gi_wp2
 go_ret
 exact⟨rfl,rfl⟩
theorem Tryz.back_stops(F:Fence)(n:Nat)(t:F.fn 224)(m:F.round=none)(y:1<=n)(f c b d a g:Nat)(zs:List ByteArray)(i:a<=2^30)(w:World)(h:Boxed w f 28 (.slice (some ⟨b,d,none⟩) a g))(q:b<c)(e:c<=w.heap.size)
  (hI:∀j,j<a->w.cell? ⟨b,d+j,none⟩=some (.string (zs[j]?.getD default))) :
  SeqStopsK F n Tryz.prog 224 #[.pointer (some ⟨f,0,none⟩)] (λx:Nat=>#[Value.int .i64 (Tryz.en zs a x).1,Value.string (Tryz.en zs a x).2]) (ND c f) (λys=>ys=List.range a) (λpre=>∃k,k<=a/\pre=List.range k) a w:=λl J r W o _ _ u s=>
 Tryz.back1_in F n t m y l f c b d a g zs i q J r u W ((o.block f h.lt).trans h) (λj v=>(o.cell (p:=⟨b,d+j,none⟩) (Nat.lt_of_lt_of_le q e)).trans (hI j v)) s
abbrev AmX(Q:Exit->Act->World->Prop)(e:Exit)(a:Act)(w:World):Prop:=match e with
 | .panic _=>False
 | e=>Q e a w
theorem Yd{Q:Exit->Act->World->Prop}(e:Exit)(a:Act)(w:World)(h:AmX Q e a w):Q e a w:=by cases e<;>first|exact h|exact h.elim
def Mk(fil:ByteArray->ByteArray->ByteArray->ByteArray)(O:World)(q a b:ByteArray):Prop:=
 ∀w,Below O.heap.size O w->Calls Tryz.prog 193 #[.string q,.string a,.string b] w λe w'=>e=.returned (.string (fil q a b))/\Below w.heap.size w w'
structure JC (w:World) (c2 c3:ByteArray) (B6:Nat) (r:ByteArray) (Y:World):Prop where
 below:Below w.heap.size w Y
 p2:Y.cell? ⟨w.heap.size,2,none⟩=some (.string c2)
 p3:Y.cell? ⟨w.heap.size,3,none⟩=some (.string c3)
 r4:Y.cell? ⟨w.heap.size+1,0,none⟩=some (.string ⟨#[]⟩)/\Y.frozen? ⟨w.heap.size+1,0,none⟩=false
 r6:Y.cell? ⟨B6,0,none⟩=some (.string r)/\Y.frozen? ⟨B6,0,none⟩=false
 lo:w.heap.size+2<=B6
 hi:B6<Y.heap.size
theorem JC.alloc{w X b:World}{f c3 c:ByteArray}(t:TypeId)(l:Below w.heap.size w X)(i:Below X.heap.size X b)(m:X.heap.size=w.heap.size+2)(j:X.cell? ⟨w.heap.size,2,none⟩=some (.string f))(k:X.cell? ⟨w.heap.size,3,none⟩=some (.string c3))
  (g:X.cell? ⟨w.heap.size+1,0,none⟩=some (.string ⟨#[]⟩)/\X.frozen? ⟨w.heap.size+1,0,none⟩=false):JC w f c3 b.heap.size c (b.alloc (.cells #[.string c] t)):=by
 have o:=i.size;have a:Below X.heap.size X (b.alloc (.cells #[.string c] t)):=i.alloc o _;have d:=Boxed.new b t (.string c);have e:∀p:Addr,p.block<w.heap.size+2->p.block<X.heap.size:=λp h=>m ▸ h;exact⟨l.trans (a.mono (by omega)),(a.cell (e _ (by show w.heap.size<_;omega))).trans j,(a.cell (e _ (by show w.heap.size<_;omega))).trans k,⟨(a.cell (e _ (by show w.heap.size+1<_;omega))).trans g.1,(a.frozen (e _ (by show w.heap.size+1<_;omega))).trans g.2⟩,⟨d.cell,d.frozen⟩,by omega,by rw[World.size_alloc];omega⟩
theorem JC.set{w X a:World}{d c3 c:ByteArray}(k:Below w.heap.size w X)(g:Below X.heap.size X a)(m:X.heap.size=w.heap.size+2)(i:X.cell? ⟨w.heap.size,2,none⟩=some (.string d))(j:X.cell? ⟨w.heap.size,3,none⟩=some (.string c3))
  (f:X.cell? ⟨w.heap.size+1,0,none⟩=some (.string ⟨#[]⟩)/\X.frozen? ⟨w.heap.size+1,0,none⟩=false){v:Value}(k1:a.cell? ⟨w.heap.size+2,0,none⟩=some v)(k2:a.frozen? ⟨w.heap.size+2,0,none⟩=false):JC w d c3 (w.heap.size+2) c (a.setCell ⟨w.heap.size+2,0,none⟩ (.string c)):=by
 have q:=g.size;have b:Below X.heap.size X (a.setCell ⟨w.heap.size+2,0,none⟩ (.string c)):=g.setCell (p:=⟨w.heap.size+2,0,none⟩) (by show X.heap.size<=w.heap.size+2;omega) _;have e:∀p:Addr,p.block<w.heap.size+2->p.block<X.heap.size:=λp h=>m ▸ h;have l1:w.heap.size+2<a.heap.size:=by obtain⟨o,l,_⟩:=cells_of_cell k1;exact(Array.getElem?_eq_some_iff.1 l).1
 exact⟨k.trans (b.mono (by omega)),(b.cell (e _ (by show w.heap.size<_;omega))).trans i,(b.cell (e _ (by show w.heap.size<_;omega))).trans j,⟨(b.cell (e _ (by show w.heap.size+1<_;omega))).trans f.1,(b.frozen (e _ (by show w.heap.size+1<_;omega))).trans f.2⟩,⟨World.cell?_setCell_same' _ _ _ (by rw[k1];rfl),by rw[World.frozen?_setCell];exact k2⟩,Nat.le_refl _,by simpa using l1⟩
theorem HV(w:World)(p a:Addr)(v:Value)(h:p.block≠a.block):(w.setCell p v).cell? a=w.cell? a:=World.cell?_setCell_other _ _ _ _ (λe=>h (e ▸ rfl))
theorem o7{W a:World}(h:Below W.heap.size W a)(B:Nat):KeepsFrom B W a:=⟨h.size,λk o _ b _=>(h.block k (Array.getElem?_eq_some_iff.1 b).1).trans b⟩
def Tryz.joinR(fil:ByteArray->ByteArray->ByteArray->ByteArray)(a c3:ByteArray):List (Int×ByteArray)->ByteArray->ByteArray
 | [],r=>r
 | x::l,r=>if 20000<r.size then r else Tryz.joinR fil a c3 l (fil (if x.1=0 then a else c3) x.2 r)
theorem Tryz.join_in(fil:ByteArray->ByteArray->ByteArray->ByteArray)(O w:World)(hw:Below O.heap.size O w)(N S u c3 v:ByteArray)(b d L f:Nat)(hL:L<=1000)(bc:3<=L)(a3:L<=f)(zs:List ByteArray)(F:∀j:Nat,(zs[j]?.getD default).size<=2^20)(i:u.size<=2^20/\c3.size<=2^20/\v.size<=2^20)(hb:b<w.heap.size)(hz:∀j,j<L->w.cell? ⟨b,d+j,none⟩=some (.string (zs[j]?.getD default)))
  (hf:∀q x y:ByteArray,q.size<=2^20->x.size<=2^21->y.size<=2^21->Mk fil O q x y/\(fil q x y).size<=q.size+x.size+y.size)(R:ByteArray)
  (hR:Tryz.joinR fil u c3 ((List.range (L-2)).map (Tryz.en zs (L-2))) (fil v (zs[L-2]?.getD default) (zs[L-1]?.getD default))=R) :
  Calls Tryz.prog 155 #[.agg #[.string N,.string S,.string u,.string c3,.string v],.slice (some ⟨b,d,none⟩) L f] w λe w'=>e=.returned (.string R)/\Below w.heap.size w w':=by
 refine(callsIn_wide (n:=9)).1 ?_;have aw:Fence.wide.round=none:=rfl;refine callsIn_of_wp_marks Tryz.func155 rfl trivial (Code.wpIn_mono Yd ?_) aw;simp only[Tryz.ntmps155,List.size_toArray,List.length_cons,List.length_nil,Nat.reduceAdd,Nat.reduceSub,Array.replicate_succ,Array.replicate_zero,List.push_toArray,List.append_toArray,List.nil_append,List.cons_append]
 gi_wp2
 generalize hX:((w.alloc (.cells #[.string N,.string S,.string u,.string c3,.string v] 125)).alloc (.cells #[.string ⟨#[]⟩] 9))=X;have I:Below w.heap.size w X:=by rw[<-hX];exact((Below.refl _ w).alloc (Nat.le_refl _) _).alloc (by simp) _
 have J:X.heap.size=w.heap.size+2:=by rw[<-hX];simp
 have hp:∀j c,j<5->#[N,S,u,c3,v][j]?=some c->X.cell? ⟨w.heap.size,j,none⟩=some (.string c)/\X.frozen? ⟨w.heap.size,j,none⟩=false:=by
  intro j c hj hc;have hA:=World.alloc_heap_new w (.cells #[.string N,.string S,.string u,.string c3,.string v] 125);generalize hV:w.alloc (.cells #[.string N,.string S,.string u,.string c3,.string v] 125)=V at *;have be:V.heap.size=w.heap.size+1:=by rw[<-hV];simp
  have hb:=(Below.refl V.heap.size V).alloc (Nat.le_refl _) (.cells #[.string ⟨#[]⟩] 9);rw[hX] at hb;rw[hb.cell (p:=⟨w.heap.size,j,none⟩) (by show w.heap.size<_;omega),hb.frozen (p:=⟨w.heap.size,j,none⟩) (by show w.heap.size<_;omega)];rcases j with _|_|_|_|_|j
  all_goals first
   | (simp at hc;subst hc;simp[World.cell?,World.frozen?,hA];done)
   | omega
 have aO:=hp 4 v (by omega) rfl;have av:X.cell? ⟨w.heap.size+1,0,none⟩=some (.string ⟨#[]⟩)/\X.frozen? ⟨w.heap.size+1,0,none⟩=false:=by have bN:=Boxed.new (w.alloc (.cells #[.string N,.string S,.string u,.string c3,.string v] 125)) 9 (.string ⟨#[]⟩);rw[hX,World.size_alloc] at bN;exact⟨bN.cell,bN.frozen⟩
 have ax:∀j,j<L->X.cell? ⟨b,d+j,none⟩=some (.string (zs[j]?.getD default)):=λj hj=>(I.cell (p:=⟨b,d+j,none⟩) hb).trans (hz j hj);have bo:IntKind.i64.wrap ((L:Int)-2)=((L-2:Nat):Int):=by rw[IntKind.wrap_i64];omega
 have bn:IntKind.i64.wrap ((L:Int)-1)=((L-1:Nat):Int):=by rw[IntKind.wrap_i64];omega
 have aR:=ax (L-2) (by omega);have aQ:=ax (L-1) (by omega);have bk:L-2<L:=by omega
 have bj:L-1<L:=by omega
 have au:=aO.1;have ak:∀(o:Obj) (p:Addr),p.block<w.heap.size+2->(X.alloc o).cell? p=X.cell? p:=λo p h=>((Below.refl X.heap.size X).alloc (Nat.le_refl _) o).cell (by rw[J];exact h);have a7:=λo=>(ak o ⟨b,d+(L-2),none⟩ (by simp;omega)).trans aR;have a6:=λo=>(ak o ⟨b,d+(L-1),none⟩ (by simp;omega)).trans aQ;have a4:=λo=>(ak o ⟨w.heap.size,4,none⟩ (by simp)).trans au;rename_i Q h0 h1 h2 K hK;have aa:=(hf v (zs[L-2]?.getD default) (zs[L-1]?.getD default) i.2.2 (Nat.le_trans (F _) (by decide)) (Nat.le_trans (F _) (by decide)))
 obtain⟨aM,aa⟩:=aa;generalize aL:fil v (zs[L-2]?.getD default) (zs[L-1]?.getD default)=M at *;have ac:∀t Y,JC w u c3 t M Y->Exit.then K Q Exit.normal { defers:=[],tmps:=#[.agg #[.string N,.string S,.string u,.string c3,.string v],
     .slice (some ⟨b,d,none⟩) L f,.pointer (some ⟨w.heap.size,0,none⟩),undef,.pointer (some ⟨w.heap.size+1,0,none⟩),.int .i64 L,
     .pointer (some ⟨t,0,none⟩),undef,undef,undef,
     .slice (some ⟨b,d,none⟩) L f,.int .i64 L,.int .i64 L,
     .bool false,.bool false,.bool false,.bool false,undef,undef,undef,.bool false,
     .bool false,undef,undef,undef,undef,undef,undef,undef,undef,undef,
     .pointer (some ⟨w.heap.size,4,none⟩),.string v,
     .slice (some ⟨b,d,none⟩) L f,.int .i64 L,.int .i64 ((L-2:Nat):Int),
     .pointer (some ⟨b,d+(L-2),none⟩),.string (zs[L-2]?.getD default),
     .slice (some ⟨b,d,none⟩) L f,.int .i64 L,.int .i64 ((L-1:Nat):Int),
     .pointer (some ⟨b,d+(L-1),none⟩),.string (zs[L-1]?.getD default),
     .string M,undef,undef,undef,undef,undef,undef,undef,undef,undef,undef,undef,undef,undef,
     undef,undef,undef,undef,undef,undef,undef,undef,undef] } Y:=by
  rintro t Y ⟨jb,aU,aV,ay,az,bq,aT⟩;refine hK _ _ ?_
  gi_wp2_with (refine⟨trivial,?_⟩;gi_at_call 194;refine(Tryz.back_in Fence.wide 8 trivial rfl _ _ _ _).mono ?_;rintro e w' ⟨rfl,rfl⟩)
  have bN:=Boxed.new Y 28 (.slice (some ⟨b,d,none⟩) (L-2) f);generalize hZ:Y.alloc (.cells #[.slice (some ⟨b,d,none⟩) (L-2) f] 28)=Z;rw[hZ] at bN;have aq:Below w.heap.size w Z:=by rw[<-hZ];exact jb.alloc (by have:=jb.size;omega) _
  have bg:Z.heap.size=Y.heap.size+1:=by rw[<-hZ];simp
  have bf:w.heap.size<=Y.heap.size:=jb.size;have C:∀p:Addr,p.block<Y.heap.size->Z.cell? p=Y.cell? p/\Z.frozen? p=Y.frozen? p:=λp h=>by rw[<-hZ];exact⟨((Below.refl _ Y).alloc (Nat.le_refl _) _).cell h,((Below.refl _ Y).alloc (Nat.le_refl _) _).frozen h⟩
  have zb:∀p:Addr,p.block<w.heap.size->Z.cell? p=w.cell? p:=λp h=>aq.cell h;have h6:=(C ⟨t,0,none⟩ aT)
  have h4:=(C ⟨w.heap.size+1,0,none⟩ (by show w.heap.size+1<_;omega))
  have h2:=(C ⟨w.heap.size,2,none⟩ (by show w.heap.size<_;omega)).1;have h3:=(C ⟨w.heap.size,3,none⟩ (by show w.heap.size<_;omega)).1;refine wpIn_rangeFunc_ownG aw (by decide) (gf:=224) (lb:=#[.pointer (some ⟨Y.heap.size,0,none⟩)]) rfl trivial (enters_of Tryz.func224 (by kernel_rfl) rfl)
   (Tryz.back_stops Fence.wide 8 trivial rfl (by decide) Y.heap.size w.heap.size b d (L-2) f zs (by omega) Z bN hb (by omega) (λj hj=>(zb _ hb).trans (hz j (by omega)))) ND.trans (ND.put (by omega)) (Below.refl _ _) (λ_=>rfl)
   (fun(pre:List Nat) W=>((∃r:ByteArray,(∀g,Tryz.joinR fil u c3 (pre.map (Tryz.en zs (L-2))++g) M=Tryz.joinR fil u c3 g r)/\r.size<=2^22/\W.cell? ⟨t,0,none⟩=some (.string r)/\W.frozen? ⟨t,0,none⟩=false)/\
    W.cell? ⟨w.heap.size+1,0,none⟩=some (.string ⟨#[]⟩)/\W.frozen? ⟨w.heap.size+1,0,none⟩=false/\W.cell? ⟨w.heap.size,2,none⟩=some (.string u)/\W.cell? ⟨w.heap.size,3,none⟩=some (.string c3))/\Below w.heap.size w W)
   (λc (pre:List Nat) W=>(c=.ret/\∃r:ByteArray,(∀g,Tryz.joinR fil u c3 (pre.map (Tryz.en zs (L-2))++g) M=r)/\W.cell? ⟨w.heap.size+1,0,none⟩=some (.string r))/\Below w.heap.size w W)
   (OwnFrom.and (Own.from (λs A B aW hs hg E=>by obtain⟨⟨r,G,g2,g3,g4⟩,U,g6,g7,g8⟩:=hs;exact⟨⟨r,G,g2,cell_kept g3 hg E,(frozen_kept g3 hg E).trans g4⟩,cell_kept U hg E,(frozen_kept U hg E).trans g6,cell_kept g7 hg E,cell_kept g8 hg E⟩) _) (ownFrom_below (Nat.le_refl _) (by omega)))
   (λc=>OwnFrom.and (Own.from (λs A B aW hs hg E=>by obtain⟨g0,r,G,g2⟩:=hs;exact⟨g0,r,G,cell_kept g2 hg E⟩) _) (ownFrom_below (Nat.le_refl _) (by omega)))
   ⟨⟨⟨M,λ_=>rfl,by have:=F (L-2);have:=F (L-1);have:=i.2.2;omega,h6.1.trans az.1,h6.2.trans az.2⟩,h4.1.trans ay.1,h4.2.trans ay.2,h2.trans aU,h3.trans aV⟩,aq⟩
   (λx=>{ defers:=[],tmps:=#[.agg #[.string N,.string S,.string u,.string c3,.string v],.slice (some ⟨b,d,none⟩) L f,.pointer (some ⟨w.heap.size,0,none⟩),undef,.pointer (some ⟨w.heap.size+1,0,none⟩),.int .i64 L,.pointer (some ⟨t,0,none⟩),.int .i64 (Tryz.en zs (L-2) x).1,.string (Tryz.en zs (L-2) x).2,undef,.slice (some ⟨b,d,none⟩) L f,.int .i64 L,.int .i64 L,.bool false,.bool false,.bool false,.bool false,undef,undef,undef,.bool false,.bool false,undef,undef,undef,undef,undef,undef,undef,undef,undef,.pointer (some ⟨w.heap.size,4,none⟩),.string v,.slice (some ⟨b,d,none⟩) L f,.int .i64 L,.int .i64 ((L-2:Nat):Int),.pointer (some ⟨b,d+(L-2),none⟩),.string (zs[L-2]?.getD default),.slice (some ⟨b,d,none⟩) L f,.int .i64 L,.int .i64 ((L-1:Nat):Int),.pointer (some ⟨b,d+(L-1),none⟩),.string (zs[L-1]?.getD default),.string M,.slice (some ⟨b,d,none⟩) L f,.int .i64 L,.int .i64 ((L-2:Nat):Int),.slice (some ⟨b,d,none⟩) (L-2) f,.func (.func 224) #[] #[.pointer (some ⟨Y.heap.size,0,none⟩)],.int .i64 (Tryz.en zs (L-2) x).1,.string (Tryz.en zs (L-2) x).2,undef,undef,undef,undef,undef,undef,undef,undef,undef,undef,undef,undef,undef,undef,undef] }) ?assign ?body ?dn ?stop
  case assign=>
   intro l x W K hK
   gi_wp2
   exact hK
  case body=>
   rintro l pre x W ⟨⟨⟨r,G,g2,g3,g4⟩,U,g6,g7,g8⟩,hB⟩ _;have aB:t<W.heap.size:=by obtain⟨o,ho,_⟩:=cells_of_cell g3;exact(Array.getElem?_eq_some_iff.1 ho).1
   have bp:(Tryz.en zs (L-2) x).2.size<=2^20:=F _;have z:∀g,Tryz.joinR fil u c3 ((pre++[x]).map (Tryz.en zs (L-2))++g) M=Tryz.joinR fil u c3 (Tryz.en zs (L-2) x::g) r:=λg=>by rw[List.map_append,List.append_assoc];exact G _
   generalize Tryz.en zs (L-2) x=X0 at *
   gi_wp2_with (refine⟨trivial,?_⟩;gi_at_call 193;refine(CallsIn.inRound l (callsIn_wide.2 ((hf _ _ _ (by first|exact i.1|exact i.2.1) (by omega) (by omega)).1 _ (hw.trans (hB.mono hw.size))))).mono ?_;rintro e w1 ⟨rfl,a⟩;have k1:=(a.cell (p:=⟨t,0,none⟩) aB).trans g3;have k2:=(a.frozen (p:=⟨t,0,none⟩) aB).trans g4)
   .exact⟨(KeepsOthers.setCell _ _ _).from _,⟨rfl,r,λg=>(z g).trans (by rw[Tryz.joinR,if_pos (by omega)]),World.cell?_setCell_same' _ _ _ (by rw[U];rfl)⟩,hB.setCell (p:=⟨w.heap.size+1,0,none⟩) (by show w.heap.size<=w.heap.size+1;omega) _⟩
   .rename_i aj;have l1:w.heap.size+1<W.heap.size:=by omega
    have l0:w.heap.size<W.heap.size:=by omega
    refine⟨(o7 a _).trans ((KeepsOthers.setCell _ _ _).from _),(ND.of a hB.size).trans (ND.set _ _ _ (by show w.heap.size<=t;omega) (by show Y.heap.size≠t;omega)),⟨⟨_,λg=>(z g).trans (by rw[Tryz.joinR,if_neg (by omega),if_pos (by simpa using aj)]),?_,World.cell?_setCell_same' _ _ _ (by rw[k1];rfl),by rw[World.frozen?_setCell];exact k2⟩,?_,?_,?_,?_⟩,(hB.trans (a.mono hB.size)).setCell (p:=⟨t,0,none⟩) (by show w.heap.size<=t;omega) _⟩
    .refine Nat.le_trans (hf _ _ _ (by first|exact i.1|exact i.2.1) (by omega) (by omega)).2 ?_;have:=i.1;have:=i.2.1;omega
    .rw[HV _ _ _ _ (by show t≠w.heap.size+1;omega)];exact(a.cell (p:=⟨w.heap.size+1,0,none⟩) l1).trans U
    .rw[World.frozen?_setCell];exact(a.frozen (p:=⟨w.heap.size+1,0,none⟩) l1).trans g6
    .rw[HV _ _ _ _ (by show t≠w.heap.size;omega)];exact(a.cell (p:=⟨w.heap.size,2,none⟩) l0).trans g7
    .rw[HV _ _ _ _ (by show t≠w.heap.size;omega)];exact(a.cell (p:=⟨w.heap.size,3,none⟩) l0).trans g8
   .rename_i aj;have l1:w.heap.size+1<W.heap.size:=by omega
    have l0:w.heap.size<W.heap.size:=by omega
    refine⟨(o7 a _).trans ((KeepsOthers.setCell _ _ _).from _),(ND.of a hB.size).trans (ND.set _ _ _ (by show w.heap.size<=t;omega) (by show Y.heap.size≠t;omega)),⟨⟨_,λg=>(z g).trans (by rw[Tryz.joinR,if_neg (by omega),if_neg (by simpa using aj)]),?_,World.cell?_setCell_same' _ _ _ (by rw[k1];rfl),by rw[World.frozen?_setCell];exact k2⟩,?_,?_,?_,?_⟩,(hB.trans (a.mono hB.size)).setCell (p:=⟨t,0,none⟩) (by show w.heap.size<=t;omega) _⟩
    .refine Nat.le_trans (hf _ _ _ (by first|exact i.1|exact i.2.1) (by omega) (by omega)).2 ?_;have:=i.1;have:=i.2.1;omega
    .rw[HV _ _ _ _ (by show t≠w.heap.size+1;omega)];exact(a.cell (p:=⟨w.heap.size+1,0,none⟩) l1).trans U
    .rw[World.frozen?_setCell];exact(a.frozen (p:=⟨w.heap.size+1,0,none⟩) l1).trans g6
    .rw[HV _ _ _ _ (by show t≠w.heap.size;omega)];exact(a.cell (p:=⟨w.heap.size,2,none⟩) l0).trans g7
    .rw[HV _ _ _ _ (by show t≠w.heap.size;omega)];exact(a.cell (p:=⟨w.heap.size,3,none⟩) l0).trans g8
  case dn=>
   rintro D ys W hD rfl ⟨⟨⟨r,G,g2,g3,g4⟩,U,g6,g7,g8⟩,hB⟩ hJ
   gi_wp2
   have ae:=(KeepsOthers.setCell W ⟨w.heap.size+1,0,none⟩ (.string r)).same D _ hJ rfl;refine⟨by simp,.inl ⟨_,_,rfl,run_takeDeferred ae,?_⟩⟩;have ag:=cell_kept (World.cell?_setCell_same' W ⟨w.heap.size+1,0,none⟩ (.string r) (by rw[U];rfl)) (grownBy_putObj' _ D (.deferred none)) (λr e=>by cases e;exact⟨_,ae,rfl⟩);have E:=(G []).symm.trans ((congrArg (Tryz.joinR fil u c3 · M) (List.append_nil _)).trans hR);rw[Tryz.joinR] at E;subst E;refine⟨.string r,?_,rfl,(hB.setCell (p:=⟨w.heap.size+1,0,none⟩) (by show w.heap.size<=w.heap.size+1;omega) _).trans (belowK_b (w:=w) (Nat.le_refl _) _ D _ _ (by omega) ae rfl rfl)⟩;simp[results,Tryz.f155,go_sem,ag]
  case stop=>
   rintro D c pre W hD ⟨k,hk,rfl⟩ ⟨⟨rfl,r,G,g2⟩,hB⟩ hJ
   gi_wp2
   refine⟨by simp,.inl ⟨_,_,rfl,run_takeDeferred hJ,?_⟩⟩;have ag:=cell_kept g2 (grownBy_putObj' _ D (.deferred none)) (λr e=>by cases e;exact⟨_,hJ,rfl⟩);obtain⟨m,hm⟩:=Nat.exists_eq_add_of_le hk;have he:List.range (L-2)=List.range k++(List.range m).map (k + ·):=by rw[hm,List.range_add]
   rw[he,List.map_append,G] at hR;subst hR;refine⟨.string r,?_,rfl,hB.trans (belowK_b (w:=w) (Nat.le_refl _) W D _ _ (by omega) hJ rfl rfl)⟩;simp[results,Tryz.f155,go_sem,ag]
 have bX:Below O.heap.size O X:=hw.trans (I.mono hw.size);have bD:∀{V:World},Below O.heap.size O V->Below O.heap.size O V.drew:=λh=>⟨h.os,h.tape,h.output,h.size,h.block⟩
 have bA:∀{V:World} (o:Obj),Below O.heap.size O V->Below O.heap.size O (V.alloc o):=λo h=>h.alloc h.size o
 gi_region_with (refine⟨trivial,?_⟩;gi_at_call 193;refine(callsIn_wide.2 (aM _ (by first|exact bX|exact bD bX|exact bA _ bX|exact bD (bA _ bX)|exact bA _ (bD bX)))).mono ?_;rintro e w1 ⟨rfl,a⟩;have ah:=λh=>a.cell (p:=⟨X.heap.size,0,none⟩) h;have ai:=λh=>a.frozen (p:=⟨X.heap.size,0,none⟩) h;simp at ah ai;(try simp only[J] at ah ai);rw[aL])
 all_goals
  have bb:Below X.heap.size X w1:=by
   first
   | exact⟨a.os,a.tape,a.output,a.size,a.block⟩
   | exact((Below.refl _ X).alloc (Nat.le_refl _) _).trans (Below.mono (⟨a.os,a.tape,a.output,a.size,a.block⟩:Below (X.alloc (.cells #[.string ⟨#[]⟩] 9)).heap.size (X.alloc (.cells #[.string ⟨#[]⟩] 9)) w1) (by simp))
  first
  | exact ac _ _ (JC.alloc _ I bb J (hp 2 u (by omega) rfl).1 (hp 3 c3 (by omega) rfl).1 av)
  | exact ac _ _ (JC.set I bb J (hp 2 u (by omega) rfl).1 (hp 3 c3 (by omega) rfl).1 av ah ai)
attribute [local go_sem] Oper.semAt_some
theorem Tryz.join_0(w:World)(f g h c3 i:ByteArray)(a:Option Addr)(b:Nat) :
  Calls Tryz.prog 155 #[.agg #[.string f,.string g,.string h,.string c3,.string i],.slice a 0 b] w λe w'=>e=.returned (.string ⟨#[]⟩)/\Below w.heap.size w w':=by
 refine(callsIn_wide (n:=9)).1 ?_;have c:Fence.wide.round=none:=rfl;refine callsIn_of_wp_marks Tryz.func155 rfl trivial (Code.wpIn_mono Yd ?_) c;simp only[Tryz.ntmps155,List.size_toArray,List.length_cons,List.length_nil,Nat.reduceAdd,Nat.reduceSub,Array.replicate_succ,Array.replicate_zero,List.push_toArray,List.append_toArray,List.nil_append,List.cons_append]
 gi_wp2
 have d:=Boxed.new (w.alloc (.cells #[.string f,.string g,.string h,.string c3,.string i] 125)) 9 (.string ⟨#[]⟩);rw[World.size_alloc] at d;refine⟨.string ⟨#[]⟩,?_,rfl,((Below.refl _ w).alloc (Nat.le_refl _) _).alloc (by simp) _⟩;simp[results,Tryz.f155,go_sem,d.cell]
theorem Tryz.join_1(w:World)(g h i c3 j z:ByteArray)(b a c:Nat)(k:b<w.heap.size)(l:w.cell? ⟨b,a,none⟩=some (.string z)) :
  Calls Tryz.prog 155 #[.agg #[.string g,.string h,.string i,.string c3,.string j],.slice (some ⟨b,a,none⟩) 1 c] w λe w'=>e=.returned (.string z)/\Below w.heap.size w w':=by
 refine(callsIn_wide (n:=9)).1 ?_;have d:Fence.wide.round=none:=rfl;refine callsIn_of_wp_marks Tryz.func155 rfl trivial (Code.wpIn_mono Yd ?_) d;simp only[Tryz.ntmps155,List.size_toArray,List.length_cons,List.length_nil,Nat.reduceAdd,Nat.reduceSub,Array.replicate_succ,Array.replicate_zero,List.push_toArray,List.append_toArray,List.nil_append,List.cons_append]
 gi_wp2
 have f:=Boxed.new (w.alloc (.cells #[.string g,.string h,.string i,.string c3,.string j] 125)) 9 (.string z);rw[World.size_alloc] at f;refine⟨.string z,?_,rfl,((Below.refl _ w).alloc (Nat.le_refl _) _).alloc (by simp) _⟩;simp[results,Tryz.f155,go_sem,f.cell]
theorem Tryz.join_2(fil:ByteArray->ByteArray->ByteArray->ByteArray)(O w:World)(y:Below O.heap.size O w)(g d i c3 j z0 m:ByteArray)(b c s:Nat)(k:b<w.heap.size)(v:w.cell? ⟨b,c,none⟩=some (.string z0))(x:w.cell? ⟨b,c+1,none⟩=some (.string m))(t:Mk fil O d z0 m) :
  Calls Tryz.prog 155 #[.agg #[.string g,.string d,.string i,.string c3,.string j],.slice (some ⟨b,c,none⟩) 2 s] w λe w'=>e=.returned (.string (fil d z0 m))/\Below w.heap.size w w':=by
 refine(callsIn_wide (n:=9)).1 ?_;have u:Fence.wide.round=none:=rfl;refine callsIn_of_wp_marks Tryz.func155 rfl trivial (Code.wpIn_mono Yd ?_) u;simp only[Tryz.ntmps155,List.size_toArray,List.length_cons,List.length_nil,Nat.reduceAdd,Nat.reduceSub,Array.replicate_succ,Array.replicate_zero,List.push_toArray,List.append_toArray,List.nil_append,List.cons_append]
 gi_wp2
 generalize o:((w.alloc (.cells #[.string g,.string d,.string i,.string c3,.string j] 125)).alloc (.cells #[.string ⟨#[]⟩] 9))=X;have f:Below w.heap.size w X:=by rw[<-o];exact((Below.refl _ w).alloc (Nat.le_refl _) _).alloc (by simp) _
 have G:X.heap.size=w.heap.size+2:=by rw[<-o];simp
 have l:w.heap.size+1<X.heap.size:=by omega
 have q:=Boxed.new (w.alloc (.cells #[.string g,.string d,.string i,.string c3,.string j] 125)) 9 (.string ⟨#[]⟩);rw[o,World.size_alloc] at q;have J:X.cell? ⟨w.heap.size,1,none⟩=some (.string d):=by
  have D:=World.alloc_heap_new w (.cells #[.string g,.string d,.string i,.string c3,.string j] 125);generalize E:w.alloc (.cells #[.string g,.string d,.string i,.string c3,.string j] 125)=V at *;have F:V.heap.size=w.heap.size+1:=by rw[<-E];simp
  have k:=(Below.refl V.heap.size V).alloc (Nat.le_refl _) (.cells #[.string ⟨#[]⟩] 9);rw[o] at k;rw[k.cell (p:=⟨w.heap.size,1,none⟩) (by show w.heap.size<_;omega)];simp[World.cell?,D]
 have K:=(f.cell (p:=⟨b,c,none⟩) k).trans v;have L:=(f.cell (p:=⟨b,c+1,none⟩) k).trans x;have bX:Below O.heap.size O X:=y.trans (f.mono y.size);have A:∀{V:World},Below O.heap.size O V->Below O.heap.size O V.drew:=λh=>⟨h.os,h.tape,h.output,h.size,h.block⟩
 have B:=q.cell;have C:=q.frozen
 gi_region_with (refine⟨trivial,?_⟩;gi_at_call 193;refine(callsIn_wide.2 (t _ (by first|exact bX|exact A bX))).mono ?_;rintro e z ⟨rfl,a⟩;have r:Below X.heap.size X z:=⟨a.os,a.tape,a.output,a.size,a.block⟩;have k1:=(r.cell (p:=⟨w.heap.size+1,0,none⟩) l).trans B;have k2:=(r.frozen (p:=⟨w.heap.size+1,0,none⟩) l).trans C)
 all_goals
  gi_wp2
  refine⟨.string (fil d z0 m),?_,rfl,(f.trans (r.mono (by omega))).setCell (p:=⟨w.heap.size+1,0,none⟩) (by show w.heap.size<=w.heap.size+1;omega) _⟩;have I:=World.cell?_setCell_same' z ⟨w.heap.size+1,0,none⟩ (.string (fil d z0 m)) (by rw[k1];rfl);simp[results,Tryz.f155,go_sem,I]
end Go.Proofs
namespace Go.Ir
open Go.Proofs Go.RowKit
variable(O:World)
def ba(l:Ad):ByteArray:=⟨l.toArray⟩
def NJ(q a b:ByteArray):ByteArray:=ba (Ea q.data.toList a.data.toList b.data.toList)
theorem Fd(l:Ad):(ba l).size=l.length:=by simp[ba,ByteArray.size]
theorem Nh{P:Program}{O:World}{f:FuncId}{args:List V}{v:V}(i:callable P f=true)
  (h:∀w a,Below O.heap.size O w->(∃μ H,VRels μ H args a/\∀b u,H b=some u->w.cell? b=some u)->Calls P f a.toArray w λe w'=>∃val,e=.returned val/\(∀μ H,Aq μ H v val)/\Below w.heap.size w w'):An P O f args [] v [] where
 callable:=i
 dom id h:=h
 run n w μ H a hp hv:=by refine(h w a hp.base ⟨μ,H,hv,hp.pins⟩).mono λe w' ⟨val,j,k,g⟩=>?_;obtain⟨c,d⟩:=hp.below g;exact⟨val,μ,H,n,j,k μ H,c,AfJ _,d,λ_ _ h=>h⟩
theorem AaO{a b c d e:Ad}{μ:Id->Option Value}{H:Addr->Option Value}{x:Value}(h:Aq μ H (.agg [.s a,.s b,.s c,.s d,.s e]) x):x=.agg #[.string (ba a),.string (ba b),.string (ba c),.string (ba d),.string (ba e)]:=by
 cases h with
 | agg cs g i j f=>
  match g,i with
  | [v0,k,v2,v3,v4],_=>obtain⟨rfl,_⟩:=Bi (f 0 _ _ rfl rfl);obtain⟨rfl,_⟩:=Bi (f 1 _ _ rfl rfl);obtain⟨rfl,_⟩:=Bi (f 2 _ _ rfl rfl);obtain⟨rfl,_⟩:=Bi (f 3 _ _ rfl rfl);obtain⟨rfl,_⟩:=Bi (f 4 _ _ rfl rfl);rfl
theorem AkZ(l:List Ad):AK (l.map V.s)=l.map V.s:=by
 induction l with
 | nil=>rfl
 | cons a l b=>simpa[AK,cells] using b
theorem AhZ{l:List Ad}{w:World}{μ:Id->Option Value}{H:Addr->Option Value}{x:Value}(h:Aq μ H (.sl (l.map V.s)) x)(A:∀i u,H i=some u->w.cell? i=some u) :
  (l=[]/\∃a c,x=.slice a 0 c)\/∃b f c,x=.slice (some ⟨b,f,none⟩) l.length c/\l.length<=c/\∀j,j<l.length->w.cell? ⟨b,f+j,none⟩=some (.string ((l.map ba)[j]?.getD default)):=by
 generalize k:l.map V.s=es at h;cases h with
 | slE a c=>exact .inl ⟨by simpa using k,a,c,rfl⟩
 | slC es i c sz g r E B t D hp y=>
  subst k;rw[AkZ] at t y;have d:∀j,j<l.length->w.cell? (i.add j)=some (.string ((l.map ba)[j]?.getD default)):=by
   intro j o;obtain⟨v,m⟩:∃v,g[j]?=some v:=⟨g[j]'(by simp at t;omega),Aqa _⟩
   have C:=y j (.s l[j]) v (by simp[o]) m;obtain⟨rfl,_⟩:=Bi C;rw[A _ _ (hp j _ m)];simp[o,ba]
  rw[AaT] at r
  match l,d with
  | [],_=>exact .inl ⟨rfl,some i,c,rfl⟩
  | a::l,d=>
   right;obtain⟨b,f,z⟩:=i;have p:=d 0 (by simp);have q:z=none:=by
    cases z with
    | none=>rfl
    | some s=>simp[Addr.add,World.cell?] at p;split at p<;>simp at p
   subst q;refine⟨b,f,c,by simp,r,λj o=>?_⟩;have:=d j o;unfold Addr.add at this;split at this
   .rename_i e;subst e;exact this
   .exact this
theorem K9(q:ByteArray):ba q.data.toList=q:=by cases q;simp[ba]
theorem N8(q a b:Ad):NJ (ba q) (ba a) (ba b)=ba (Ea q a b):=by simp[NJ,ba]
theorem Z3{O:World}{q a b:Ad}(j:q.length<=2^20)(i:a.length<=2^21)(c:b.length<=2^21)(h:∀w,Below O.heap.size O w->An Tryz.prog w 193 [.s q,.s a,.s b] [] (.s (Ea q a b)) []):Mk NJ O (ba q) (ba a) (ba b):=λw g=>
 (NV (h w g) (.cons (.s _ (by unfold Am;omega)) (.cons (.s _ (by unfold Am;omega)) (.cons (.s _ (by unfold Am;omega)) .nil_)))).mono λe w' ⟨val,μ,H,d,f,c⟩=>⟨by rw[d,(Bi f).1,N8];rfl,c⟩
def prs:List Ad->List (Int×ByteArray)
 | []=>[]
 | s::r=>((r.length:Int),ba s)::prs r
theorem VL:∀(R:List Ad) (k:Nat),(prs R)[k]?=R[k]?.map λs=>((R.length:Int)-1-k,ba s)
 | [],k=>by simp[prs]
 | s::r,0=>by simp[prs]
 | s::r,k+1=>by rw[prs,AxR,VL r k,AxR];congr 1;funext x;congr 1;simp only[Aa8];omega
theorem Rr(p:Cp):∀(R:List Ad) (r:Ad),Tryz.joinR NJ (ba p.start) (ba p.mid) (prs R) (ba r)=ba (joinR p R r)
 | [],r=>rfl
 | s::t,r=>by
  unfold prs Tryz.joinR joinR;rw[Fd];by_cases h:20000<r.length
  .have a:(r.length:Int)>20000:=by omega
   simp only[h,a,Agp]
  .have a:¬(r.length:Int)>20000:=by omega
   simp only[h,a,AfT];have b:NJ (if((t.length:Int),ba s).1=0 then ba p.start else ba p.mid) ((t.length:Int),ba s).2 (ba r)=ba (Ea (if t.isEmpty then p.start else p.mid) s r):=by
    rw[<-N8];cases t with
    | nil=>rfl
    | cons x t=>rw[Amt (by simp;omega)];rfl
   rw[b];exact Rr p t _
theorem WB(p:Cp)(hp:p.start.length<=2^20/\p.mid.length<=2^20)(c:∀q a b:Ad,q.length<=2^20->a.length<=2^21->b.length<=2^21->(Ea q a b).length<=q.length+a.length+b.length):∀(R:List Ad) (r:Ad),(∀s∈R,s.length<=2^20)->r.length<=2^22->(joinR p R r).length<=2^22
 | [],r,_,h=>h
 | s::t,r,d,h=>by
  rw[joinR];split
  .exact h
  .have f:=d s (by simp);refine WB p hp c t _ (λx e=>d x (by simp[e])) ?_;split
   .exact AvD (c _ _ _ hp.1 (by omega) (by omega)) (by have:=hp.1;omega)
   .exact AvD (c _ _ _ hp.2 (by omega) (by omega)) (by have:=hp.2;omega)
theorem YE(l:List Ad)(n:Nat)(d:n<=l.length):(List.range n).map (Tryz.en (l.map ba) n)=prs (l.take n).reverse:=by
 apply Azx;intro k;rw[VL];have b:(l.take n).length=n:=by simp;omega
 by_cases c:k<n
 .rw[List.getElem?_reverse (by omega),b,List.getElem?_take_of_lt (by omega),A0p,b];have a:n-1-k<l.length:=by omega
  simp[Tryz.en,c,a]
 .rw[A0g (by simp;omega),A0g (by simp;omega)];rfl
theorem pL(p:Cp)(l:List Ad)(hp:p.two.length<=2^20/\p.start.length<=2^20/\p.mid.length<=2^20/\p.fin.length<=2^20)(N:l.length<=1000)(v:∀s∈l,s.length<=2^20)
  (D:∀w,Below O.heap.size O w->∀q a b:Ad,q.length<=2^20->a.length<=2^21->b.length<=2^21->An Tryz.prog w 193 [.s q,.s a,.s b] [] (.s (Ea q a b)) []/\(Ea q a b).length<=q.length+a.length+b.length) :
  An Tryz.prog O 155 [p.enc,.sl (l.map V.s)] [] (.s (Lu p l)) []:=by
 refine Nh (by kernel_rfl) λw F A ⟨μ,H,U,I⟩=>?_;obtain⟨x,y,rfl,E,W⟩:=U.two;rw[Cp.enc_eq] at E;obtain rfl:=AaO E;have f:=λq a b k m r=>(D O (AxE _ _) q a b k m r).2;have u:∀q a b:Ad,q.length<=2^20->a.length<=2^21->b.length<=2^21->Mk NJ O (ba q) (ba a) (ba b):=λq a b k m r=>Z3 k m r λw A=>(D w A q a b k m r).1;have B:∀q x y:ByteArray,q.size<=2^20->x.size<=2^21->y.size<=2^21->Mk NJ O q x y/\(NJ q x y).size<=q.size+x.size+y.size:=by
  intro q x y;obtain⟨q,rfl⟩:∃z,q=ba z:=⟨_,(K9 q).symm⟩
  obtain⟨x,rfl⟩:∃z,x=ba z:=⟨_,(K9 x).symm⟩;obtain⟨y,rfl⟩:∃z,y=ba z:=⟨_,(K9 y).symm⟩;rw[N8,Fd,Fd,Fd,Fd];exact λk m r=>⟨u _ _ _ k m r,f _ _ _ k m r⟩
 have g:∀S:Ad,S.length<=2^22->(Calls Tryz.prog 155 #[.agg #[.string (ba p.style),.string (ba p.two),.string (ba p.start),.string (ba p.mid),.string (ba p.fin)],y] w λe w'=>e=.returned (.string (ba S))/\Below w.heap.size w w')->
   Calls Tryz.prog 155 [Value.agg #[.string (ba p.style),.string (ba p.two),.string (ba p.start),.string (ba p.mid),.string (ba p.fin)],y].toArray w λe w'=>∃val,e=.returned val/\(∀μ H,Aq μ H (.s S) val)/\Below w.heap.size w w':=λS hS h=>h.mono λe w' ⟨K,t⟩=>⟨_,K,λμ H=>.s _ (by unfold Am;omega),t⟩
 rcases AhZ W I with⟨rfl,a,cap,rfl⟩|⟨b,off,cap,rfl,hcap,hz⟩
 .exact g [] (by simp) (Tryz.join_0 w _ _ _ _ _ a cap)
 have t:0<l.length->b<w.heap.size:=λh=>by obtain⟨o,R,_⟩:=cells_of_cell (hz 0 h);exact(AvR.1 R).1
 rcases l with _|⟨a,_|⟨c,_|⟨d,l⟩⟩⟩
 .exact g [] (by simp) (Tryz.join_0 w _ _ _ _ _ _ cap)
 .have G:=v a (by simp);exact g a (by omega) (Tryz.join_1 w _ _ _ _ _ (ba a) b off cap (t (by simp)) (hz 0 (by simp)))
 .have G:=v a (by simp);have k:=v c (by simp);refine g (Ea p.two a c) (by have:=f p.two a c hp.1 (by omega) (by omega);omega) ?_;rw[<-N8];exact Tryz.join_2 NJ O w A _ _ _ _ _ (ba a) (ba c) b off cap (t (by simp)) (hz 0 (by simp)) (hz 1 (by simp)) (u _ _ _ hp.1 (by omega) (by omega))
 .have J:3<=(a::c::d::l).length:=by simp
  have hS:Lu p (a::c::d::l)=joinR p ((a::c::d::l).take ((a::c::d::l).length-2)).reverse (Ea p.fin ((a::c::d::l).getD ((a::c::d::l).length-2) []) ((a::c::d::l).getD ((a::c::d::l).length-1) [])):=rfl;rw[hS];generalize(a::c::d::l)=L at *;have C:∀j:Nat,(L.map ba)[j]?.getD default=ba (L.getD j []):=λj=>by rw[AyO,AtX];cases L[j]?<;>rfl
  have i:∀j:Nat,(L.getD j []).length<=2^20:=λj=>by
   rw[AyO];cases h:L[j]? with
   | none=>simp
   | some s=>exact v s (Au8 h)
  have M:=f p.fin _ _ hp.2.2.2 (AvD (i (L.length-2)) (by decide)) (AvD (i (L.length-1)) (by decide));have Y:=i (L.length-2);have X:=i (L.length-1);refine g _ (WB p ⟨hp.2.1,hp.2.2.1⟩ f _ _ (λs h=>v s (AxL (A0j.1 h))) (by have:=hp.2.2.2;omega)) ?_;refine Tryz.join_in NJ O w A _ _ _ _ _ b off L.length cap N J hcap (L.map ba) (λj=>by rw[C,Fd];exact i j) (by rw[Fd,Fd,Fd];exact⟨hp.2.1,hp.2.2.1,hp.2.2.2⟩) (t (by omega)) hz B _ ?_;rw[C,C,N8,YE L _ (by omega),Rr]
end Go.Ir

namespace Go.Ir
open Go.Proofs
variable(O:World)
theorem Ads i (h:i<2):(AN i).length=3:=by
 have:i=0\/i=1:=by omega
 rcases this with rfl|rfl<;>(unfold AN Lib.decDigits;rfl)
theorem IY:∀(s p:Ad),Lib.index s p=-1\/0<=Lib.index s p/\Lib.index s p+p.length<=s.length
 | [],p=>by unfold Lib.index;grind
 | b::l,p=>by
  unfold Lib.index;split
  .grind
  .split
   .left;rfl
   .rename_i h;right;rcases IY l p with a|⟨a,c⟩
    .grind
    grind
theorem AcV(s p:Ad)(hp:p.length=3)(h:Lib.count s p=1):(Lib.replace s p [0] 1).length<=s.length:=by
 have a:(p==[0])=false:=by grind
 unfold Lib.replace Lib.replaceNum;rw[a];simp only[Agw,AfT,h];have b:¬((1:Int)<0\/((1:Nat):Int)<1):=by omega
 rw[Amt b];show(Lib.replaceK p [0] 1 s).length<=s.length;unfold Lib.replaceK;split
 .omega
 .rename_i d;rcases IY s p with c|⟨c,e⟩
  .grind
  .unfold Lib.replaceK;grind
theorem OK(z:BC O)(s:Ad)(n:Nat)(F:1<=n)(G:n<=2)(B:s.length<=2^20):An π O 147 [.s s,.i .i64 n] [] (.b (Pu s n)) []:=by
 generalize hS:Pu s n=S;unfold Pu at hS;have r:decide ((n:Int)<1)=false:=by simp;omega
 have t:decide ((n:Int)>9)=false:=by simp;omega
 refine Ah (vs:=[.b S]) Aig (by simp) (by simp) λn0 u=>?_;clear u;simp only[push_cast,seval,rq,r,t]
 repeat' (first|(((first|apply Ac|apply Af|apply Ag)<;>intro _h)<;>simp only[push_cast,seval,rq,_h,r,t])|(refine As (by simp only[Aaf,Aa8,Adu,Am]<;>omega) ?_;simp only[push_cast,seval,rq,r,t])|intro _)
 refine Ak n (Inv:=λm st=>∃k q i,m+i=n/\T4 m i q=S/\q.length<=2^20/\st=⟨[(0,.s q),(13,.i .i64 n),(14,.i .i64 (i:Nat))],[],k⟩) ⟨_,Aj.refl,_,s,0,rfl,hS,B,rfl⟩ ?_;clear hS B;rintro m _ ⟨k,q,i,J,f,K,rfl⟩;cases m with
 | zero=>
  rw[T4] at f;subst f;have a:decide ((i:Int)<(n:Int))=false:=by simp;omega
  have D:=i6 O q (by omega);simp only[push_cast,seval,rq,a]
  repeat' (first|(((first|apply Ac|apply Af|apply Ag)<;>intro _h)<;>simp only[push_cast,seval,rq,_h,a])|((first|refine Ab (by exact D) ?_|refine As (by simp only[Aaf,Aa8,Adu,Am]<;>omega) ?_);simp only[push_cast,seval,rq,a])|intro _)
  exact Ae (by simp[get])
 | succ m=>
  have a:decide ((i:Int)<(n:Int))=true:=by simp;omega
  have g:=Ads i (by omega);have o:=Ai4 O i (by omega);have l:=Abg O z q (AN i) (by omega) (by omega);rw[T4] at f;have v:=AcV q (AN i) g;have d:123::Lib.decDigits i++[125]=AN i:=by unfold AN;simp
  have E:(Lib.decDigits i).length=1:=by unfold AN at g;simp at g;omega
  have x:=fun(h:(Lib.replace q (AN i) [0] 1).length<=Am)=>Ng O z q (AN i) [0] 1 (by omega) (by omega) (by simp;omega) h;have j:IntKind.i64.wrap ((i:Int)+1)=((i+1:Nat):Int):=by rw[wrap64 (by omega) (by omega)];omega
  have k1:(1+(Lib.decDigits i).length<=Am)=True:=Amy (by unfold Am;omega);have k2:((123::Lib.decDigits i).length+1<=Am)=True:=Amy (by simp;unfold Am;omega);have c:((Lib.count q (AN i):Int)==1)=(Lib.count q (AN i)==1):=by rw[Axn];simp;omega
  generalize I:AN i=y at *;cases e:(Lib.count q y==1) with
  | true=>
   rw[e] at f;simp only[Agp] at f;have A:=v (by simpa using e);have p:=x (by unfold Am;omega);generalize Lib.replace q y [0] 1=C at *;simp only[push_cast,seval,rq,a,j,k1,k2,d,c,e,bne]
   repeat' (first|(((first|apply Ac|apply Af|apply Ag)<;>intro _h)<;>simp only[push_cast,seval,rq,_h,a,j,k1,k2,d,c,e,bne])|((first|refine Ab (by exact o) ?_|refine Ab (by exact l) ?_|refine Ab (by exact p) ?_|refine As (by simp only[Aaf,Aa8,Adu,Am]<;>omega) ?_);simp only[push_cast,seval,rq,a,j,k1,k2,d,c,e,bne])|intro _)
   exact⟨m,_,Adx _,Aj.refl,_,C,i+1,by omega,f,by omega,by rw[Int.natCast_add];rfl⟩
  | false=>
   rw[e] at f;simp only[AfT,Agw] at f;subst f;simp only[push_cast,seval,rq,a,j,k1,k2,d,c,e,bne]
   repeat' (first|(((first|apply Ac|apply Af|apply Ag)<;>intro _h)<;>simp only[push_cast,seval,rq,_h,a,j,k1,k2,d,c,e,bne])|((first|refine Ab (by exact o) ?_|refine Ab (by exact l) ?_|refine As (by simp only[Aaf,Aa8,Adu,Am]<;>omega) ?_);simp only[push_cast,seval,rq,a,j,k1,k2,d,c,e,bne])|intro _)
   exact Ae (by simp[get])
theorem QN(s p:Ad):(Lib.cut s p).1.length+(Lib.cut s p).2.1.length<=s.length:=by unfold Lib.cut;grind
def AhO:Cp:=⟨[],[],[],[],[]⟩
theorem Abq(L:Ce)(c:Ad)(l:L.lists.length<=2^20):An π O 154 [L.enc,.s c] [] (.tup [((Gr c L.lists).getD AhO).enc,.b (Gr c L.lists).isSome]) []:=by
 generalize hS:Gr c L.lists=S;rw[Ce.enc_eq];refine Ah (vs:=[(S.getD AhO).enc,.b S.isSome]) Ah9 (by simp) (by simp) λn0 h=>?_;clear h;simp only[push_cast,seval,rq]
 repeat' (first|(((first|apply Ac|apply Af|apply Ag)<;>intro _h)<;>simp only[push_cast,seval,rq,_h])|(refine As (by simp only[Aaf,Aa8,Adu,Am]<;>omega) ?_;simp only[push_cast,seval,rq])|intro _)
 rename_i k1 k2;refine Ak L.lists.length (Inv:=λm st=>∃dn a n,L.lists=dn++a/\m=a.length/\Gr c a=S/\st=⟨[(1,.s c),(4,.ref (n0,4) 0),(9,.sl (L.lists.map Cp.enc)),(10,.i .i64 L.lists.length),(11,.i .i64 dn.length)],[((n0,4),.box (.agg [.s [],.s [],.s [],.s [],.s []]))],n⟩) ⟨_,Aj.pre (σ:=[_]) (AfJ _),[],L.lists,_,rfl,rfl,hS,rfl⟩ ?_;clear hS;rintro m _ ⟨dn,a,n,f,rfl,d,rfl⟩;cases a with
 | nil=>
  rw[Gr] at d;subst d;simp only[push_cast,seval,rq,f]
  repeat' (first|(((first|apply Ac|apply Af|apply Ag)<;>intro _h)<;>simp only[push_cast,seval,rq,_h])|(refine As (by simp only[Aaf,Aa8,Adu,Am]<;>omega) ?_;simp only[push_cast,seval,rq])|intro _)
  refine Ai ?_;simp[push_cast,get,AhO]
 | cons p a=>
  have j:=Ay f;rw[Gr] at d;have g:∀k:Nat,(((n+1+k,7):Id)=(n0,4))=False:=λk=>by simp
  cases e:(p.style==c) with
  | true=>
   rw[e] at d;simp only[Agp] at d;subst d;simp only[push_cast,seval,rq,f,Aa p (dn:=dn) (by omega),g,e]
   repeat' (first|(((first|apply Ac|apply Af|apply Ag)<;>intro _h)<;>simp only[push_cast,seval,rq,_h,f,Aa p (dn:=dn) (by omega),g,e])|(refine As (by simp only[Aaf,Aa8,Adu,Am]<;>omega) ?_;simp only[push_cast,seval,rq,f,Aa p (dn:=dn) (by omega),g,e])|intro _)
   refine Ai ?_;simp[push_cast,get]
  | false=>
   rw[e] at d;simp only[AfT,Agw] at d;simp only[push_cast,seval,rq,f,Aa p (dn:=dn) (by omega),g,e]
   repeat' (first|(((first|apply Ac|apply Af|apply Ag)<;>intro _h)<;>simp only[push_cast,seval,rq,_h,f,Aa p (dn:=dn) (by omega),g,e])|(refine As (by simp only[Aaf,Aa8,Adu,Am]<;>omega) ?_;simp only[push_cast,seval,rq,f,Aa p (dn:=dn) (by omega),g,e])|intro _)
   exact⟨_,_,Adx _,Aj.drop1 (by simp[lk]) (AfJ _),dn++[p],a,_,by simp,rfl,d,rfl⟩
theorem Ai0(j:BC O)(p a b:Ad)(hp:p.length<=2^20)(q:a.length<=2^21)(r:b.length<=2^21):An π O 193 [.s p,.s a,.s b] [] (.s (Ea p a b)) []/\(Ea p a b).length<=p.length+a.length+b.length:=by
 have e0:AN 0=[123,48,125]:=by unfold AN Lib.decDigits;rfl
 have m:AN 1=[123,49,125]:=by unfold AN Lib.decDigits;rfl
 have i:=US O j p (AN 0) (by omega);have o:=QN p (AN 0);have d:=US O j (Lib.cut p (AN 0)).1 (AN 1) (by omega);have l1:=QN (Lib.cut p (AN 0)).1 (AN 1);have f:=US O j (Lib.cut p (AN 0)).2.1 (AN 1) (by omega);have l:=QN (Lib.cut p (AN 0)).2.1 (AN 1);generalize hS:Ea p a b=S;unfold Ea at hS;rw[e0] at i o d l1 f l hS;rw[m] at d l1 f l hS;generalize Lib.cut p [123,48,125]=e at *;generalize Lib.cut e.1 [123,49,125]=g at *;generalize Lib.cut e.2.1 [123,49,125]=k at *;cases h:g.2.2 with
 | true=>
  rw[h] at d hS;simp only[Agp] at hS;subst hS;refine⟨?_,by simp only[Aaf];omega⟩;refine Ah (vs:=[.s (g.1++b++g.2.1++a++e.2.1)]) xS (by simp) (by simp) λn0 c=>?_;clear c;simp only[push_cast,seval,rq]
  repeat' (first|(((first|apply Ac|apply Af|apply Ag)<;>intro _h)<;>simp only[push_cast,seval,rq,_h])|((first|refine Ab (by exact i) ?_|refine Ab (by exact d) ?_|refine Ab (by exact f) ?_|refine As (by simp only[Aaf,Aa8,Adu,Am]<;>omega) ?_);simp only[push_cast,seval,rq])|intro _)
  exact Ae (by simp[get])
 | false=>
  rw[h] at d hS;simp only[AfT,Agw] at hS;subst hS;refine⟨?_,by simp only[Aaf];omega⟩;refine Ah (vs:=[.s (e.1++a++k.1++b++k.2.1)]) xS (by simp) (by simp) λn0 c=>?_;clear c;simp only[push_cast,seval,rq]
  repeat' (first|(((first|apply Ac|apply Af|apply Ag)<;>intro _h)<;>simp only[push_cast,seval,rq,_h])|((first|refine Ab (by exact i) ?_|refine Ab (by exact d) ?_|refine Ab (by exact f) ?_|refine As (by simp only[Aaf,Aa8,Adu,Am]<;>omega) ?_);simp only[push_cast,seval,rq])|intro _)
  exact Ae (by simp[get])
structure AeE (L:Ce):Prop where
 n:L.lists.length<=2^20
 t:∀p∈L.lists,p.two.length<=2^20/\p.start.length<=2^20/\p.mid.length<=2^20/\p.fin.length<=2^20
theorem Oq{st}:∀{l p},Gr st l=some p->p∈l
 | [],p,h=>by cases h
 | x::l,p,h=>by
  rw[Gr] at h;split at h
  .cases h;simp
  .exact Ae0 _ (Oq h)
theorem Aci(f:BC O) p l (hp:p.two.length<=2^20/\p.start.length<=2^20/\p.mid.length<=2^20/\p.fin.length<=2^20)(g:l.length<=1000)(h:∀s∈l,s.length<=2^20):An π O 155 [p.enc,.sl (l.map V.s)] [] (.s (Lu p l)) []:=by exact pL O p l hp g h (λw i q a b c d e=>Ai0 w (Fc f i) q a b c d e)
theorem Zr(F:BC O) L (E:AeE L)(c:Ad) l (N:l.length<=2^30)(x:∀s∈l,s.length<=2^20):An π O 112 [L.enc,.s c,.sl (l.map V.s)] [] (.tup [.s (E3 L c l).1,.i .i64 (E3 L c l).2]) []:=by
 have k:=Abq O L c E.n;generalize hS:E3 L c l=S;unfold E3 at hS;rw[Ce.enc_eq] at k⊢;cases A:Gr c L.lists with
 | none=>
  rw[A] at k hS;simp only[A04,Aya] at k;simp only at hS;subst hS;refine Ah (vs:=[.s [],.i .i64 18]) yT (by simp) (by simp) λn0 q=>?_;clear q;simp only[push_cast,seval,rq]
  repeat' (first|(((first|apply Ac|apply Af|apply Ag)<;>intro _h)<;>simp only[push_cast,seval,rq,_h])|((first|refine Ab (by exact k) ?_|refine As (by simp only[Aaf,Aa8,Adu,Am]<;>omega) ?_);simp only[push_cast,seval,rq])|intro _)
  refine Ai ?_;simp[push_cast,get]
 | some p=>
  have D:=E.t p (Oq A);rw[A] at k hS;simp only[Option.getD_some,AvN] at k;simp only at hS;have v:=λh=>Aci O F p l D h x;generalize Lu p l=y at *;rw[Cp.enc_eq] at k v;have o:wH p=[p.two,p.start,p.mid,p.fin].all λs=>Pu s 2:=rfl;obtain⟨Q,r⟩:∃Q,Q=[p.two,p.start,p.mid,p.fin]:=⟨_,rfl⟩
  have C:∀s∈Q,s.length<=2^20:=by rw[r];intro s x;simp at x;rcases x with rfl|rfl|rfl|rfl<;>omega
  have B:Q.length=4:=by rw[r];rfl
  have u:Q.map V.s=[.s p.two,.s p.start,.s p.mid,.s p.fin]:=by rw[r];rfl
  rw[<-r] at o;generalize wH p=M at *;clear r;refine Ah (vs:=[.s S.1,.i .i64 S.2]) yT (by simp) (by simp) λn0 q=>?_;clear q;simp only[push_cast,seval,rq]
  repeat' (first|(((first|apply Ac|apply Af|apply Ag)<;>intro _h)<;>simp only[push_cast,seval,rq,_h])|((first|refine Ab (by exact k) ?_|refine As (by simp only[Aaf,Aa8,Adu,Am]<;>omega) ?_);simp only[push_cast,seval,rq])|intro _)
  rename_i k1 k2 k3 R;have j:(4:Int)=(Q.length:Int):=by rw[B];rfl
  generalize K:((n0+1+k1,8):Id)=I;refine Ak Q.length (Inv:=λm st=>∃dn a n,Q=dn++a/\m=a.length/\(if a.all (λs=>Pu s 2) then(if(l.length:Int)>1000 then(([]:Ad),(6:Int)) else if(y.length:Int)>20000 then([],6) else(y,0)) else([],4))=S/\st=⟨[(2,.sl (l.map V.s)),(8,.ref I 0),(29,.sl (Q.map V.s)),(30,.i .i64 Q.length),(31,.i .i64 dn.length)],[(I,.box (.agg [.s p.style,.s p.two,.s p.start,.s p.mid,.s p.fin]))],n⟩) ⟨_,Aj.pre (σ:=[_]) (AfJ _),[],Q,_,rfl,rfl,by rw[<-o];exact hS,by rw[u,<-j];rfl⟩ ?_;clear hS o u j;rintro m _ ⟨dn,a,n,e,rfl,b,rfl⟩;cases a with
  | nil=>
   simp only[Az0,Agp] at b;cases d:decide ((l.length:Int)>1000) with
   | true=>
    rw[Aiv (AuL d)] at b;subst b;simp only[push_cast,seval,rq,d,e]
    repeat' (first|(((first|apply Ac|apply Af|apply Ag)<;>intro _h)<;>simp only[push_cast,seval,rq,_h,d])|(refine As (by simp only[Aaf,Aa8,Adu,Am]<;>omega) ?_;simp only[push_cast,seval,rq,d])|intro _)
    refine Ai ?_;simp[push_cast,get]
   | false=>
    have z:=AuU d;rw[Amt z] at b;have G:=v (by omega);cases g:decide ((y.length:Int)>20000) with
    | true=>
     rw[Aiv (AuL g)] at b;subst b;simp only[push_cast,seval,rq,d,g,e]
     repeat' (first|(((first|apply Ac|apply Af|apply Ag)<;>intro _h)<;>simp only[push_cast,seval,rq,_h,d,g])|((first|refine Ab (by exact G) ?_|refine As (by simp only[Aaf,Aa8,Adu,Am]<;>omega) ?_);simp only[push_cast,seval,rq,d,g])|intro _)
     refine Ai ?_;simp[push_cast,get]
    | false=>
     rw[Amt (AuU g)] at b;subst b;simp only[push_cast,seval,rq,d,g,e]
     repeat' (first|(((first|apply Ac|apply Af|apply Ag)<;>intro _h)<;>simp only[push_cast,seval,rq,_h,d,g])|((first|refine Ab (by exact G) ?_|refine As (by simp only[Aaf,Aa8,Adu,Am]<;>omega) ?_);simp only[push_cast,seval,rq,d,g])|intro _)
     refine Ai ?_;simp[push_cast,get]
  | cons s a=>
   have J:=Ay e;have f:=OK O F s 2 (by omega) (by omega) (C s (by rw[e];simp));rw[Ax5] at b;cases hB:Pu s 2 with
   | true=>
    rw[hB] at b f;simp only[Amq] at b;simp only[push_cast,seval,rq,e,Aa s (dn:=dn) (by omega)]
    repeat' (first|(((first|apply Ac|apply Af|apply Ag)<;>intro _h)<;>simp only[push_cast,seval,rq,_h,e,Aa s (dn:=dn) (by omega)])|((first|refine Ab (by exact f) ?_|refine As (by simp only[Aaf,Aa8,Adu,Am]<;>omega) ?_);simp only[push_cast,seval,rq,e,Aa s (dn:=dn) (by omega)])|intro _)
    exact⟨_,_,Adx _,Aj.refl,dn++[s],a,_,by simp,rfl,b,rfl⟩
   | false=>
    rw[hB] at b f;simp only[Amr,Agw,AfT] at b;subst b;simp only[push_cast,seval,rq,e,Aa s (dn:=dn) (by omega)]
    repeat' (first|(((first|apply Ac|apply Af|apply Ag)<;>intro _h)<;>simp only[push_cast,seval,rq,_h,e,Aa s (dn:=dn) (by omega)])|((first|refine Ab (by exact f) ?_|refine As (by simp only[Aaf,Aa8,Adu,Am]<;>omega) ?_);simp only[push_cast,seval,rq,e,Aa s (dn:=dn) (by omega)])|intro _)
    refine Ai ?_;simp[push_cast,get]
def J9(l:List (Ad×Ad×Ad)):List (V×V):=l.map λe=>(.agg [.s e.1,.s e.2.1],.s e.2.2)
def UK:DX:=.st [(0,.str),(1,.str)]
def FA(u c:Ad):List (Ad×Ad×Ad)->Option Ad
 | []=>none
 | e::l=>if u==e.1&&c==e.2.1 then some e.2.2 else FA u c l
theorem UG u c:∀(l) (n),(∃i p,FA u c l=some p/\Bp UK (.agg [.s u,.s c]) (J9 l) n=some (some (i,.s p)))\/(FA u c l=none/\Bp UK (.agg [.s u,.s c]) (J9 l) n=some none):=by
 intro l
 induction l with
 | nil=>intro n;right;exact⟨rfl,rfl⟩
 | cons e l d=>
  intro n;have a:EH UK (.agg [.s u,.s c]) (.agg [.s e.1,.s e.2.1])=some (u==e.1&&c==e.2.1):=by unfold UK EH;simp only[Aa8,Adu,and_self,Agp,zH,Azu,AxR,DR];cases(u==e.1)<;>cases(c==e.2.1)<;>rfl
  have b:Bp UK (.agg [.s u,.s c]) (J9 (e::l)) n=(match EH UK (.agg [.s u,.s c]) (.agg [.s e.1,.s e.2.1]) with
   | some true=>some (some (n,.s e.2.2))
   | some false=>Bp UK (.agg [.s u,.s c]) (J9 l) (n+1)
   | none=>none):=rfl
  rw[b,a,FA];grind
def Qb(l:List (Ad×Ad×Ad))(x:De):List (Ad×Ad×Ad):=match FA x.unit x.cls l with
 | some _=>l
 | none=>l++[(x.unit,x.cls,x.pat)]
theorem aG u c l e:FA u c (l++[e])=match FA u c l with
  | some p=>some p
  | none=>if u==e.1&&c==e.2.1 then some e.2.2 else none:=by
 induction l with
 | nil=>rfl
 | cons x l a=>rw[AsT,FA,FA];grind
theorem MS u c:∀(us) (l),FA u c (us.foldl Qb l)=match FA u c l with
  | some p=>some p
  | none=>I0 u c us:=by
 intro us
 induction us with
 | nil=>intro l;simp only[List.foldl_nil,I0];split<;>simp_all
 | cons x us b=>
  intro l;rw[AzY,b,I0];have a:(x.unit==u&&x.cls==c)=(u==x.unit&&c==x.cls):=by grind
  rw[a];unfold Qb;cases d:FA x.unit x.cls l with
  | some p=>grind
  | none=>simp only;rw[aG];grind
theorem Km l u c p:J9 l++[(.agg [.s u,.s c],.s p)]=J9 (l++[(u,c,p)]):=by simp[J9]
theorem Ahx(L:Ce)(z:L.units.length<=2^20):HB π O 181 [L.enc] [] (.map (J9 (L.units.foldl Qb []))) []:=by
 generalize hS:L.units.foldl Qb []=S;rw[Ce.enc_eq];refine P2 (s:=2) Aio (by simp) (by simp[lk]) λn0 x=>?_;clear x;simp only[push_cast,seval,rq]
 repeat' (first|(((first|apply Ac|apply Af|apply Ag)<;>intro _h)<;>simp only[push_cast,seval,rq,_h])|(refine As (by simp only[Aaf,Aa8,Adu,Am]<;>omega) ?_;simp only[push_cast,seval,rq])|intro _)
 rename_i k1 k2 k3;generalize t:((n0+1+k1,9):Id)=mid;have r:mid.1<n0+1+k1+1+k2+1+k3:=by rw[<-t];simp only;omega
 generalize n0+1+k1+1+k2+1+k3=A at *;refine Ak L.units.length (Inv:=λm st=>∃dn b n M,L.units=dn++b/\m=b.length/\b.foldl Qb M=S/\mid.1<n/\st=⟨[(3,.arr mid),(11,.sl (L.units.map De.enc)),(12,.i .i64 L.units.length),(13,.i .i64 dn.length)],[(mid,.map (J9 M))],n⟩) ⟨_,Aj.drop (λi e h=>BA (τ:=[_]) h) (AfJ _),[],L.units,_,[],rfl,rfl,hS,r,rfl⟩ ?_;clear hS r;rintro m _ ⟨dn,b,n,M,o,rfl,g,v,rfl⟩;cases b with
 | nil=>simp only[List.foldl_nil] at g;subst g;simp only[push_cast,seval,rq,o];intros;exact Aat rfl (by simp[lk])
 | cons u b=>
  have y:=Ay o;rw[AzY] at g;have f:∀k j,(mid=(n+1+k,j))=False:=λk j=>Amp λq=>by rw[q] at v;simp at v;omega
  have d:∀k j,((n+1+k,j)=mid)=False:=λk j=>Amp λq=>Axj (f k j) q.symm;have c:∀k l j,(mid=(n+1+k+1+l,j))=False:=λk l j=>Amp λq=>by rw[q] at v;simp at v;omega
  have a:∀k l j,((n+1+k+1+l,j)=mid)=False:=λk l j=>Amp λq=>Axj (c k l j) q.symm;unfold Qb at g;rcases UG u.unit u.cls M 0 with⟨i,p,h1,h2⟩|⟨h1,h2⟩
  .rw[h1] at g;simp only at g;unfold UK at h2;simp only[push_cast,seval,rq,o,Aa u (dn:=dn) (by omega),h2,f,d,c,a]
   repeat' (first|(((first|apply Ac|apply Af|apply Ag)<;>intro _h)<;>simp only[push_cast,seval,rq,_h,o,Aa u (dn:=dn) (by omega),h2,f,d,c,a])|(refine As (by simp only[Aaf,Aa8,Adu,Am]<;>omega) ?_;simp only[push_cast,seval,rq,o,Aa u (dn:=dn) (by omega),h2,f,d,c,a])|intro _)
   exact⟨_,_,Adx _,Aj.drop (λi e h=>by obtain⟨rfl,rfl⟩:=Yi h;simp[lk,d,a]) (AfJ _),dn++[u],b,_,_,by simp,rfl,g,by omega,rfl⟩
  .rw[h1] at g;simp only at g;unfold UK at h2;simp only[push_cast,seval,rq,o,Aa u (dn:=dn) (by omega),h2,f,d,c,a,Km]
   repeat' (first|(((first|apply Ac|apply Af|apply Ag)<;>intro _h)<;>simp only[push_cast,seval,rq,_h,o,Aa u (dn:=dn) (by omega),h2,f,d,c,a,Km])|(refine As (by simp only[Aaf,Aa8,Adu,Am]<;>omega) ?_;simp only[push_cast,seval,rq,o,Aa u (dn:=dn) (by omega),h2,f,d,c,a,Km])|intro _)
   exact⟨_,_,Adx _,Aj.drop (λi e h=>by obtain⟨rfl,rfl⟩:=Yi h;simp[lk,d,a]) (AfJ _),dn++[u],b,_,_,by simp,rfl,g,by omega,rfl⟩
theorem tG L u c:HL L u c=match FA u c (L.units.foldl Qb []) with
  | some p=>some p
  | none=>FA u [111,116,104,101,114] (L.units.foldl Qb []):=by
 unfold HL;rw[MS,MS];rfl
theorem AbF L (u c:Ad)(g:L.units.length<=2^20):An π O 146 [L.enc,.s u,.s c] [] (.tup [.s ((HL L u c).getD []),.b (HL L u c).isSome]) []:=by
 have hp:=Ahx O L g;generalize hS:HL L u c=S;rw[tG] at hS;generalize L.units.foldl Qb []=M at *;rw[Ce.enc_eq] at hp⊢;have d:=UG u c M 0;have f:=UG u [111,116,104,101,114] M 0;unfold UK at d f;refine Ah (vs:=[.s (S.getD []),.b S.isSome]) Ajg (by simp) (by simp) λn0 a=>?_;clear a;simp only[push_cast,seval,rq];intro k1;refine PX hp (λi e h=>by simp[lk] at h) ?_;rw[FU];rcases d with⟨i,p,h1,h2⟩|⟨h1,h2⟩
 .rw[h1] at hS;simp only at hS;subst hS;simp only[push_cast,seval,rq,h2]
  repeat' (first|(((first|apply Ac|apply Af|apply Ag)<;>intro _h)<;>simp only[push_cast,seval,rq,_h,h2])|(refine As (by simp only[Aaf,Aa8,Adu,Am]<;>omega) ?_;simp only[push_cast,seval,rq,h2])|intro _)
  refine Ai ?_;simp[push_cast,get]
 .rw[h1] at hS;simp only at hS;rcases f with⟨i,p,h3,h4⟩|⟨h3,h4⟩
  .rw[h3] at hS;subst hS;simp only[push_cast,seval,rq,h2,h4]
   repeat' (first|(((first|apply Ac|apply Af|apply Ag)<;>intro _h)<;>simp only[push_cast,seval,rq,_h,h2,h4])|(refine As (by simp only[Aaf,Aa8,Adu,Am]<;>omega) ?_;simp only[push_cast,seval,rq,h2,h4])|intro _)
   refine Ai ?_;simp[push_cast,get]
  .rw[h3] at hS;subst hS;simp only[push_cast,seval,rq,h2,h4]
   repeat' (first|(((first|apply Ac|apply Af|apply Ag)<;>intro _h)<;>simp only[push_cast,seval,rq,_h,h2,h4])|(refine As (by simp only[Aaf,Aa8,Adu,Am]<;>omega) ?_;simp only[push_cast,seval,rq,h2,h4])|intro _)
   refine Ai ?_;simp[push_cast,get]
structure Yj (L:Ce):Prop where
 n:L.units.length<=2^20
 p:∀u∈L.units,u.pat.length<=2^16
theorem KI{u c}:∀{l p},I0 u c l=some p->∃x∈l,x.pat=p
 | [],p,h=>by cases h
 | x::l,p,h=>by
  rw[I0] at h;split at h
  .grind
  .have ⟨y,h1,h2⟩:=KI h;grind
theorem OH{L}(b:Yj L){u c p}(h:HL L u c=some p):p.length<=2^16:=by
 unfold HL at h;split at h
 .rename_i q d;cases h;obtain⟨x,a,rfl⟩:=KI d;exact b.p x a
 .obtain⟨x,a,rfl⟩:=KI h;exact b.p x a
theorem Gy L (a:Lp L) n st (b:n.length<=2^30):(Cw L n st).1.length<=2^23+2^19:=by
 have l1:=Ew L a (CU n).1 (Ko n);have d:=Ew L a (CZ n).1 (Kw n);have e:=a.perc;unfold Cw;cases hB:DA n with
 | false=>simp
 | true=>have c:=Ew L a n (P0 hB);grind
def E4(L:Ce)(u n:Ad):Ad×Int:=
 if(Dh L.card n).2==0 then
  match HL L u (Dh L.card n).1 with
  | none=>([],18)
  | some p=>if Pu p 1 then(if(Cw L n []).2==0 then(Lib.replace p [123,48,125] (Cw L n []).1 1,0) else([],(Cw L n []).2)) else([],4)
 else([],(Dh L.card n).2)
theorem Rx(s p t:Ad):(Lib.replace s p t 1).length<=s.length+t.length:=by
 have c:∀s,(Lib.replaceK p t 1 s).length<=s.length+t.length:=by
  intro s;unfold Lib.replaceK;split
  .omega
  .rename_i d;rcases IY s p with b|⟨b,e⟩
   .grind
   .unfold Lib.replaceK;grind
 unfold Lib.replace Lib.replaceNum;split
 .omega
 .split
  .rename_i h;have a:Lib.count s p=0:=by omega
   rw[a];unfold Lib.replaceK;omega
  .exact c s
theorem Zn(t:BC O) L (r:Lp L)(v:Yj L)(u n:Ad)(h:n.length<=2^30)(z:A9 L.card<=2^30):An π O 110 [L.enc,.s u,.s n] [] (.tup [.s (E4 L u n).1,.i .i64 (E4 L u n).2]) []:=by
 have e:=Xc O L.card n h z;have g:=AbF O L u (Dh L.card n).1 v.n;have f:=MQ O L r n [] h;have j:=Gy L r n [] h;have m:=@OH L v u (Dh L.card n).1;generalize hS:E4 L u n=S;unfold E4 at hS;generalize Dh L.card n=C at *;generalize Cw L n []=N at *;generalize HL L u C.1=U at *;rw[Ce.enc_eq] at *;obtain⟨B,q⟩:=C;obtain⟨o,x⟩:=N;simp only at *;cases b:(q==0) with
 | false=>
  rw[b] at hS;simp only[Agw,AfT] at hS;subst hS;refine Ah (vs:=[.s [],.i .i64 q]) N5 (by simp) (by simp) λn0 a=>?_;clear a;simp only[push_cast,seval,rq,bne,b]
  repeat' (first|(((first|apply Ac|apply Af|apply Ag)<;>intro _h)<;>simp only[push_cast,seval,rq,_h,bne,b])|((first|refine Ab (by exact e) ?_|refine As (by simp only[Aaf,Aa8,Adu,Am]<;>omega) ?_);simp only[push_cast,seval,rq,bne,b])|intro _)
  refine Ai ?_;simp[push_cast,get]
 | true=>
  rw[b] at hS;simp only[Agp] at hS;cases U with
  | none=>
   simp only at hS;subst hS;refine Ah (vs:=[.s [],.i .i64 18]) N5 (by simp) (by simp) λn0 a=>?_;clear a;simp only[push_cast,seval,rq,bne,b,A04,Aya]
   repeat' (first|(((first|apply Ac|apply Af|apply Ag)<;>intro _h)<;>simp only[push_cast,seval,rq,_h,bne,b,A04,Aya])|((first|refine Ab (by exact e) ?_|refine Ab (by exact g) ?_|refine As (by simp only[Aaf,Aa8,Adu,Am]<;>omega) ?_);simp only[push_cast,seval,rq,bne,b,A04,Aya])|intro _)
   refine Ai ?_;simp[push_cast,get]
  | some p=>
   have k:=m rfl;have c:=OK O t p 1 (by omega) (by omega) (by omega);have A:=Rx p [123,48,125] o;have l:=Ng O t p [123,48,125] o 1 (by omega) (by simp) (AvD (A0M k j) (by omega)) (by unfold Am;omega);simp only at hS;cases hB:Pu p 1 with
   | false=>
    rw[hB] at hS c;simp only[Agw,AfT] at hS;subst hS;refine Ah (vs:=[.s [],.i .i64 4]) N5 (by simp) (by simp) λn0 a=>?_;clear a;simp only[push_cast,seval,rq,bne,b,Option.getD_some,AvN]
    repeat' (first|(((first|apply Ac|apply Af|apply Ag)<;>intro _h)<;>simp only[push_cast,seval,rq,_h,bne,b,Option.getD_some,AvN])|((first|refine Ab (by exact e) ?_|refine Ab (by exact g) ?_|refine Ab (by exact c) ?_|refine As (by simp only[Aaf,Aa8,Adu,Am]<;>omega) ?_);simp only[push_cast,seval,rq,bne,b,Option.getD_some,AvN])|intro _)
    refine Ai ?_;simp[push_cast,get]
   | true=>
    rw[hB] at hS c;simp only[Agp] at hS;cases d:(x==0) with
    | false=>
     rw[d] at hS;simp only[Agw,AfT] at hS;subst hS;refine Ah (vs:=[.s [],.i .i64 x]) N5 (by simp) (by simp) λn0 a=>?_;clear a;simp only[push_cast,seval,rq,bne,b,d,Option.getD_some,AvN]
     repeat' (first|(((first|apply Ac|apply Af|apply Ag)<;>intro _h)<;>simp only[push_cast,seval,rq,_h,bne,b,d,Option.getD_some,AvN])|((first|refine Ab (by exact e) ?_|refine Ab (by exact g) ?_|refine Ab (by exact c) ?_|refine Ab (by exact f) ?_|refine As (by simp only[Aaf,Aa8,Adu,Am]<;>omega) ?_);simp only[push_cast,seval,rq,bne,b,d,Option.getD_some,AvN])|intro _)
     refine Ai ?_;simp[push_cast,get]
    | true=>
     rw[d] at hS;simp only[Agp] at hS;subst hS;generalize Lib.replace p [123,48,125] o 1=y at *;refine Ah (vs:=[.s y,.i .i64 0]) N5 (by simp) (by simp) λn0 a=>?_;clear a;simp only[push_cast,seval,rq,bne,b,d,Option.getD_some,AvN]
     repeat' (first|(((first|apply Ac|apply Af|apply Ag)<;>intro _h)<;>simp only[push_cast,seval,rq,_h,bne,b,d,Option.getD_some,AvN])|((first|refine Ab (by exact e) ?_|refine Ab (by exact g) ?_|refine Ab (by exact c) ?_|refine Ab (by exact f) ?_|refine Ab (by exact l) ?_|refine As (by simp only[Aaf,Aa8,Adu,Am]<;>omega) ?_);simp only[push_cast,seval,rq,bne,b,d,Option.getD_some,AvN])|intro _)
     refine Ai ?_;simp[push_cast,get]
def Ti(k t:Int):Bool:=if k==2 then !(t==4) else if k==5 then t==3 else if k==6 then t==4 else t==2
theorem Ahv k (v:Cg):An π O 109 [.i .i64 k,v.enc] [] (.b (Ti k v.type)) []:=by
 generalize hS:Ti k v.type=S;unfold Ti at hS;rw[Cg.enc_eq];refine Ah (vs:=[.b S]) AlQ (by simp) (by simp) λn0 e=>?_;clear e;simp only[push_cast,seval,rq,bne]
 all_goals (cases a:(k==2)<;>cases c:(k==5)<;>cases d:(k==6))
 all_goals ((try simp only[a,c,d,bq,Agp,AfT,rb,reduceCtorEq] at hS);subst hS)
 all_goals (try simp only[push_cast,seval,rq,a,c,d,bne])
 all_goals (repeat' (first|((first|refine As (by simp only[Aaf,Aa8,Adu,Am]<;>omega) ?_);(try simp only[push_cast,seval,rq,a,c,d,bne]))|intro _))
 all_goals (first|(refine Ae ?_;simp[get];done)|(refine Ai ?_;simp[push_cast,get];done)|skip)
def Lw(L:Ce)(k:Int)(st:Ad)(v:Cg):Ad×Int:=
 if k<2||k>6 then([],1) else if !(Le v&&Ti k v.type) then([],11)
 else if k==3 then Cw L v.text st else if k==4 then E4 L st v.text else if k==5 then DP L st v.date else if k==6 then E3 L st v.list
 else if !(v.type==3) then(v.text,0) else if CR v.date==[] then([],2) else(CR v.date,0)
structure kB (L:Ce) (c:Nat):Prop where
 sym:Lp L
 uni:Yj L
 lst:AeE L
 dat:oZ L c
 card:A9 L.card<=2^30
structure W4 (v:Cg):Prop where
 text:v.text.length<=2^30
 len:v.list.length<=2^30
 list:∀s∈v.list,s.length<=2^20
theorem Ud(z:BC O)(A:Ca O)(L:Ce)(c:Nat)(m:kB L c)(x:Al)(v:Cg)(o:W4 v)(K:x.style.length<=2^24):An π O 74 [L.enc,x.enc,v.enc] [] (.tup [.s (Lw L x.kind x.style v).1,.i .i64 (Lw L x.kind x.style v).2]) []:=by
 have p:=Om O v o.text;have q:=Ahv O x.kind v;have r:=MQ O L m.sym v.text x.style o.text;have t:=Zn O z L m.sym m.uni x.style v.text o.text m.card;have u:=YD O A L c m.dat x.style v.date K;have y:=Zr O z L m.lst x.style v.list o.len o.list;have J:=(Mh O A v.date).1;generalize hS:Lw L x.kind x.style v=S;unfold Lw at hS;rw[Cg.enc_eq] at p q⊢;rw[Ce.enc_eq] at r t u y⊢;rw[Al.enc_eq];generalize x.kind=k at *;generalize x.style=st at *;generalize CR v.date=B at *;generalize Cw L v.text st=E at *;generalize E4 L st v.text=F at *;generalize DP L st v.date=G at *;generalize E3 L st v.list=I at *;obtain⟨N,W⟩:=E;obtain⟨R,X⟩:=F;obtain⟨U,Y⟩:=G;obtain⟨V,Z⟩:=I;simp only at r t u y;generalize Le v=D at *;generalize M:Ti k v.type=C at *;cases b:decide (k<2) with
 | true=>
  rw[b] at hS;simp only[Atd,Agp] at hS;subst hS;refine Ah (vs:=[.s [],.i .i64 1]) Rn (by simp) (by simp) λn0 a=>?_;clear a;simp only[push_cast,seval,rq,b]
  repeat' (first|(((first|apply Ac|apply Af|apply Ag)<;>intro _h)<;>simp only[push_cast,seval,rq,_h,b])|(refine As (by simp only[Aaf,Aa8,Adu,Am]<;>omega) ?_;simp only[push_cast,seval,rq,b])|intro _)
  refine Ai ?_;simp[push_cast,get]
 | false=>
  cases d:decide (k>6) with
  | true=>
   rw[b,d] at hS;simp only[Atc,Agp] at hS;subst hS;refine Ah (vs:=[.s [],.i .i64 1]) Rn (by simp) (by simp) λn0 a=>?_;clear a;simp only[push_cast,seval,rq,b,d]
   repeat' (first|(((first|apply Ac|apply Af|apply Ag)<;>intro _h)<;>simp only[push_cast,seval,rq,_h,b,d])|(refine As (by simp only[Aaf,Aa8,Adu,Am]<;>omega) ?_;simp only[push_cast,seval,rq,b,d])|intro _)
   refine Ai ?_;simp[push_cast,get]
  | false=>
   rw[b,d] at hS;simp only[AsM,Agw,AfT] at hS;cases D with
   | false=>
    simp only[Amr,Ain,Agp] at hS;subst hS;refine Ah (vs:=[.s [],.i .i64 11]) Rn (by simp) (by simp) λn0 a=>?_;clear a;simp only[push_cast,seval,rq,b,d]
    repeat' (first|(((first|apply Ac|apply Af|apply Ag)<;>intro _h)<;>simp only[push_cast,seval,rq,_h,b,d])|((first|refine Ab (by exact p) ?_|refine As (by simp only[Aaf,Aa8,Adu,Am]<;>omega) ?_);simp only[push_cast,seval,rq,b,d])|intro _)
    refine Ai ?_;simp[push_cast,get]
   | true=>
    cases C with
    | false=>
     simp only[Am0,Ain,Agp] at hS;subst hS;refine Ah (vs:=[.s [],.i .i64 11]) Rn (by simp) (by simp) λn0 a=>?_;clear a;simp only[push_cast,seval,rq,b,d]
     repeat' (first|(((first|apply Ac|apply Af|apply Ag)<;>intro _h)<;>simp only[push_cast,seval,rq,_h,b,d])|((first|refine Ab (by exact p) ?_|refine Ab (by exact q) ?_|refine As (by simp only[Aaf,Aa8,Adu,Am]<;>omega) ?_);simp only[push_cast,seval,rq,b,d])|intro _)
     refine Ai ?_;simp[push_cast,get]
    | true=>
     simp only[AmS,Amo,Agw,AfT] at hS;refine Ah (vs:=[.s S.1,.i .i64 S.2]) Rn (by simp) (by simp) λn0 a=>?_;clear a;simp only[push_cast,seval,rq,b,d,bne]
     all_goals (cases e:(k==3)<;>cases f:(k==4)<;>cases g:(k==5)<;>cases h:(k==6)<;>cases j:(v.type==3)<;>cases l:(B==[]))
     all_goals ((try simp only[e,f,g,h,j,l,bq,Agp,AfT,rb,reduceCtorEq] at hS);subst hS)
     all_goals (try simp only[push_cast,seval,rq,e,f,g,h,j,l,b,d,bne])
     all_goals (repeat' (first|((first|refine Ab (by exact p) ?_|refine Ab (by exact q) ?_|refine Ab (by exact r) ?_|refine Ab (by exact t) ?_|refine Ab (by exact u) ?_|refine Ab (by exact y) ?_|refine Ab (by exact J) ?_|refine As (by simp only[Aaf,Aa8,Adu,Am]<;>omega) ?_);(try simp only[push_cast,seval,rq,e,f,g,h,j,l,b,d,bne]))|intro _))
     all_goals (first|(refine Ae ?_;simp[get];done)|(refine Ai ?_;simp[push_cast,get];done)|skip)
end Go.Ir

namespace Go.Ir
open Go.Proofs Go.RowKit
variable(O:World)
def Ab7{a:Type}(f:V->Option a):List V->Option (List a)
 | []=>some []
 | v::vs=>match f v with
  | some w=>match Ab7 f vs with
   | some b=>some (w::b)
   | none=>none
  | none=>none
theorem OI{e f}:∀{l a},Ab7 f l=some a->l.length=a.length/\∀(k:Nat) (c) (d:e),l[k]?=some c->a[k]?=some d->f c=some d
 | [],a,h=>by cases h;grind
 | v::vs,a,h=>by
  rw[Ab7] at h;split at h
  .rename_i w g;split at h
   .rename_i i b;cases h;have ⟨h1,h2⟩:=OI b;grind
   .cases h
  .cases h
def RD{a:Type}(f:V->Option a):V->Option (List a)
 | .sl es=>Ab7 f es
 | .nil=>some []
 | _=>none
def Iv{a:Type}(f:V->Option a)(enc:a->V):Prop:=∀v x,f v=some x->LL (λ_=>none) v (enc x)/\(cells (enc x)).length=(cells v).length/\v.ok=true/\(enc x).ok=true
theorem HT{i f}{enc:i->V}(e:Iv f enc):Iv (RD f) λl=>.sl (l.map enc):=by
 intro v l h;cases v with
 | sl es=>
  have ⟨h1,h2⟩:=OI (f:=f) h;refine⟨.sl _ _ (by simpa using h1) (λk c g b a=>?_) (λk c g b a=>?_),rfl,rfl,rfl⟩
  .rw[AtX] at a;obtain⟨x,d,rfl⟩:=Amd.1 a;exact(e _ _ (h2 k c x b d)).1
  .rw[AtX] at a;obtain⟨x,d,rfl⟩:=Amd.1 a;exact(e _ _ (h2 k c x b d)).2
 | nil=>cases h;exact⟨.nil,rfl,rfl,rfl⟩
 | _=>cases h
def DL:V->Option Ad
 | .s l=>some l
 | _=>none
theorem BR:Iv DL V.s:=by intro v l h;cases v<;>cases h;exact⟨.refl _,rfl,rfl,rfl⟩
def IL:V->Option Int
 | .i .i64 n=>some n
 | _=>none
theorem FZ:Iv IL (V.i .i64):=by
 intro v n h;unfold IL at h;split at h
 .cases h;exact⟨.refl _,rfl,rfl,rfl⟩
 .cases h
def AhS(f:V->Option (List Al)):V->Option AR
 | .agg [k,ps]=>match DL k with
  | some k=>match f ps with
   | some ps=>some (k,ps)
   | none=>none
  | none=>none
 | _=>none
def a8:Nat->V->Option Al
 | 0=>λ_=>none
 | n+1=>λv=>match v with
  | .agg [kd,t,m,st,cs,ps]=>(IL kd).bind λkd=>(DL t).bind λt=>(DL m).bind λm=>(DL st).bind λst=>(RD (AhS (RD (a8 n))) cs).bind λcs=>(RD (a8 n) ps).bind λps=>some ⟨kd,t,m,st,cs,ps⟩
  | _=>none
theorem Ab6{f}(e:Iv f λl=>.sl (l.map Al.enc)):Iv (AhS f) AR.enc:=by
 intro v c h;unfold AhS at h;split at h
 .rename_i k ps;split at h
  .rename_i q g;split at h
   .rename_i i a;cases h;have o:=BR _ _ g;have p:=e _ _ a;rw[AR.enc_eq];refine⟨.agg _ _ rfl λj c m b d=>?_,rfl,rfl,rfl⟩
    match j with
    | 0=>grind
    | 1=>grind
    | j+2=>simp at b
   .cases h
  .cases h
 .cases h
theorem PU:∀n,Iv (a8 n) Al.enc
 | 0=>λv x h=>by cases h
 | n+1=>by
  intro v p h;have a:=HT (PU n);have b:=HT (Ab6 a);unfold a8 at h;split at h
  .have ⟨kd,h0,h⟩:=AjD.1 h;have ⟨t,h1,h⟩:=AjD.1 h;have ⟨m,h2,h⟩:=AjD.1 h;have ⟨st,h3,h⟩:=AjD.1 h;have ⟨cs,h4,h⟩:=AjD.1 h;have ⟨ps,h5,h⟩:=AjD.1 h;cases h;have g:=FZ _ _ h0;have i:=BR _ _ h1;have k:=BR _ _ h2;have l:=BR _ _ h3;have o:=b _ _ h4;have q:=a _ _ h5;rw[Al.enc_eq];refine⟨.agg _ _ rfl λj c f d e=>?_,rfl,rfl,rfl⟩
   match j with
   | 0=>grind
   | 1=>grind
   | 2=>grind
   | 3=>grind
   | 4=>simp_all
   | 5=>simp_all
   | j+6=>simp at d
  .cases h
def Qi:List V->Option V
 | [v]=>(RD (a8 40) v).bind λps=>bif Nat.ble (AV ps) 1000000 then some (.i .i64 (Do ps)) else none
 | _=>none
theorem m9:AX π O (onP 59 Qi):=eQ λargs v h=>by
 unfold Qi at h;split at h
 .rename_i x;obtain⟨ps,f,c⟩:=AjD.1 h;cases e:Nat.ble (AV ps) 1000000 with
  | false=>rw[e] at c;cases c
  | true=>
   rw[e] at c;cases c;have i:=Az9 e;refine⟨Ih (Sx O _ ps (Adx _) (by omega)) rfl λk a g d b=>?_,rfl⟩
   match k with
   | 0=>simp at d b;subst d b;exact(HT (PU 40) _ _ f).1
   | k+1=>simp at d
 .cases h
end Go.Ir

namespace Go.Ir
open Go.Proofs
variable(O:World)
def Ip(L:Ce)(k:Int):List AH:=if k==7 then L.card else if k==8 then L.ord else[]
def Pk(L:Ce)(k:Int):V:=if k==7 then .sl (L.card.map AH.enc) else if k==8 then .sl (L.ord.map AH.enc) else .nil
theorem VJ L k:LL (λ_=>none) (Pk L k) (.sl ((Ip L k).map AH.enc)):=by
 unfold Pk Ip;split
 .exact .refl _
 .split
  .exact .refl _
  .exact .nil
theorem OJ L k:An π O 102 [L.enc,.i .i64 k] [] (Pk L k) []:=by
 generalize hS:Pk L k=S;unfold Pk at hS;rw[Ce.enc_eq];refine Ah (vs:=[S]) AlT (by simp) (by simp) λn0 a=>?_;clear a;simp only[push_cast,seval,rq]
 repeat' (first|(((first|apply Ac|apply Af|apply Ag)<;>intro _h)<;>(simp only[push_cast,seval,rq,_h];try (have _g:=_h;simp at _g)))|intro _)
 all_goals (simp only[*,bq,Agp,AfT,rb,reduceCtorEq] at hS;subst hS;exact Ae (by simp[get]))
def Ro(k:Int)(v:Cg):Bool:=if k==9 then Le v&&v.type==1 else Le v&&v.type==2
theorem AkG k v (c:v.text.length<=2^30):An π O 103 [.i .i64 k,v.enc] [] (.b (Ro k v)) []:=by
 have hp:=Om O v c;generalize hS:Ro k v=S;unfold Ro at hS;generalize Le v=A at *;rw[Cg.enc_eq] at hp⊢;refine Ah (vs:=[.b S]) Amh (by simp) (by simp) λn0 a=>?_;clear a;simp only[push_cast,seval,rq]
 repeat' (first|(((first|apply Ac|apply Af|apply Ag)<;>intro _h)<;>simp only[push_cast,seval,rq,_h])|(refine Ab (by exact hp) ?_;simp only[push_cast,seval,rq])|intro _)
 all_goals (simp only[*,bq,Agp,AfT,rb,reduceCtorEq] at hS;subst hS;exact Ae (by simp[get, *]))
def PE:Ad:=[111,116,104,101,114]
def F4(L:Ce)(k:Int)(v:Cg):List Ad:=if k==9 then[v.text,PE] else[61::v.text,(Dh (Ip L k) v.text).1,PE]
theorem yI L k v (q:v.text.length<=2^29)(p:A9 L.card+A9 L.ord<=2^24):An π O 143 [L.enc,.i .i64 k,v.enc] [] (.sl ((F4 L k v).map V.s)) []:=by
 have f:=OJ O L k;have h:A9 (Ip L k)<=2^30:=by
  unfold Ip;split
  .omega
  .split
   .omega
   .simp[A9]
 have g:An π O 145 [Pk L k,.s v.text] [] (.tup [.s (Dh (Ip L k) v.text).1,.i .i64 (Dh (Ip L k) v.text).2]) []:=by
  refine Ih (Xc O (Ip L k) v.text (by omega) h) rfl λj a o d b=>?_
  match j with
  | 0=>simp at d b;subst d b;exact VJ L k
  | 1=>simp at d b;subst d b;exact .refl _
  | j+2=>simp at d
 generalize hS:F4 L k v=S;unfold F4 at hS;generalize(Dh (Ip L k) v.text).1=l at *;generalize(Dh (Ip L k) v.text).2=m at *;generalize Pk L k=R at *;rw[Ce.enc_eq] at f⊢;rw[Cg.enc_eq];have c:1+v.text.length<=Am:=by unfold Am;omega
 refine Ah (vs:=[.sl (S.map V.s)]) Ahp (by simp) (by simp) λn0 e=>?_;clear e;simp only[push_cast,seval,rq,Amy c]
 repeat' (first|(((first|apply Ac|apply Af|apply Ag)<;>intro _h)<;>simp only[push_cast,seval,rq,_h,Amy c])|((first|refine Ab (by exact f) ?_|refine Ab (by exact g) ?_);simp only[push_cast,seval,rq,Amy c])|intro _)
 all_goals (simp only[*,bq,Agp,AfT,rb,reduceCtorEq] at hS;subst hS)
 .exact Ae (by simp[get,PE])
 .exact Ae (by simp[get,PE])
def DB(a:List Ad):List Ad->Int
 | []=>-1
 | w::b=>if BT (λx=>w==x) a<0 then DB a b else BT (λx=>w==x) a
theorem Z8 a b:-1<=DB a b/\DB a b<a.length:=by
 induction b with
 | nil=>simp only[DB];omega
 | cons w b c=>
  rw[DB];split
  .exact c
  .have:=Acg (λx=>w==x) a;omega
theorem Zg L k a v (r:v.text.length<=2^29)(o:A9 L.card+A9 L.ord<=2^24)(t:a.length<=2^30) :
  An π O 104 [L.enc,.i .i64 k,.sl (a.map V.s),v.enc] [] (.i .i64 (DB a (F4 L k v))) []:=by
 have e:=yI O L k v r o;have f:=λw:Ad=>Mr O AeS a w (by omega);generalize hS:DB a (F4 L k v)=S;have l:(F4 L k v).length<=3:=by unfold F4;split<;>simp
 generalize F4 L k v=W at *;rw[Ce.enc_eq] at e⊢;rw[Cg.enc_eq] at e⊢;refine Ah (vs:=[.i .i64 S]) AlS (by simp) (by simp) λn0 g=>?_;clear g;simp only[push_cast,seval,rq,AaT]
 repeat' (first|(((first|apply Ac|apply Af|apply Ag)<;>intro _h)<;>simp only[push_cast,seval,rq,_h,AaT])|(refine Ab (by exact e) ?_;simp only[push_cast,seval,rq,AaT])|intro _)
 obtain⟨τ,j⟩:∃τ:Au,τ=[]:=⟨[],rfl⟩;refine Ak W.length (Inv:=λm st=>∃dn b n,W=dn++b/\m=b.length/\DB a b=S/\st=⟨[(2,.sl (a.map V.s)),(15,.sl (W.map V.s)),(16,.i .i64 W.length),(17,.i .i64 dn.length)],τ,n⟩) ⟨_,by rw[j];exact Aj.drop (λ_ _ h=>by cases h) (AfJ _),[],W,_,rfl,rfl,hS,rfl⟩ ?_;clear hS e;rintro m _ ⟨dn,b,n,d,rfl,c,rfl⟩;cases b with
 | nil=>rw[DB] at c;subst c;simp only[push_cast,seval,rq,AaT,d];intros;exact Ae (by simp[get])
 | cons w b=>
  have p:=Ay d;rw[DB] at c;have q:=f w;generalize BT (λx=>w==x) a=I at *;simp only[push_cast,seval,rq,d,Aa w (dn:=dn) (by omega)]
  repeat' (first|(((first|apply Ac|apply Af|apply Ag)<;>intro _h)<;>simp only[push_cast,seval,rq,_h,d,Aa w (dn:=dn) (by omega)])|(refine Ab (by exact q) ?_;simp only[push_cast,seval,rq,d,Aa w (dn:=dn) (by omega)])|intro _)
  .have hI:I>=0:=AuL _h;rw[Amt (by omega)] at c;subst c;exact Ae (by simp[get])
  .have hI:¬I>=0:=AuU _h;rw[Aiv (by omega)] at c;exact⟨_,_,Adx _,Aj.refl,dn++[w],b,_,by simp,rfl,c,rfl⟩
def HI(L:Ce)(p:Al)(vs:List Cg):Int×Int:=
 if !Bk p.kind then(0,1) else if !DD [] (Ip L p.kind) then(0,18) else match Hk vs p.name with
 | none=>(0,12)
 | some v=>if !Ro p.kind v then(0,11) else if DB (p.cases.map (·.1)) (F4 L p.kind v)<0 then(0,13) else(DB (p.cases.map (·.1)) (F4 L p.kind v),0)
theorem pP(L:Ce)(p:Al)(vs:List Cg)(hb:A9 L.card+A9 L.ord<=2^24)(hw:p.wt<=2^24)(hl:vs.length<=2^40)(ht:∀v∈vs,v.text.length<=2^29/\v.list.length<=2^30) :
  An π O 72 [L.enc,p.enc,.sl (vs.map Cg.enc)] [] (.tup [.i .i64 (HI L p vs).1,.i .i64 (HI L p vs).2]) []:=by
 have E:=SY O vs p.name hl (λv Z=>(ht v Z).2);have hs:=DQ O p.kind;have aC:=p.wt_eq;have aA:=Fn p.cases;have hr:=OJ O L p.kind;have ak:A9 (Ip L p.kind)<=2^30:=by
  unfold Ip;split
  .omega
  .split
   .omega
   .simp[A9]
 have Z:An π O 101 [Pk L p.kind] [] (.b (DD [] (Ip L p.kind))) []:=by
  refine Ih (Jt O (Ip L p.kind) ak) rfl λj a a' ha N=>?_
  match j with
  | 0=>simp at ha N;subst ha N;exact VJ L p.kind
  | j+1=>simp at ha
 generalize hS:HI L p vs=S;unfold HI at hS;generalize DD [] (Ip L p.kind)=R at *;generalize Pk L p.kind=RV at *;have ah:∀v,Hk vs p.name=some v->v∈vs:=λv h=>Gx h;generalize Hk vs p.name=G at *;generalize Bk p.kind=I at *;rw[Ce.enc_eq] at hr⊢;rw[Al.enc_eq];cases G with
 | none=>
  simp only[Uh,gV,AbO,Aya] at E;refine Ah (vs:=[.i .i64 S.1,.i .i64 S.2]) Agk (by simp) (by simp) λn0 B=>?_;clear B;cases I<;>cases R
  all_goals (simp only[bq,Agp,AfT,rb,reduceCtorEq] at hS;subst hS;simp only[push_cast,seval,rq])
  all_goals (repeat' (first|(first|refine Ab (by exact E) ?_|refine Ab (by exact hs) ?_|refine Ab (by exact hr) ?_|refine Ab (by exact Z) ?_)|intro _)<;>(try simp only[push_cast,seval,rq]))
  all_goals (refine Ai ?_;simp[push_cast,get])
 | some v=>
  obtain⟨aD,aE⟩:=ht v (ah v rfl);have C:=AkG O p.kind v (by omega);simp only[Uh,gV,AvN] at E;simp only at hS;rw[Cg.enc_eq] at E C;generalize Ro p.kind v=SU at *;refine Ah (vs:=[.i .i64 S.1,.i .i64 S.2]) Agk (by simp) (by simp) λn0 B=>?_;clear B;by_cases q:(I&&R&&SU)=true
  .simp only[AcR] at q;obtain⟨⟨rfl,rfl⟩,rfl⟩:=q;simp only[bq,Agp,AfT,rb,reduceCtorEq] at hS;have X:=Zg O L p.kind (p.cases.map (·.1)) v (by omega) hb (by simp;omega);rw[Ce.enc_eq,Cg.enc_eq] at X;generalize DB (p.cases.map (·.1)) (F4 L p.kind v)=FI at *;simp only[push_cast,seval,rq]
   repeat' (first|(first|refine Ab (by exact E) ?_|refine Ab (by exact hs) ?_|refine Ab (by exact hr) ?_|refine Ab (by exact Z) ?_|refine Ab (by exact C) ?_)|intro _)<;>(try simp only[push_cast,seval,rq])
   rename_i k1 k2 k3 k4 k5 k6 k7 k8;obtain⟨u,g⟩:∃x:Id,x=(n0+1+k1,8):=⟨_,rfl⟩
   obtain⟨D,Y⟩:∃n,n=n0+1+k1+1+k2+1+k3+1+k4+1+k5+1+k6+1+k7+1+k8:=⟨_,rfl⟩;rw[<-g,<-Y];have ae:u.1<D:=by rw[g];simp only;omega
   have ax:n0<D:=by omega
   have K:((n0,4):Id)≠u:=by rw[g];simp
   have J:((n0,3):Id)≠u:=by rw[g];simp
   clear g Y;generalize l:((u,_)::_:Au)=τ;have t3:lk τ (n0,3)=some (.box (.agg [.s L.tag,.s L.parent,.s L.dir,.sl (L.card.map AH.enc),.sl (L.ord.map AH.enc),.s L.dec,.s L.grp,.s L.minus,.s L.perc,.i .i64 L.prim,.i .i64 L.sec,.sl (L.lists.map Cp.enc),.sl (L.units.map De.enc),.sl (L.dates.map CJ.enc),.sl (L.months.map V.s),.sl (L.days.map V.s)])):=by rw[<-l];simp[lk,J,AsR J]
   have t4:lk τ (n0,4)=some (.box (.agg [.i .i64 p.kind,.s p.text,.s p.name,.s p.style,.sl (p.cases.map AR.enc),.sl (p.parts.map Al.enc)])):=by rw[<-l];simp[lk,K,AsR K]
   have t8:lk τ u=some (.box (.agg [.s v.name,.i .i64 v.type,.s v.text,.i .i64 v.date,.sl (v.list.map V.s)])):=by rw[<-l];simp[lk]
   have tn:∀id:Id,D<=id.1->lk τ id=none/\del τ id=τ:=by
    intro id r;have e1:u≠id:=λo=>by rw[o] at ae;omega
    have e2:((n0,4):Id)≠id:=λo=>by rw[<-o] at r;simp only at r;omega
    have e3:((n0,3):Id)≠id:=λo=>by rw[<-o] at r;simp only at r;omega
    rw[<-l];exact⟨by simp[lk,e1,e2,e3],by simp[del,e1,e2,e3]⟩
   clear l;refine Ak p.cases.length (Inv:=λm st=>∃dn d n id,p.cases=dn++d/\m=d.length/\D<=n/\D<=id.1/\id.1<n/\st=⟨[(3,.ref (n0,3) 0),(4,.ref (n0,4) 0),(8,.ref u 0),(10,.arr id),(43,.sl (p.cases.map AR.enc)),(44,.i .i64 p.cases.length),(45,.i .i64 dn.length)],(id,.arr 9 1 ((dn.map (·.1)).map V.s))::τ,n⟩) ⟨_,(Aj.own (s:=10) (e:=9) (sz:=1) (k:=0) rfl).trans (Aj.envD (env':=[(3,.ref (n0,3) 0),(4,.ref (n0,4) 0),(8,.ref u 0),(10,.arr (D,0)),(43,.sl (p.cases.map AR.enc)),(44,.i .i64 p.cases.length),(45,.i .i64 0)]) (λt=>?_) (AfJ _)),[],p.cases,_,(D,0),rfl,rfl,?_,AfJ _,Adx _,rfl⟩ ?_
   .left;simp only[get];by_cases M:10=t
    .subst M;simp
    .simp[M]
   .omega
   rintro m _ ⟨dn,d,n,id,F,rfl,hn,W,ay,rfl⟩;have td:=(tn id W).2;cases d with
   | nil=>
    have A:decide ((dn.length:Int)<(p.cases.length:Int))=false:=by rw[F];simp
    simp only[push_cast,seval,rq,A];intros;refine GZ (Aj.frzAt (s:=10) (id:=id) rfl (tn id W).1 (λy hy=>by obtain⟨z,_,rfl⟩:=Awt.1 hy;rfl) (AfJ _)) ?_;rw[show dn=p.cases by rw[F];simp];simp only[push_cast,seval,rq,t3,t4,t8]
    repeat' (first|(((first|apply Ac|apply Af|apply Ag)<;>intro _h)<;>simp only[push_cast,seval,rq,_h,t3,t4,t8])|(refine Ab (by exact X) ?_;simp only[push_cast,seval,rq,t3,t4,t8])|intro _)
    .have f:FI<0:=AuL _h;rw[Aiv f] at hS;subst hS;refine Ai ?_;simp[push_cast,get]
    .have f:¬FI<0:=AuU _h;rw[Amt f] at hS;subst hS;refine Ai ?_;simp[push_cast,get]
   | cons c d=>
    have af:=Ay F;have A:decide ((dn.length:Int)<(p.cases.length:Int))=true:=by rw[F];simp;omega
    have U:(p.cases.map AR.enc)[dn.length]?=some (AR.enc c):=by rw[F];simp
    have al:IntKind.i64.wrap ((dn.length:Int)+1)=((dn++[c]).length:Int):=Aa c (by omega);have ag:dn.length+1<=AM:=by unfold AM;omega
    have f1:∀k j:Nat,((n+1+k,j)=id)=False:=λk j=>Amp λo=>(by have:=Ayb Prod.fst o;(try simp only at this);omega)
    have ac:∀k j:Nat,(id=(n+1+k,j))=False:=λk j=>Amp λo=>Axj (f1 k j) o.symm;simp only[push_cast,seval,rq,A,U,al,Aiv af,f1,ac,td,AaT,Amy ag];intros;have hm:List.map V.s (List.map (λx=>x.1) dn)++[V.s c.1]=((dn++[c]).map (·.1)).map V.s:=by simp
    rw[hm];exact⟨_,_,Adx _,Aj.dropM (tn _ (by simp only;omega)).1 (AfJ _),dn++[c],d,_,_,by rw[F];simp,rfl,by omega,by simp only;omega,by simp only;omega,rfl⟩
  .have ai:I=false\/R=false\/SU=false:=by revert q;cases I<;>cases R<;>cases SU<;>simp
   clear q;cases I<;>cases R<;>cases SU
   all_goals (first|(simp at ai;done)|skip)
   all_goals (simp only[bq,Agp,AfT,rb,reduceCtorEq] at hS;subst hS;simp only[push_cast,seval,rq])
   all_goals (repeat' (first|(first|refine Ab (by exact E) ?_|refine Ab (by exact hs) ?_|refine Ab (by exact hr) ?_|refine Ab (by exact Z) ?_|refine Ab (by exact C) ?_)|intro _)<;>(try simp only[push_cast,seval,rq]))
   all_goals (refine Ai ?_;simp[push_cast,get])
end Go.Ir
section
namespace Go.Ir
open Go.Proofs
variable(O:World)
inductive Ev where
 | pc (s:Ad)
 | er (e:Int)
def Iy(a:Bool)(r:Ad×Int):Ev:=if r.2==0 then .pc (if a then Hh r.1 else r.1) else .er r.2
def SJ(X:WX)(k:Int)(a cnt:Ad):Ad:=if k==9 then cnt else match Hk X.vs a with
 | some v=>v.text
 | none=>[]
mutual
def xJ(X:WX):Al->Ad->List Ev
 | ⟨k,t,a,st,cs,ps⟩,cnt=>
  if k==1 then[.pc t]
  else if k==10 then[Iy X.iso (Cw X.L cnt [])]
  else if k==11 then .pc (60::(a++[62]))::(Dt X ps cnt++[.pc (60::47::(a++[62]))])
  else if k==7||(k==8||k==9) then
   (if(HI X.L ⟨k,t,a,st,cs,ps⟩ X.vs).2==0 then(NM X cs (SJ X k a cnt))[(HI X.L ⟨k,t,a,st,cs,ps⟩ X.vs).1.toNat]?.getD [] else[.er (HI X.L ⟨k,t,a,st,cs,ps⟩ X.vs).2])
  else match Hk X.vs a with
   | none=>[.er 12]
   | some v=>[Iy X.iso (Lw X.L k st v)]
def Dt(X:WX):List Al->Ad->List Ev
 | [],_=>[]
 | p::ps,cnt=>xJ X p cnt++Dt X ps cnt
def NM(X:WX):List (Ad×List Al)->Ad->List (List Ev)
 | [],_=>[]
 | c::cs,cnt=>evC X c cnt::NM X cs cnt
def evC(X:WX):Ad×List Al->Ad->List Ev
 | (_,ps),cnt=>Dt X ps cnt
end
theorem Ml X cnt:Dt X [] cnt=[]:=by simp only[Dt]
theorem K3 X p ps cnt:Dt X (p::ps) cnt=xJ X p cnt++Dt X ps cnt:=by simp only[Dt]
theorem VU X cnt:∀(cs:List AR) (i:Nat) (c),cs[i]?=some c->(NM X cs cnt)[i]?=some (Dt X c.2 cnt)
 | [],i,c,h=>by simp at h
 | (k,ps)::cs,0,c,h=>by simp at h;subst h;simp only[NM,evC];rfl
 | (k,ps)::cs,i+1,c,h=>by simp only[NM,AxR];exact VU X cnt cs i c (by simpa using h)
def Cz(st:Ad×Int):Ev->Ad×Int
 | .pc s=>(st.1++s,if((st.1++s).length:Int)>20000 then 6 else st.2)
 | .er e=>(st.1,e)
def BB:Ad×Int->List Ev->Ad×Int
 | st,[]=>st
 | st,ev::es=>if st.2==0 then BB (Cz st ev) es else st
theorem DI st (h:(st.2==0)=false) es:BB st es=st:=by
 cases es with
 | nil=>rfl
 | cons ev es=>rw[BB,h];rfl
theorem Sm a b:∀st,BB st (a++b)=BB (BB st a) b:=by
 induction a with
 | nil=>intro st;rfl
 | cons ev a c=>
  intro st;rw[AsT,BB,BB];split
  .exact c _
  .rename_i h;rw[DI st (by simpa using h)]
def Fx(a:Id)(X:WX)(u:Bool)(b:Id)(st:Ad×Int):Au:=[(a,.tbox TW (wC X (wA u a) b st.2)),(b,.arr 5 1 (Az st.1))]
theorem KM{a b X u l}:Fx a X u b (l,0)=Jc a X u b l:=rfl
def cM(c:Id)(X:WX)(b:Id)(st:Ad×Int)(n n':Nat)(v:V)(σ':Au):Prop:=v=.tup []/\∃(d:Bool) (a:Id),(n<=a.1/\a.1<n'\/a=b)/\σ'=Fx c X d a st
theorem Kn{a b X u st τ}:lk (Fx a X u b st++τ) a=some (.tbox TW (wC X (wA u a) b st.2)):=by simp[Fx,lk]
theorem Js{a b X u st}:lk (Fx a X u b st) a=some (.tbox TW (wC X (wA u a) b st.2)):=by simp[Fx,lk]
theorem HY{a b x X u st e}(c:a≠x)(d:b≠x):lk (Fx a X u b st++[(x,e)]) x=some e:=by simp[Fx,lk,c,d]
theorem Jm{a b x X u st}(c:a≠x)(d:b≠x):lk (Fx a X u b st) x=none:=by simp[Fx,lk,c,d]
theorem Ry{a b x X u st e σo}(d:a≠x)(f:b≠x):over (Fx a X u b st) σo ((x,e)::Fx a X u b st)=σo++[(x,e)]:=
 Fl (pre:=[(x,e)]) (λp hp q c=>by simp[Fx] at hp c;grind)
theorem O6{a b x X u st e σo}(d:a≠x)(f:b≠x):over (Fx a X u b st) σo (Fx a X u b st++[(x,e)])=σo++[(x,e)]:=by have:=Jz (σi:=Fx a X u b st) (σo:=σo) (pre:=[]) (post:=[(x,e)]) (λp hp=>by cases hp) (λp hp q c=>by simp[Fx] at hp c;grind);simpa using this
theorem F7{a b x X u st e}:∀i z,lk (Fx a X u b st) i=some z->lk (Fx a X u b st++[(x,e)]) i=some z:=λi z h=>BA h
theorem Hz(a b:Id)(X:WX)(u:Bool)(l t:Ad)(g:b≠a)(h:l.length+t.length<=2^30) :
  FQ π O 68 [.ref a 0,.s t] (Fx a X u b (l,0)) (cM a X b (Cz (l,0) (.pc t))):=by
 generalize i:cM a X b (Cz (l,0) (.pc t))=R;refine Ct ArV (by simp) λn0 e=>?_;rw[KM] at *;have x:a.1<n0:=e a _ (by simp[Jc,lk];rfl);have r:b.1<n0:=e b _ (by simp[Jc,lk,AsR g];rfl);clear e;simp only[push_cast,seval,rq];intro k1;refine AY (vL O a b X u l t g (by omega)) (λ_ _ h=>h) (λy v σo q i=>?_);obtain⟨rfl,f,⟨j,o⟩,rfl⟩:=i;rw[G9];simp only[push_cast,seval,rq];intro k2;have c:f≠a:=λp=>by rw[p] at j;omega
 refine BJ (Ahy O a f X true (l++t) c) (λ_ _ h=>h) ?_;rw[Db];cases d:decide (((l++t).length:Int)>20000) with
 | false=>simp only[push_cast,seval,rq,d];intro k3;subst i;refine⟨_,Aj.refl,[],_,trivial,λ_ _ h=>h,rfl,true,f,.inl ⟨by omega,by simp only;omega⟩,?_⟩;unfold Cz;simp only;rw[Amt (AuU d)];rfl
 | true=>have k:(a=f)=False:=Amp (AsR c);have m:(f=a)=False:=Amp c;simp only[push_cast,seval,rq,d,AW,Jc,k,m];intros;subst i;refine⟨_,Aj.refl,[],_,trivial,λ_ _ h=>h,rfl,true,f,.inl ⟨by omega,by simp only;omega⟩,?_⟩;unfold Cz;simp only;rw[Aiv (AuL d)];rfl
theorem WA(a b:Id)(X:WX)(u:Bool)(l:Ad)(r:Ad×Int)(d:b≠a)(F:l.length<=20000)(B:r.1.length<=2^24) :
  FQ π O 69 [.ref a 0,.s r.1,.i .i64 r.2] (Fx a X u b (l,0)) (cM a X b (Cz (l,0) (Iy X.iso r))):=by
 obtain⟨t,e⟩:=r;simp only at *;have C:=vH t;have q:=AiX O t B;generalize c:Iy X.iso (t,e)=T;unfold Iy at c;simp only at c;generalize o:cM a X b (Cz (l,0) T)=R;refine Ct Ar1 (by simp) λn0 k=>?_;rw[KM] at *;have G:a.1<n0:=k a _ (by simp[Jc,lk];rfl);have E:b.1<n0:=k b _ (by simp[Jc,lk,AsR d];rfl);clear k;cases f:(e==0) with
 | false=>rw[f] at c;simp only[Agw,AfT] at c;subst c;have z:(a=b)=False:=Amp (AsR d);have A:(b=a)=False:=Amp d;simp only[push_cast,seval,rq,bne,f,AW,Jc,z,A];intros;subst o;exact⟨_,Aj.refl,[],_,trivial,λ_ _ h=>h,rfl,u,b,.inr rfl,rfl⟩
 | true=>
  rw[f] at c;simp only[Agp] at c;cases hI:X.iso with
  | true=>
   rw[hI] at c;simp only[Agp] at c;subst c;generalize Hh t=y at *;simp only[push_cast,seval,rq,bne,f,hI,AW]
   repeat' (first|(((first|apply Ac|apply Af|apply Ag)<;>intro _h)<;>simp only[push_cast,seval,rq,_h,bne,f,hI,AW])|(refine Ab (by exact q) ?_;simp only[push_cast,seval,rq,bne,f,hI,AW])|intro _)
   refine AY (Hz O a b X u l y d (by omega)) (λ_ _ h=>h) (λD v σo p g=>?_);obtain⟨rfl,x,m,j,rfl⟩:=g;rw[KM,G9];simp only[push_cast,seval,rq,bne,f,hI,AW];intros;subst o;exact⟨_,Aj.refl,[],_,trivial,λ_ _ h=>h,rfl,x,m,DZ j (by omega) (by simp only;omega),rfl⟩
  | false=>rw[hI] at c;simp only[Agw,AfT] at c;subst c;simp only[push_cast,seval,rq,bne,f,hI,AW];intros;refine AY (Hz O a b X u l t d (by omega)) (λ_ _ h=>h) (λD v σo p g=>?_);obtain⟨rfl,x,m,j,rfl⟩:=g;rw[KM,G9];simp only[push_cast,seval,rq,bne,f,hI,AW];intros;subst o;exact⟨_,Aj.refl,[],_,trivial,λ_ _ h=>h,rfl,x,m,DZ j (by omega) (by simp only;omega),rfl⟩
def Vj(st:Ad×Int):Prop:=(st.2==0)=true->st.1.length<=20000
theorem Ow{st}(h:st.1.length<=20000) ev:Vj (Cz st ev):=by
 cases ev with
 | pc s=>intro a;unfold Cz at a⊢;grind
 | er e=>intro _;exact h
theorem JS es:∀(st),Vj st->Vj (BB st es):=by
 induction es with
 | nil=>intro st h;exact h
 | cons ev es b=>
  intro st h;rw[BB];split
  .rename_i a;exact b _ (Ow (h a) ev)
  .exact h
theorem AkQ{a b X u st}(h:(st.2==0)=true):Fx a X u b st=Fx a X u b (st.1,0):=by grind
structure zD (X:WX) (c:Nat):Prop where
 L:kB X.L c
 rules:A9 X.L.card+A9 X.L.ord<=2^24
 vals:∀v∈X.vs,W4 v/\v.text.length<=2^24
 n:X.vs.length<=2^40
 dlen:∀sk d,(DP X.L sk d).1.length<=2^24
theorem Abm N c 
  (ih:∀(ps) (cnt:Ad) (a b) (X) (u) (st),zD X c->AV ps<N->cnt.length<=2^24->b≠a->Vj st->AV ps<=2^24->
   FQ π O 32 [.ref a 0,.sl (ps.map Al.enc),.s cnt] (Fx a X u b st) (cM a X b (BB st (Dt X ps cnt))))
  (p:Al)(cnt:Ad) a b X u l (hX:zD X c)(hN:AV p.parts<N)(hc:cnt.length<=2^24)(y:b≠a)(h:l.length<=20000)(U:p.wt<=2^24) :
  FQ π O 71 [.ref a 0,p.enc,.s cnt] (Fx a X u b (l,0)) (cM a X b (BB (l,0) (.pc (60::(p.name++[62]))::(Dt X p.parts cnt++[.pc (60::47::(p.name++[62]))])))):=by
 have ah:=p.wt_eq;have ag:p.name.length<=2^24:=by omega
 rw[show BB (l,0) (.pc (60::(p.name++[62]))::(Dt X p.parts cnt++[.pc (60::47::(p.name++[62]))]))=BB (BB (Cz (l,0) (.pc (60::(p.name++[62])))) (Dt X p.parts cnt)) [.pc (60::47::(p.name++[62]))] from by rw[BB,Sm];rfl];have C:=Ow (st:=(l,0)) h (.pc (60::(p.name++[62])));have B:=Hz O a b X u l (60::(p.name++[62])) y (by simp only[Aaf,Aa8,Adu];omega);generalize Cz (l,0) (.pc (60::(p.name++[62])))=K at *;have J:=JS (Dt X p.parts cnt) K C;have G:=λz L (E:z≠a)=>ih p.parts cnt a z X L K hX hN hc E C (by omega);generalize BB K (Dt X p.parts cnt)=k at *;generalize m:cM a X b (BB k [.pc (60::47::(p.name++[62]))])=R;refine Ct AmN (by simp) λn0 t=>?_;have U:a.1<n0:=t a _ (by simp[Fx,lk];rfl);have hb:b.1<n0:=t b _ (by simp[Fx,lk,AsR y];rfl);clear t;simp only[push_cast,seval,rq];intro k1;refine As (by unfold Am;omega) ?_;simp only[push_cast,seval,rq];refine As (by unfold Am;(try simp only[Aaf,Aa8,Adu]);omega) ?_;simp only[push_cast,seval,rq];obtain⟨x,V⟩:∃x:Id,x=(n0,4):=⟨_,rfl⟩
 have ai:x.1=n0:=by rw[V]
 rw[<-V];have e:a≠x:=λd=>by rw[d] at U;omega
 have r:b≠x:=λd=>by rw[d] at hb;omega
 intros;refine AY B (C6 (Jm e r)) (λn2 v σo af m=>?_);obtain⟨rfl,L,z,i,rfl⟩:=m;rw[Ry e r];have g:z≠x:=λd=>by rcases i with h|h;(rw[d] at h;omega);exact r (h ▸ d)
 have o:z≠a:=λd=>by rcases i with h|h;(rw[d] at h;omega);exact y (h ▸ d)
 simp only[push_cast,seval,rq,Kn,HY e g];intros;refine AY (G z L o) F7 (λn3 v σo M m=>?_);obtain⟨rfl,W,D,j,rfl⟩:=m;rw[O6 e g];have f:D≠x:=λd=>by rcases j with h|h;(rw[d] at h;omega);exact g (h ▸ d)
 have A:D≠a:=λd=>by rcases j with h|h;(rw[d] at h;omega);exact o (h ▸ d)
 cases d:(k.2==0) with
 | false=>simp only[push_cast,seval,rq,Kn,HY e f,d];intros;subst m;rw[DI k d];exact⟨_,Aj.refl,[],_,trivial,F7,rfl,W,D,WQ (DZ i (by omega) (by simp only;omega)) (DZ j (by omega) (by simp only;omega)),rfl⟩
 | true=>
  have ae:=J d;have q:=Hz O a D X W k.1 (60::47::(p.name++[62])) A (by simp only[Aaf,Aa8,Adu];omega);rw[<-AkQ d] at q;simp only[push_cast,seval,rq,Kn,HY e f,d];intros;refine As (by unfold Am;omega) ?_;simp only[push_cast,seval,rq,Kn,HY e f,d];refine As (by unfold Am;(try simp only[Aaf,Aa8,Adu]);omega) ?_;simp only[push_cast,seval,rq,Kn,HY e f,d];intros;refine AY q F7 (λn4 v σo S m=>?_);obtain⟨rfl,u3,Y,F,rfl⟩:=m;rw[O6 e f];simp only[push_cast,seval,rq,Kn,HY e f,d];intros;subst m;have I:BB k [.pc (60::47::(p.name++[62]))]=Cz (k.1,0) (.pc (60::47::(p.name++[62]))):=by
   have E:k.2=0:=by simpa using d
   have Z:k=(k.1,0):=by rw[<-E]
   rw[BB,d,Z];rfl
  rw[I];exact⟨_,Aj.refl,[],_,trivial,F7,rfl,u3,Y,WQ (WQ (DZ i (by omega) (by simp only;omega)) (DZ j (by omega) (by simp only;omega))) (DZ F (by omega) (by simp only;omega)),rfl⟩
theorem AkD X p cnt:xJ X p cnt=if p.kind==1 then[.pc p.text]
  else if p.kind==10 then[Iy X.iso (Cw X.L cnt [])]
  else if p.kind==11 then .pc (60::(p.name++[62]))::(Dt X p.parts cnt++[.pc (60::47::(p.name++[62]))])
  else if p.kind==7||(p.kind==8||p.kind==9) then
   (if(HI X.L p X.vs).2==0 then(NM X p.cases (SJ X p.kind p.name cnt))[(HI X.L p X.vs).1.toNat]?.getD [] else[.er (HI X.L p X.vs).2])
  else match Hk X.vs p.name with
   | none=>[.er 12]
   | some v=>[Iy X.iso (Lw X.L p.kind p.style v)]:=by cases p;simp only[xJ]
theorem AkI{L p vs}(h:((HI L p vs).2==0)=true):∃(v:Cg) (i:Nat) (c:AR),Hk vs p.name=some v/\(HI L p vs).1=i/\p.cases[i]?=some c:=by
 have a:(HI L p vs).2=0:=by simpa using h
 clear h;unfold HI at a⊢;split at a
 .cases a
 .rename_i b;rw[Amt b];split at a
  .cases a
  .rename_i d;rw[Amt d];split at a
   .cases a
   .rename_i v g;rw[g]
    try simp only
    split at a
    .cases a
    .rename_i c3;rw[Amt c3];split at a
     .cases a
     .rename_i e;rw[Amt e];have f:=Z8 (p.cases.map (·.1)) (F4 L p.kind v);rw[AaT] at f;refine⟨v,(DB (p.cases.map (·.1)) (F4 L p.kind v)).toNat,p.cases[(DB (p.cases.map (·.1)) (F4 L p.kind v)).toNat]'(by omega),rfl,by omega,Aqa (by omega)⟩
theorem Ty L (a:Lp L)(b:Yj L) u n (c:n.length<=2^30):(E4 L u n).1.length<=2^16+(2^23+2^19):=by
 have d:=Gy L a n [] c;unfold E4;split
 .split
  .simp
  .rename_i p hp;have:=OH b hp;have:=Rx p [123,48,125] (Cw L n []).1;grind
 .simp
theorem Ru L st l:(E3 L st l).1.length<=20000:=by unfold E3;grind
theorem wV(b:Ca O) X c (a:zD X c) k st v (d:v∈X.vs):(Lw X.L k st v).1.length<=2^24:=by have ⟨v1,v2⟩:=a.vals v d;have e:=Gy X.L a.L.sym v.text st (by omega);have a2:=Ty X.L a.L.sym a.L.uni st v.text (by omega);have a3:=a.dlen st v.date;have a4:=Ru X.L st v.list;have a5:=(Mh O b v.date).2;unfold Lw;grind
theorem zS{pre σ}(h:∀q∈pre,lk σ q.1=none):∀i e,lk σ i=some e->lk (pre++σ) i=some e:=by
 induction pre with
 | nil=>intro i e h;exact h
 | cons a pre d=>intro i e c;have ⟨ai,ae⟩:=a;have b:=h (ai,ae) (by simp);show(if ai=i then some ae else lk (pre++σ) i)=some e;grind
theorem MD{a b x y X u st c d σo}(f:a≠x)(g:b≠x)(h:a≠y)(i:b≠y):over (Fx a X u b st) σo ((y,c)::(x,d)::Fx a X u b st)=σo++[(y,c),(x,d)]:=
 Fl (pre:=[(y,c),(x,d)]) (λp hp q e=>by
  simp[Fx] at hp e;rcases hp with rfl|rfl<;>rcases e with rfl|rfl
  .exact AsR h
  .exact AsR i
  .exact AsR f
  .exact AsR g)
theorem LG{a b x y X u st c d}(g:a≠x)(h:b≠x)(j:a≠y)(k:b≠y):∀i e,lk (Fx a X u b st) i=some e->lk ((y,c)::(x,d)::Fx a X u b st) i=some e:=
 zS (pre:=[(y,c),(x,d)]) λq f=>by
  simp at f;rcases f with rfl|rfl
  .exact Jm j k
  .exact Jm g h
theorem Aba(hM:BC O)(hT:Ca O)(N c:Nat)
  (ih:∀(ps:List Al) (cnt:Ad) (f b:Id) (X:WX) (u:Bool) (st:Ad×Int),zD X c->AV ps<N->cnt.length<=2^24->b≠f->Vj st->AV ps<=2^24->
   FQ π O 32 [.ref f 0,.sl (ps.map Al.enc),.s cnt] (Fx f X u b st) (cM f X b (BB st (Dt X ps cnt))))
  (p:Al)(cnt:Ad)(f b:Id)(X:WX)(u:Bool)(l:Ad)(hX:zD X c)(hN:p.wt<=N)(hc:cnt.length<=2^24)(aa:b≠f)(h:l.length<=20000)(ao:p.wt<=2^24) :
  FQ π O 52 [.ref f 0,p.enc,.s cnt] (Fx f X u b (l,0)) (cM f X b (BB (l,0) (xJ X p cnt))):=by
 have a0:=p.wt_eq;have e:=AkD X p cnt;generalize hE:xJ X p cnt=E at *;generalize hR:cM f X b (BB (l,0) E)=R;refine Ct Apa (by simp) λn0 ap=>?_;have hw:f.1<n0:=ap f _ (by simp[Fx,lk];rfl);have hb:b.1<n0:=ap b _ (by simp[Fx,lk,AsR aa];rfl);clear ap hE;obtain⟨x,F⟩:∃x:Id,x=(n0,4):=⟨_,rfl⟩
 have an:x.1=n0:=by rw[F]
 have m:f≠x:=λK=>by rw[K] at hw;omega
 have k:b≠x:=λK=>by rw[K] at hb;omega
 have a:(x=f)=False:=Amp (AsR m);have d:(f=x)=False:=Amp m;have C:(x=b)=False:=Amp (AsR k);have A:(b=x)=False:=Amp k;have B:(f=b)=False:=Amp (AsR aa);have t:(b=f)=False:=Amp aa;rw[KM];cases r:(p.kind==1) with
 | true=>rw[r] at e;simp only[Agp] at e;subst e;have aD:=Hz O f b X u l p.text aa (by omega);rw[KM] at aD;simp only[push_cast,seval,rq,r,<-F];intros;refine AY aD (C6 (Pl m k)) (λn2 v σo ae I=>?_);obtain⟨rfl,u1,b1,J,rfl⟩:=I;rw[LM m k];simp only[push_cast,seval,rq,r,<-F];intros;subst hR;exact⟨_,Aj.refl,[],_,trivial,F7,rfl,u1,b1,DZ J (by omega) (by simp only;omega),rfl⟩
 | false=>
  rw[r] at e;simp only[Agw,AfT] at e;cases G:(p.kind==10) with
  | true=>
   rw[G] at e;simp only[Agp] at e;subst e;have aC:=MQ O X.L hX.L.sym cnt [] (by omega);have aZ:=Gy X.L hX.L.sym cnt [] (by omega);have ak:=WA O f b X u l (Cw X.L cnt []) aa h (by omega);rw[KM] at ak;rw[Ce.enc_eq] at aC;generalize Cw X.L cnt []=NF at *;simp only[push_cast,seval,rq,r,G,<-F,AW,a]
   repeat' (first|(((first|apply Ac|apply Af|apply Ag)<;>intro _h)<;>simp only[push_cast,seval,rq,_h,r,G,<-F,AW,a])|(refine Ab (by exact aC) ?_;simp only[push_cast,seval,rq,r,G,<-F,AW,a])|intro _)
   refine AY ak (C6 (Pl m k)) (λn2 v σo ae I=>?_);obtain⟨rfl,u1,b1,J,rfl⟩:=I;rw[LM m k];simp only[push_cast,seval,rq,r,G,<-F,AW,a];intros;subst hR;exact⟨_,Aj.refl,[],_,trivial,F7,rfl,u1,b1,DZ J (by omega) (by simp only;omega),rfl⟩
  | false=>
   rw[G] at e;simp only[Agw,AfT] at e;cases S:(p.kind==11) with
   | true=>rw[S] at e;simp only[Agp] at e;subst e;have aA:=Abm O N c ih p cnt f b X u l hX (by omega) hc aa h ao;rw[Al.enc_eq,KM] at aA;simp only[push_cast,seval,rq,r,G,S,<-F];intros;refine AY aA (C6 (Pl m k)) (λn2 v σo ae I=>?_);obtain⟨rfl,u1,b1,J,rfl⟩:=I;rw[LM m k];simp only[push_cast,seval,rq,r,G,S,<-F];intros;subst hR;exact⟨_,Aj.refl,[],_,trivial,F7,rfl,u1,b1,DZ J (by omega) (by simp only;omega),rfl⟩
   | false=>
    rw[S] at e;simp only[Agw,AfT] at e;have M:=SY O X.vs p.name hX.n (λv hv=>(hX.vals v hv).1.len);cases e4:(p.kind==7||(p.kind==8||p.kind==9)) with
    | true=>
     rw[e4] at e;simp only[Agp] at e;have ai:=pP O X.L p X.vs hX.rules ao hX.n (λv hv=>⟨by have:=(hX.vals v hv).2;omega,(hX.vals v hv).1.len⟩);have aO:=@AkI X.L p X.vs;rw[Ce.enc_eq,Al.enc_eq] at ai;generalize HI X.L p X.vs=CH at *;obtain⟨ci,ce⟩:=CH;simp only at *;have az:((p.kind==7)=true/\(p.kind==8)=false/\(p.kind==9)=false)\/((p.kind==7)=false/\(p.kind==8)=true/\(p.kind==9)=false)\/((p.kind==7)=false/\(p.kind==8)=false/\(p.kind==9)=true):=by simp only[AyS,Amz] at e4;simp only[Amz,Ayq];omega
     cases hC:(ce==0) with
     | false=>
      rw[hC] at e;simp only[Agw,AfT] at e;subst e;subst hR;rcases az with⟨h7,h8,h9⟩|⟨h7,h8,h9⟩|⟨h7,h8,h9⟩
      all_goals
       skip;simp only[push_cast,seval,rq,r,G,S,bne,hC,h7,h8,h9,<-F,Jc,a,d,C,A,B,t]
       repeat' (first|(((first|apply Ac|apply Af|apply Ag)<;>intro _h)<;>simp only[push_cast,seval,rq,_h,r,G,S,bne,hC,h7,h8,h9,<-F,Jc,a,d,C,A,B,t])|((first|refine Ab (by exact ai) ?_|refine As (by simp only[Aaf,Aa8,Adu,Am]<;>omega) ?_);simp only[push_cast,seval,rq,r,G,S,bne,hC,h7,h8,h9,<-F,Jc,a,d,C,A,B,t])|intro _)
       exact⟨_,Aj.refl,[],Fx f X u b (l,ce),trivial,C6 (Jm m k),rfl,u,b,.inr rfl,rfl⟩
     | true=>
      rw[hC] at e;simp only[Agp] at e;obtain⟨v,i,cs,hv,rfl,hi⟩:=aO hC;have aB:=Au8 hi;have aY:=DM aB;have aN:=(Ath.1 hi).1;have j:(i<p.cases.length)=True:=Amy aN;have g:(p.cases.map AR.enc)[i]?=some (.agg [.s cs.1,.sl (cs.2.map Al.enc)]):=by rw[AtX,hi];simp[AR.enc_eq]
      have aL:=λcn=>VU X cn p.cases i cs hi;rw[hv] at M;simp only[Uh,gV,AvN] at M;rw[Cg.enc_eq] at M;obtain⟨aE,aq⟩:=hX.vals v (Gx hv);rw[A0P,aL] at e;simp only[Option.getD_some] at e;subst e;have al:=λcn (aM:cn.length<=2^24)=>ih cs.2 cn f b X u (l,0) hX (by omega) aM aa (λ_=>h) (by omega);simp only[KM] at al;rcases az with⟨h7,h8,h9⟩|⟨h7,h8,h9⟩|⟨h7,h8,h9⟩
      .have aj:SJ X p.kind p.name cnt=v.text:=by unfold SJ;rw[h9,hv];rfl
       rw[aj] at hR;simp only[push_cast,seval,rq,r,G,S,bne,hC,h7,h8,h9,<-F,AW,a,d,g,j,AaT]
       repeat' (first|(((first|apply Ac|apply Af|apply Ag)<;>intro _h)<;>simp only[push_cast,seval,rq,_h,r,G,S,bne,hC,h7,h8,h9,<-F,AW,a,d,g,j,AaT])|((first|refine Ab (by exact ai) ?_|refine Ab (by exact M) ?_|refine As (by simp only[Aaf,Aa8,Adu,Am]<;>omega) ?_);simp only[push_cast,seval,rq,r,G,S,bne,hC,h7,h8,h9,<-F,AW,a,d,g,j,AaT])|intro _)
       generalize hy:((_,8):Id)=y;have q:n0<y.1:=by rw[<-hy];simp only;omega
       have o:y≠f:=λK=>by rw[K] at q;omega
       have D:y≠b:=λK=>by rw[K] at q;omega
       have U:y≠x:=λK=>by rw[K,an] at q;omega
       have V:=Amp o;have W:=Amp (AsR o);have Y:=Amp U;have Z:=Amp (AsR U);simp only[push_cast,seval,rq,a,d,V,W,Y,Z,AW,g,j,AaT]
       repeat' (first|(((first|apply Ac|apply Af|apply Ag)<;>intro _h)<;>simp only[push_cast,seval,rq,_h,a,d,V,W,Y,Z,AW,g,j,AaT])|(refine As (by simp only[Aaf,Aa8,Adu,Am]<;>omega) ?_;simp only[push_cast,seval,rq,a,d,V,W,Y,Z,AW,g,j,AaT])|intro _)
       refine AY (al v.text aq) (LG (st:=(l,0)) m k (AsR o) (AsR D)) (λn2 v σo ae I=>?_);obtain⟨rfl,u1,b1,J,rfl⟩:=I;rw[<-KM,MD m k (AsR o) (AsR D)];simp only[push_cast,seval,rq,a,d,V,W,Y,Z,AW,g,j,AaT];intros;subst hR;exact⟨_,Aj.refl,[],_,trivial,λi z h=>BA h,rfl,u1,b1,DZ J (by omega) (by simp only;omega),rfl⟩
      .have aj:SJ X p.kind p.name cnt=v.text:=by unfold SJ;rw[h9,hv];rfl
       rw[aj] at hR;simp only[push_cast,seval,rq,r,G,S,bne,hC,h7,h8,h9,<-F,AW,a,d,g,j,AaT]
       repeat' (first|(((first|apply Ac|apply Af|apply Ag)<;>intro _h)<;>simp only[push_cast,seval,rq,_h,r,G,S,bne,hC,h7,h8,h9,<-F,AW,a,d,g,j,AaT])|((first|refine Ab (by exact ai) ?_|refine Ab (by exact M) ?_|refine As (by simp only[Aaf,Aa8,Adu,Am]<;>omega) ?_);simp only[push_cast,seval,rq,r,G,S,bne,hC,h7,h8,h9,<-F,AW,a,d,g,j,AaT])|intro _)
       generalize hy:((_,8):Id)=y;have q:n0<y.1:=by rw[<-hy];simp only;omega
       have o:y≠f:=λK=>by rw[K] at q;omega
       have D:y≠b:=λK=>by rw[K] at q;omega
       have U:y≠x:=λK=>by rw[K,an] at q;omega
       have V:=Amp o;have W:=Amp (AsR o);have Y:=Amp U;have Z:=Amp (AsR U);simp only[push_cast,seval,rq,a,d,V,W,Y,Z,AW,g,j,AaT]
       repeat' (first|(((first|apply Ac|apply Af|apply Ag)<;>intro _h)<;>simp only[push_cast,seval,rq,_h,a,d,V,W,Y,Z,AW,g,j,AaT])|(refine As (by simp only[Aaf,Aa8,Adu,Am]<;>omega) ?_;simp only[push_cast,seval,rq,a,d,V,W,Y,Z,AW,g,j,AaT])|intro _)
       refine AY (al v.text aq) (LG (st:=(l,0)) m k (AsR o) (AsR D)) (λn2 v σo ae I=>?_);obtain⟨rfl,u1,b1,J,rfl⟩:=I;rw[<-KM,MD m k (AsR o) (AsR D)];simp only[push_cast,seval,rq,a,d,V,W,Y,Z,AW,g,j,AaT];intros;subst hR;exact⟨_,Aj.refl,[],_,trivial,λi z h=>BA h,rfl,u1,b1,DZ J (by omega) (by simp only;omega),rfl⟩
      .have aj:SJ X p.kind p.name cnt=cnt:=by unfold SJ;rw[h9];rfl
       rw[aj] at hR;skip;simp only[push_cast,seval,rq,r,G,S,bne,hC,h7,h8,h9,<-F,AW,a,d,g,j,AaT]
       repeat' (first|(((first|apply Ac|apply Af|apply Ag)<;>intro _h)<;>simp only[push_cast,seval,rq,_h,r,G,S,bne,hC,h7,h8,h9,<-F,AW,a,d,g,j,AaT])|((first|refine Ab (by exact ai) ?_|refine As (by simp only[Aaf,Aa8,Adu,Am]<;>omega) ?_);simp only[push_cast,seval,rq,r,G,S,bne,hC,h7,h8,h9,<-F,AW,a,d,g,j,AaT])|intro _)
       refine AY (al cnt hc) (C6 (Pl m k)) (λn2 v σo ae I=>?_);obtain⟨rfl,u1,b1,J,rfl⟩:=I;rw[LM m k];simp only[push_cast,seval,rq,r,G,S,bne,hC,h7,h8,h9,<-F,AW,a,d,g,j,AaT];intros;subst hR;exact⟨_,Aj.refl,[],_,trivial,F7,rfl,u1,b1,DZ J (by omega) (by simp only;omega),rfl⟩
    | false=>
     rw[e4] at e;simp only[AyC] at e4;obtain⟨e5,e6,e7⟩:=e4;simp only[Agw,AfT] at e;cases hG:Hk X.vs p.name with
     | none=>
      rw[hG] at e M;simp only at e;subst e;simp only[Uh,gV,AbO,Aya] at M;simp only[push_cast,seval,rq,r,G,S,e5,e6,e7,<-F,Jc,lk,a,d,C,A,B,t]
      repeat' (first|(((first|apply Ac|apply Af|apply Ag)<;>intro _h)<;>simp only[push_cast,seval,rq,_h,r,G,S,e5,e6,e7,<-F,Jc,lk,a,d,C,A,B,t])|((first|refine Ab (by exact M) ?_|refine As (by simp only[Aaf,Aa8,Adu,Am]<;>omega) ?_);simp only[push_cast,seval,rq,r,G,S,e5,e6,e7,<-F,Jc,lk,a,d,C,A,B,t])|intro _)
      generalize hy:((_,10):Id)=y;have q:n0<y.1:=by rw[<-hy];simp only;omega
      have o:y≠f:=λK=>by rw[K] at q;omega
      have D:y≠b:=λK=>by rw[K] at q;omega
      have U:y≠x:=λK=>by rw[K,an] at q;omega
      have V:=Amp o;have W:=Amp (AsR o);have y3:=Amp D;have y4:=Amp (AsR D);have Y:=Amp U;have Z:=Amp (AsR U);simp only[push_cast,seval,rq,a,d,C,A,B,t,V,W,y3,y4,Y,Z]
      repeat' (first|(((first|apply Ac|apply Af|apply Ag)<;>intro _h)<;>simp only[push_cast,seval,rq,_h,a,d,C,A,B,t,V,W,y3,y4,Y,Z])|(refine As (by simp only[Aaf,Aa8,Adu,Am]<;>omega) ?_;simp only[push_cast,seval,rq,a,d,C,A,B,t,V,W,y3,y4,Y,Z])|intro _)
      subst hR;exact⟨_,Aj.refl,[],Fx f X u b (l,12),trivial,LG m k (AsR o) (AsR D),rfl,u,b,.inr rfl,rfl⟩
     | some v=>
      rw[hG] at e M;simp only at e;subst e;obtain⟨aE,aq⟩:=hX.vals v (Gx hG);have ah:=Ud O hM hT X.L c hX.L p v aE (by omega);have aK:=wV O hT X c hX p.kind p.style v (Gx hG);have ak:=WA O f b X u l (Lw X.L p.kind p.style v) aa h aK;rw[KM] at ak;rw[Ce.enc_eq,Al.enc_eq,Cg.enc_eq] at ah;simp only[Uh,gV,AvN] at M;rw[Cg.enc_eq] at M;generalize Lw X.L p.kind p.style v=NF at *;simp only[push_cast,seval,rq,r,G,S,e5,e6,e7,<-F,AW,a,d]
      repeat' (first|(((first|apply Ac|apply Af|apply Ag)<;>intro _h)<;>simp only[push_cast,seval,rq,_h,r,G,S,e5,e6,e7,<-F,AW,a,d])|((first|refine Ab (by exact M) ?_|refine Ab (by exact ah) ?_|refine As (by simp only[Aaf,Aa8,Adu,Am]<;>omega) ?_);simp only[push_cast,seval,rq,r,G,S,e5,e6,e7,<-F,AW,a,d])|intro _)
      generalize hy:((_,10):Id)=y;have q:n0<y.1:=by rw[<-hy];simp only;omega
      have o:y≠f:=λK=>by rw[K] at q;omega
      have D:y≠b:=λK=>by rw[K] at q;omega
      have U:y≠x:=λK=>by rw[K,an] at q;omega
      have V:=Amp o;have W:=Amp (AsR o);have y3:=Amp D;have y4:=Amp (AsR D);have Y:=Amp U;have Z:=Amp (AsR U);simp only[push_cast,seval,rq,a,d,V,W,Y,Z,AW]
      repeat' (first|(((first|apply Ac|apply Af|apply Ag)<;>intro _h)<;>simp only[push_cast,seval,rq,_h,a,d,V,W,Y,Z,AW])|((first|refine Ab (by exact ah) ?_|refine As (by simp only[Aaf,Aa8,Adu,Am]<;>omega) ?_);simp only[push_cast,seval,rq,a,d,V,W,Y,Z,AW])|intro _)
      refine AY ak (LG (st:=(l,0)) m k (AsR o) (AsR D)) (λn2 v σo ae I=>?_);obtain⟨rfl,u1,b1,J,rfl⟩:=I;rw[<-KM,MD m k (AsR o) (AsR D)];simp only[push_cast,seval,rq,a,d,V,W,Y,Z,AW];intros;subst hR;exact⟨_,Aj.refl,[],_,trivial,λi z h=>BA h,rfl,u1,b1,DZ J (by omega) (by simp only;omega),rfl⟩
theorem qY(Z:BC O)(hT:Ca O)(c:Nat):∀(N:Nat) (ps:List Al) (cnt:Ad) (a b:Id) (X:WX) (u:Bool) (st:Ad×Int),zD X c->AV ps<N->cnt.length<=2^24->b≠a->Vj st->AV ps<=2^24->
   FQ π O 32 [.ref a 0,.sl (ps.map Al.enc),.s cnt] (Fx a X u b st) (cM a X b (BB st (Dt X ps cnt))):=by
 intro N
 induction N with
 | zero=>intro ps cnt a b X u st _ h;omega
 | succ N ih=>
 intro ps cnt a t X u0 F hX hN hc j hI V;have U:=Fp ps;generalize hS:BB F (Dt X ps cnt)=S;generalize G:cM a X t S=R;refine Ct AqO (by simp) λn0 q=>?_;have hw:a.1<n0:=q a _ (by simp[Fx,lk];rfl);have ac:t.1<n0:=q t _ (by simp[Fx,lk,AsR j];rfl);clear q;simp only[push_cast,seval,rq];intros;refine Ak ps.length (Inv:=λm st=>∃dn d n u b w,ps=dn++d/\m=d.length/\BB w (Dt X d cnt)=S/\Vj w/\AV d<=AV ps/\n0<=n/\(n0<=b.1/\b.1<n\/b=t)/\st=⟨[(0,.ref a 0),(2,.s cnt),(8,.sl (ps.map Al.enc)),(9,.i .i64 ps.length),(10,.i .i64 dn.length)],Fx a X u b w,n⟩) ⟨_,Aj.refl,[],ps,_,u0,t,F,rfl,rfl,hS,hI,AfJ _,?_,.inr rfl,rfl⟩ ?_
 .omega
 clear hS hI;rintro m _ ⟨dn,d,n,u,b,w,r,rfl,o,hI,L,hn,y,rfl⟩;cases d with
 | nil=>rw[Ml] at o;simp only[BB] at o;subst o;simp only[push_cast,seval,rq,r];intros;subst G;exact⟨_,Aj.refl,[],_,trivial,λ_ _ h=>h,rfl,u,b,DZ y (AfJ _) (by simp only;omega),rfl⟩
 | cons p d=>
  have ad:=Ay r;rw[K3,Sm] at o;rw[Bw] at L;have ag:=p.wt_eq;have K:b≠a:=λg=>by rcases y with h|h;(rw[g] at h;omega);exact j (h ▸ g)
  obtain⟨x,W⟩:∃x:Nat->Id,x=λk=>(n+1+k,7):=⟨_,rfl⟩;have D:∀k,(n+1+k,7)=x k:=λk=>by rw[W]
  have E:∀k,(x k).1=n+1+k:=λk=>by rw[W]
  have f:∀k,a≠x k:=λk g=>by have:=E k;rw[<-g] at this;omega
  have z:∀k,b≠x k:=λk g=>by have:=E k;rw[<-g] at this;rcases y with h|h;omega;(rw[h] at this;omega)
  have A:∀k,lk (Fx a X u b w) (x k)=none:=λk=>Jm (f k) (z k);cases g:(w.2==0) with
  | false=>
   rw[DI w g,DI w g] at o;subst o;simp only[push_cast,seval,rq,r,Aa p (dn:=dn) (by omega),D,Js,Amp (f _),Amp (AsR (f _)),g,bne];intros;subst G;refine⟨_,Aj.refl,[],Fx a X u b w,trivial,?_,rfl,u,b,DZ y (AfJ _) (by simp only;omega),rfl⟩
   first|exact λ_ _ h=>h|exact C6 (A _)
  | true=>
   have C:w.2=0:=by simpa using g
   obtain⟨l,e⟩:=w;simp only at C;subst C;have M:=hI g;simp only at M;have I:=JS (xJ X p cnt) (l,0) hI;have B:=Aba O Z hT N c ih p cnt a b X u l hX (by omega) hc K M (by omega);rw[Al.enc_eq] at B;generalize BB (l,0) (xJ X p cnt)=w' at *;simp only[push_cast,seval,rq,r,Aa p (dn:=dn) (by omega),D,Js,Amp (f _),Amp (AsR (f _))];intros;refine AY B (C6 (A _)) (λn2 v σo af G=>?_);obtain⟨rfl,u1,Y,J,rfl⟩:=G;rw[Ry (f _) (z _)];simp only[push_cast,seval,rq,r,Aa p (dn:=dn) (by omega)];intros;exact⟨_,_,Adx _,Aj.pre (AfJ _),dn++[p],d,_,u1,Y,w',by simp,rfl,o,I,by rw[<-r];omega,by omega,WQ (DZ y (AfJ _) (by omega)) (DZ J (by omega) (by omega)),rfl⟩
def EM(L:Ce)(ps:List Al)(vs:List Cg)(a:Bool):Ad×Int:=
 if Fs ps then(if(BB ([],0) (Dt ⟨L,vs,a⟩ ps [])).2==0 then BB ([],0) (Dt ⟨L,vs,a⟩ ps []) else([],(BB ([],0) (Dt ⟨L,vs,a⟩ ps [])).2)) else([],1)
theorem Ox(F:BC O)(I:Ca O)(c:Nat)(L:Ce)(vs:List Cg)(d:Bool)(ps:List Al)(J:zD ⟨L,vs,d⟩ c)(D:AV ps<=2^24) :
  An π O 15 [L.enc,.sl (ps.map Al.enc),.sl (vs.map Cg.enc),.b d] [] (.tup [.s (EM L ps vs d).1,.i .i64 (EM L ps vs d).2]) []:=by
 have k:=Ab0 O ps D;have t:=λf b (g:b≠f)=>qY O F I c _ ps [] f b ⟨L,vs,d⟩ false ([],0) J (Adx _) (by simp) g (λ_=>by simp) D;have p:=JS (Dt ⟨L,vs,d⟩ ps []) ([],0) (λ_=>by simp);generalize hS:EM L ps vs d=S;unfold EM at hS;generalize Fs ps=E at *;generalize BB ([],0) (Dt ⟨L,vs,d⟩ ps [])=w at *;refine Ah (vs:=[.s S.1,.i .i64 S.2]) AmE (by simp) (by simp) λn0 B=>?_;clear B;cases E with
 | false=>
  simp only[Agw,AfT] at hS;subst hS;simp only[push_cast,seval,rq]
  repeat' (first|(((first|apply Ac|apply Af|apply Ag)<;>intro _h)<;>simp only[push_cast,seval,rq,_h])|((first|refine Ab (by exact k) ?_|refine As (by simp only[Aaf,Aa8,Adu,Am]<;>omega) ?_);simp only[push_cast,seval,rq])|intro _)
  refine Ai ?_;simp[push_cast,get]
 | true=>
  simp only[Agp] at hS;simp only[push_cast,seval,rq]
  repeat' (first|(((first|apply Ac|apply Af|apply Ag)<;>intro _h)<;>simp only[push_cast,seval,rq,_h])|(refine Ab (by exact k) ?_;simp only[push_cast,seval,rq])|intro _)
  rename_i k1 k2 k3;obtain⟨f,m⟩:∃x:Id,x=(n0+1+k1+1+k2,18):=⟨_,rfl⟩
  have o:f.1<n0+1+k1+1+k2+1+k3:=by rw[m];simp only;omega
  rw[<-m];generalize n0+1+k1+1+k2+1+k3=C at o⊢;have g:((C,0):Id)≠f:=λj=>by rw[<-j] at o;simp only at o;omega
  refine GZ (((Aj.pre (AfJ _) (σ:=[_])).trans (Aj.ownTbox (A:=[.np]) 5 1 0)).trans (Aj.drop (σ':=Fx f ⟨L,vs,d⟩ false (C,0) ([],0)) (J2 (AsR g)) (AfJ _))) ?_;simp only[push_cast,seval,rq];intros;refine AY (t f (C,0) g) (λ_ _ h=>h) (λR v σo N G=>?_);obtain⟨rfl,u,b,K,rfl⟩:=G;have q:b≠f:=λj=>by rcases K with h|h;(rw[j] at h;omega);exact g (h ▸ j)
  rw[G9];cases j:(w.2==0) with
  | false=>rw[j] at hS;simp only[Agw,AfT] at hS;subst hS;simp only[push_cast,seval,rq,Js,j,bne];intros;refine Ai ?_;simp[push_cast,get]
  | true=>
   rw[j] at hS;simp only[Agp] at hS;subst hS;have M:=p j;have z:w.2=0:=by simpa using j
   obtain⟨l,e⟩:=w;simp only at z M;subst z;simp only[push_cast,seval,rq,Js];intros;have y:=O3 (O:=O) (T:=TW) (id:=f) (bid:=b) (l:=l) (a:=wA u f) (r:=[.s L.tag,.s L.parent,.s L.dir,.sl (L.card.map AH.enc),.sl (L.ord.map AH.enc),.s L.dec,.s L.grp,.s L.minus,.s L.perc,.i .i64 L.prim,.i .i64 L.sec,.sl (L.lists.map Cp.enc),.sl (L.units.map De.enc),.sl (L.dates.map CJ.enc),.sl (L.months.map V.s),.sl (L.days.map V.s),.sl (vs.map Cg.enc),.b d,.i .i64 0]) q (by unfold Am;omega);refine BJ y (λ_ _ h=>h) ?_;simp only[push_cast,seval,rq,Js];intros;refine Ai ?_;simp[push_cast,get]
end Go.Ir
end
namespace Go.Ir
end Go.Ir

namespace Go.Ir
open Go.Proofs
variable(O:World)
theorem zR c:Dj c=letters52.contains c:=by
 have h:∀n:_root_.Fin 256,Dj (UInt8.ofNat n.val)=letters52.contains (UInt8.ofNat n.val):=by decide +kernel
 have:=h ⟨c.toNat,c.toNat_lt⟩;simpa using this
theorem YH(p:Ad):Lib.trimLeftS p letters52=p.drop (p.takeWhile Dj).length/\p.length-(Lib.trimLeftS p letters52).length=(p.takeWhile Dj).length:=by
 have a:Lib.trimLeftS p letters52=p.dropWhile Dj:=by unfold Lib.trimLeftS;congr 1;funext c;rw[zR]
 have b:p.takeWhile Dj++p.dropWhile Dj=p:=AzW;grind
theorem eV(l:Ca O) x c (r:Oi x c):∀(n) (p) (out g),CF n p out=some g->out.length<=g.length/\∀(m) (a),(BK x m p a).1.length<=a.length+p.length+(g.length-out.length)*c:=by
 intro n
 induction n with
 | zero=>intro p out g h;simp[CF] at h
 | succ n i=>
  intro p out g h;rw[CF] at h;have ⟨t1,t2⟩:=YH p;rw[t2,t1] at h;split at h
  .rename_i d;cases h;refine⟨AfJ _,λm a=>?_⟩;cases m with
   | zero=>rw[BK];simp only;omega
   | succ m=>rw[BK,Aiv d];simp only;omega
  .rename_i d;have o:1<=p.length:=by grind
   have q:(p.takeWhile Dj).length<=p.length:=(List.takeWhile_sublist _).length_le;generalize e:(p.takeWhile Dj).length=k at *;split at h
   .rename_i j;have b:k=0:=by simp_all
    have ⟨i1,i2⟩:=i _ _ _ h;refine⟨i1,λm a=>?_⟩;cases m with
    | zero=>rw[BK];simp only;omega
    | succ m=>rw[BK,Amt d,e,Aiv (by simp[b])];grind
   .rename_i j;have b:1<=k:=by grind
    split at h
    .have ⟨i1,i2⟩:=i _ _ _ h;rw[Aaf,List.length_singleton] at i1 i2;refine⟨by omega,λm a=>?_⟩;have f:(g.length-out.length)*c=(g.length-(out.length+1))*c+c:=by rw[show g.length-out.length=(g.length-(out.length+1))+1 by omega,Nat.succ_mul]
     cases m with
     | zero=>rw[BK];simp only;omega
     | succ m=>have s:=Nt O l x c r (p.take k);rw[BK,Amt d,e,Amt (by simp;omega)];grind
    .cases h
theorem Tn:∀(n) (p) (out g),CF n p out=some g->(∀f∈out,FO f=true)->∀f∈g,FO f=true:=by
 intro n
 induction n with
 | zero=>intro p out g h;simp[CF] at h
 | succ n b=>intro p out g h a;rw[CF] at h;grind
theorem Vz{f}(h:FO f=true):f.take 1∈kinds4:=by unfold FO fieldNames at h;simp only[A0A,Avx] at h;simp only[Auy,AxH,or_false] at h;rcases h with rfl|rfl|rfl|rfl|rfl|rfl|rfl<;>decide
theorem Qd{Q:List Ad}(f:Q.Pairwise (λx y=>x<=y))(a:(Lib.compact Q).length=Q.length):Q.Nodup:=by
 unfold Lib.compact Lib.compactUpTo at a;rw[AaT] at a;have b:((List.range Q.length).filter (Lib.keeps Q.toArray)).length=(List.range Q.length).length:=by rw[a,List.length_range]
 rw[List.length_filter_eq_length_iff] at b;rw[List.pairwise_iff_getElem] at f;unfold List.Nodup;rw[List.pairwise_iff_getElem];intro i j h d c g;have e:=b j (by simpa using d);unfold Lib.keeps at e;grind
theorem vM{p}(h:b9 p=true):∃g,H4 p=some g/\g.length<=4:=by
 have:∃l,Ec l p=true:=by unfold b9 at h;simp only[AyX] at h;grind
 have ⟨l,h⟩:=this;unfold Ec at h;split at h
 .rename_i w g s d;simp only[AcR] at h;refine⟨g,d,?_⟩;have e:=h.2.1;unfold G5 at e;simp only[Amz] at e;have k:(Lr (g.map λf=>f.take 1)).length=g.length:=by unfold Lr;simp_all
  have o:=Qd (Q:=Lr (g.map λf=>f.take 1)) (by unfold Lr;have:=List.pairwise_mergeSort (le:=fun(x y:Ad)=>decide (x<=y)) (λa b c q r=>by grind) (λa b=>by grind) (g.map λf=>f.take 1);simpa using this) (by rw[e,k]);have j:=YJ o (b:=kinds4) λx i=>by unfold Lr at i;rw[List.mem_mergeSort] at i;obtain⟨f,m,rfl⟩:=Awt.1 i;unfold H4 at d;exact Vz (Tn _ _ _ _ d (by simp) f m)
  rw[k] at j;exact j
 .cases h
theorem S6(e:Ca O) L c (b:oZ L c)(f:c<=2^20) k d:(DP L k d).1.length<=2^24:=by
 unfold DP;cases h:Et d with
 | false=>simp
 | true=>
  have ⟨q1,q2,q3,q4,q5,q6⟩:=Qa h;have a:Oi (Je L d) c:=by
   have l:(d+25567).tmod 7<7:=Int.tmod_lt_of_pos _ (by omega);refine⟨?_,q3,q4,?_,?_,b.c24,b.ml,b.dl⟩
   .show(HC d).1.toNat<_;omega
   .show((FP d).2+1).toNat<_;omega
   .show((d+25567).tmod 7).toNat<_;omega
  simp only[Agp];split
  .simp
  .split
   .split
    .rename_i p hp;split
     .rename_i i;have ⟨g,hg,h4⟩:=vM i;unfold H4 at hg;have j:=(b.pt p (Au8 hp)).1;have:=(eV O e (Je L d) c a _ _ _ _ hg).2 (p.pat.length+1) [];unfold H8;have m:(g.length-0)*c<=4*2^20:=A0M (by omega) f;grind
     .simp
    .simp
   .simp
theorem Ex{a f}:∀{l} {x:a},x∈l->f x<=Bt f l
 | [],x,h=>by cases h
 | y::l,x,h=>by
  rw[Bt];rcases Auy.1 h with rfl|h
  .omega
  .have:=Ex (f:=f) h;omega
theorem Ab3 a b (h:a+b<=40026):a*b<=2^29:=by
 have key:∀a k:Nat,2*a+k<=40026->a*(a+k)<=2^29:=by intro a k h;have c:(2*a+k)*(2*a+k)<=40026*40026:=A0M h h;grind
 rcases Nat.le_total a b with c|c
 .obtain⟨k,rfl⟩:∃k,b=a+k:=⟨b-a,by omega⟩;exact key a k (by omega)
 .obtain⟨k,rfl⟩:∃k,a=b+k:=⟨a-b,by omega⟩;grind
theorem AiA L (h:Jr L<=40000)(hp:-9223372036854775808<=L.prim)(a:L.sec<9223372036854775808)(i:A9 L.card+A9 L.ord<=2^24):kB L (E6 L.months+E6 L.days+24)/\E6 L.months+E6 L.days+24<=2^20:=by
 have c:E6 [L.tag,L.parent,L.dir,L.dec,L.grp,L.minus,L.perc]=Gp L.tag+(Gp L.parent+(Gp L.dir+(Gp L.dec+(Gp L.grp+(Gp L.minus+(Gp L.perc+0)))))):=rfl;unfold Jr at h;rw[c] at h;unfold Gp at h;have l1:L.lists.length<=Bt Cp.sz L.lists:=CX (λx=>by unfold Cp.sz E6;simp only[Bt,Gp];omega) _;have j:L.units.length<=Bt De.sz L.units:=CX (λx=>by unfold De.sz E6;simp only[Bt,Gp];omega) _;have k:L.dates.length<=Bt CJ.sz L.dates:=CX (λx=>by unfold CJ.sz E6;simp only[Bt,Gp];omega) _;have g:∀s∈L.months,s.length<=E6 L.months:=λs a=>by have:=Ex (f:=Gp) a;unfold E6;unfold Gp at this⊢;omega
 have b:∀s∈L.days,s.length<=E6 L.days:=λs a=>by have:=Ex (f:=Gp) a;unfold E6;unfold Gp at this⊢;omega
 refine⟨⟨⟨?_,?_,?_,?_,hp,a⟩,⟨by omega,λu d=>?_⟩,⟨by omega,λp hp=>?_⟩,⟨by omega,λs a=>?_,λs a=>?_,by omega,λp hp=>?_,λp hp=>?_⟩,by omega⟩,by omega⟩
 .omega
 .omega
 .omega
 .omega
 .have:=Ex (f:=De.sz) d;unfold De.sz E6 at this;simp only[Bt,Gp] at this;unfold De.sz E6 at h;simp only[Bt,Gp] at h;omega
 .have:=Ex (f:=Cp.sz) hp;have e:Cp.sz p=p.style.length+p.two.length+p.start.length+p.mid.length+p.fin.length+(Cp.sz p-(p.style.length+p.two.length+p.start.length+p.mid.length+p.fin.length)):=by unfold Cp.sz E6;simp only[Bt,Gp];omega
  omega
 .have:=g s a;omega
 .have:=b s a;omega
 .have:=Ex (f:=CJ.sz) hp;have e:p.skel.length+p.pat.length<=CJ.sz p:=by unfold CJ.sz E6;simp only[Bt,Gp];omega
  omega
 .have:=Ex (f:=CJ.sz) hp;have e:p.skel.length+p.pat.length<=CJ.sz p:=by unfold CJ.sz E6;simp only[Bt,Gp];omega
  refine⟨by omega,Ab3 _ _ (by omega)⟩
end Go.Ir

namespace Go.Ir
open Go.Proofs Go.RowKit
variable(O:World)
def J6(a:Type):V->Option (List a):=RD λ_=>none
theorem EG{a} enc:Iv (J6 a) λl=>.sl (l.map enc):=HT λv x h=>by cases h
def iH:V->Option Ce
 | .agg [a,b,c,h,i,d,e,f,g,p,q,j,k,l,m,o]=>(DL a).bind λa=>(DL b).bind λb=>(DL c).bind λc=>(J6 AH h).bind λh=>(J6 AH i).bind λi=>(DL d).bind λd=>(DL e).bind λe=>(DL f).bind λf=>(DL g).bind λg=>(IL p).bind λp=>(IL q).bind λq=>(J6 Cp j).bind λj=>(J6 De k).bind λk=>(J6 CJ l).bind λl=>(J6 Ad m).bind λm=>(J6 Ad o).bind λo=>some ⟨a,b,c,h,i,d,e,f,g,p,q,j,k,l,m,o⟩
 | _=>none
theorem uO:Iv iH Ce.enc:=by
 intro v l h;unfold iH at h;split at h
 .have ⟨a,h0,h⟩:=AjD.1 h;have ⟨b,h1,h⟩:=AjD.1 h;have ⟨c,h2,h⟩:=AjD.1 h;have ⟨x1,h3,h⟩:=AjD.1 h;have ⟨x2,h4,h⟩:=AjD.1 h;have ⟨d,h5,h⟩:=AjD.1 h;have ⟨e,h6,h⟩:=AjD.1 h;have ⟨f,h7,h⟩:=AjD.1 h;have ⟨g,h8,h⟩:=AjD.1 h;have ⟨p,h9,h⟩:=AjD.1 h;have ⟨q,h10,h⟩:=AjD.1 h;have ⟨y1,h11,h⟩:=AjD.1 h;have ⟨y2,h12,h⟩:=AjD.1 h;have ⟨y3,h13,h⟩:=AjD.1 h;have ⟨y4,h14,h⟩:=AjD.1 h;have ⟨y5,h15,h⟩:=AjD.1 h;cases h;rw[Ce.enc_eq];refine⟨.agg _ _ rfl λj c m k i=>?_,rfl,rfl,rfl⟩
  match j with
  | 0=>simp at k i;subst k i;exact(BR _ _ h0).1
  | 1=>simp at k i;subst k i;exact(BR _ _ h1).1
  | 2=>simp at k i;subst k i;exact(BR _ _ h2).1
  | 3=>simp at k i;subst k i;exact(EG _ _ _ h3).1
  | 4=>simp at k i;subst k i;exact(EG _ _ _ h4).1
  | 5=>simp at k i;subst k i;exact(BR _ _ h5).1
  | 6=>simp at k i;subst k i;exact(BR _ _ h6).1
  | 7=>simp at k i;subst k i;exact(BR _ _ h7).1
  | 8=>simp at k i;subst k i;exact(BR _ _ h8).1
  | 9=>simp at k i;subst k i;exact(FZ _ _ h9).1
  | 10=>simp at k i;subst k i;exact(FZ _ _ h10).1
  | 11=>simp at k i;subst k i;exact(EG _ _ _ h11).1
  | 12=>simp at k i;subst k i;exact(EG _ _ _ h12).1
  | 13=>simp at k i;subst k i;exact(EG _ _ _ h13).1
  | 14=>simp at k i;subst k i;exact(EG _ _ _ h14).1
  | 15=>simp at k i;subst k i;exact(EG _ _ _ h15).1
  | j+16=>simp at k
 .cases h
def Up:V->Option Cg
 | .agg [a,b,c,d,e]=>(DL a).bind λa=>(IL b).bind λb=>(DL c).bind λc=>(IL d).bind λd=>(J6 Ad e).bind λe=>some ⟨a,b,c,d,e⟩
 | _=>none
theorem Zw:Iv Up Cg.enc:=by
 intro v l h;unfold Up at h;split at h
 .have ⟨a,h0,h⟩:=AjD.1 h;have ⟨b,h1,h⟩:=AjD.1 h;have ⟨c,h2,h⟩:=AjD.1 h;have ⟨d,h3,h⟩:=AjD.1 h;have ⟨e,h4,h⟩:=AjD.1 h;cases h;rw[Cg.enc_eq];refine⟨.agg _ _ rfl λj c i g f=>?_,rfl,rfl,rfl⟩
  match j with
  | 0=>simp at g f;subst g f;exact(BR _ _ h0).1
  | 1=>simp at g f;subst g f;exact(FZ _ _ h1).1
  | 2=>simp at g f;subst g f;exact(BR _ _ h2).1
  | 3=>simp at g f;subst g f;exact(FZ _ _ h3).1
  | 4=>simp at g f;subst g f;exact(EG _ _ _ h4).1
  | j+5=>simp at g
 .cases h
def Ah7(L:Ce)(ps:List Al)(vs:List Cg):Bool:=
 Nat.ble (Jr L) 40000&&(Nat.ble (A9 L.card+A9 L.ord) 1000000&&(decide (-9223372036854775808<=L.prim)&&(decide (L.sec<9223372036854775808)&&(Nat.ble (AV ps) 1000000&&(Nat.ble vs.length 1000&&vs.all λv=>Nat.ble v.text.length 1000000&&v.list.isEmpty)))))
def P8:List V->Option V
 | [l,ps,vs,.b a]=>(iH l).bind λL=>(RD (a8 40) ps).bind λps=>(RD Up vs).bind λvs=>bif Ah7 L ps vs then some (.tup [.s (EM L ps vs a).1,.i .i64 (EM L ps vs a).2]) else none
 | _=>none
theorem fW(c:Ca O) L vs a (h:Jr L<=40000)(hp:-9223372036854775808<=L.prim)(f:L.sec<9223372036854775808)(b:A9 L.card+A9 L.ord<=2^24)(e:vs.length<=2^40)(g:∀v∈vs,W4 v/\v.text.length<=2^24):zD ⟨L,vs,a⟩ (E6 L.months+E6 L.days+24):=by have ⟨h1,h2⟩:=AiA L h hp f b;exact⟨h1,b,g,e,λi d=>S6 O c L _ h1.dat h2 i d⟩
theorem uR(q:BC O)(f:Ca O):AX π O (onP 15 P8):=eQ λargs v h=>by
 unfold P8 at h;split at h
 .rename_i z A B e;obtain⟨L,m,h⟩:=AjD.1 h;obtain⟨ps,o,h⟩:=AjD.1 h;obtain⟨vs,p,h⟩:=AjD.1 h;cases d:Ah7 L ps vs with
  | false=>rw[d] at h;cases h
  | true=>
   rw[d] at h;cases h;unfold Ah7 at d;simp only[AcR,Avx,As7,A0b,AzR] at d;obtain⟨g,u,i,j,x,y,l⟩:=d;have r:=fW O f L vs e g i j (by omega) (by omega) λv s=>by obtain⟨q1,q2⟩:=l v s;exact⟨⟨by omega,by rw[q2];simp,by rw[q2];simp⟩,by omega⟩
   refine⟨Ih (Ox O q f _ L vs e ps r (by omega)) rfl λk a t c b=>?_,rfl⟩
   match k with
   | 0=>simp at c b;subst c b;exact(uO _ _ m).1
   | 1=>simp at c b;subst c b;exact(HT (PU 40) _ _ o).1
   | 2=>simp at c b;subst c b;exact(HT Zw _ _ p).1
   | 3=>simp at c b;subst c b;exact .refl _
   | k+4=>simp at c
 .cases h
end Go.Ir
section
set_option maxRecDepth 100000
namespace Go.Ir
open Go.Proofs
def AiY:IC:=rS [m1 3 0,bC 4 .geq 3 (.i .u8 97),m1 5 4,B0 6 5 0,gT 7 5 (.bin .leq (.t 6) (.c (.i .u8 122))),pA 8 5 7,m1 9 8,Bn 10 9 0,gF 11 9 (.bin .geq (.t 10) (.c (.i .u8 65))),Bn 12 9 11,B0 13 12 0,gT 14 12 (.bin .leq (.t 13) (.c (.i .u8 90))),gF 15 9 (.pick (.t 12) (.t 14) (.c (.b false))),pO 16 9 15,m1 17 16,Bn 18 17 0,gF 19 17 (.bin .geq (.t 18) (.c (.i .u8 48))),Bn 20 17 19,B0 21 20 0,gT 22 20 (.bin .leq (.t 21) (.c (.i .u8 57))),gF 23 17 (.pick (.t 20) (.t 22) (.c (.b false))),pO 24 17 23,m1 2 24] [2] .ret
def Aj1:IC:=rS [mC 2 (.b false)] [0] AiY
def Af7:ET:=⟨25,Aj1,[.t 2]⟩
theorem Ale:Cy π 158 Af7=true:=by kernel_rfl
def Ac2:IC:=rS [m1 9 0,m1 10 3,o1 11 (.idx (.t 9) (.t 10)),q1 12 158 11,nT 13 12,m1 14 13,B0 15 14 0,B0 16 14 3,gT 17 14 (.idx (.t 15) (.t 16)),gT 18 14 (.bin .neq (.t 17) (.c (.i .u8 95))),pA 19 14 18,m1 20 19,B0 21 20 0,B0 22 20 3,gT 23 20 (.idx (.t 21) (.t 22)),gT 24 20 (.bin .neq (.t 23) (.c (.i .u8 45))),pA 25 20 24,m1 26 25,B0 27 26 0,B0 28 26 3,gT 29 26 (.idx (.t 27) (.t 28)),gT 30 26 (.bin .neq (.t 29) (.c (.i .u8 46))),pA 31 26 30,m1 32 31,B0 33 32 0,B0 34 32 3,gT 35 32 (.idx (.t 33) (.t 34)),gT 36 32 (.bin .neq (.t 35) (.c (.i .u8 61))),pA 37 32 36] [0,3,5,6,37] (cD 37 (rS [m1 38 3,m1 2 38] [2] .ret) .skip)
def AlA:IC:=rS [bT 7 .lss 6 5] [0,5,6,7] (sQ (cD 7 .skip (.exit 0)) (sQ (.block 1 (rS [m1 8 6,m1 3 8] [0,3,5,6] Ac2)) (.seqr [bZ 39 .add 6 1,m1 6 39] [0,5,6])))
def AjL:IC:=rS [mZ 2 0] [0] (sQ (rS [m1 4 0,nS 5 4,mZ 6 0] [0,5,6] (.block 0 (.loop AlA))) (rS [m1 40 0,nS 41 40,m1 2 41] [2] .ret))
def Afi:ET:=⟨42,AjL,[.t 2]⟩
theorem Aho:Cy π 114 Afi=true:=by kernel_rfl
def Ald:IC:=rS [m1 5 0,nS 6 5,m1 7 1,nS 8 7,bT 9 .geq 6 8,m1 10 9,B0 11 10 0,B0 12 10 0,gT 13 10 (.lenS (.t 12)),B0 14 10 1,gT 15 10 (.lenS (.t 14)),gT 16 10 (.bin .sub (.t 13) (.t 15)),gT 17 10 (.slS (.t 11) (some (.t 16)) none),B0 18 10 1,gT 19 10 (.bin .eql (.t 17) (.t 18)),pA 20 10 19,m1 4 20] [4] .ret
def Aj4:IC:=rS [mC 4 (.b false)] [0,1] Ald
def Afa:ET:=⟨21,Aj4,[.t 4]⟩
theorem Aln:Cy π 227 Afa=true:=by kernel_rfl
def AlC:IC:=sQ (rS [m1 6 0,m1 7 1,q2 8 227 6 7,nT 9 8] [0,1,9] (cD 9 (rS [m1 10 0,m1 4 10,mC 5 (.b false)] [4,5] .ret) .skip)) (rS [m1 11 0,m1 12 0,nS 13 12,m1 14 1,nS 15 14,bT 16 .sub 13 15,o1 17 (.slS (.t 11) none (some (.t 16))),m1 4 17,mC 5 (.b true)] [4,5] .ret)
def AiK:IC:=rS [mC 4 (.s []),mC 5 (.b false)] [0,1] AlC
def AeI:ET:=⟨18,AiK,[.t 4,.t 5]⟩
theorem Ah2:Cy π 197 AeI=true:=by kernel_rfl
def Al3:IC:=rS [mC 4 (.s []),mC 5 (.b false)] [0,1] (rS [m1 6 0,m1 7 1,q2 8 197 6 7,xT 9 8 0,xT 10 8 1,m1 4 9,m1 5 10] [4,5] .ret)
def AfN:ET:=⟨11,Al3,[.t 4,.t 5]⟩
theorem Ai2:Cy π 160 AfN=true:=by kernel_rfl
def AbE:IC:=rS [m1 26 0,m1 27 3,o1 28 (.idx (.t 26) (.t 27)),q1 29 158 28,nT 30 29,m1 31 30,B0 32 31 0,B0 33 31 3,gT 34 31 (.idx (.t 32) (.t 33)),gT 35 31 (.bin .neq (.t 34) (.c (.i .u8 95))),pA 36 31 35,m1 37 36,B0 38 37 0,B0 39 37 3,gT 40 37 (.idx (.t 38) (.t 39)),gT 41 37 (.bin .neq (.t 40) (.c (.i .u8 45))),pA 42 37 41] [0,22,23,42] (cD 42 (rS [mC 2 (.b false)] [2] .ret) .skip)
def Aas:IC:=rS [bT 24 .lss 23 22] [0,22,23,24] (sQ (cD 24 .skip (.exit 0)) (sQ (.block 1 (rS [m1 25 23,m1 3 25] [0,3,22,23] AbE)) (.seqr [bZ 43 .add 23 1,m1 23 43] [0,22,23])))
def Ajt:IC:=sQ (rS [m1 4 0,bC 5 .eql 4 (.s []),m1 6 5,Bn 7 6 0,gF 8 6 (.lenS (.t 7)),Dv 9 6 .gtr 8 40,pO 10 6 9,m1 11 10,Bn 12 11 0,gF 13 11 (.idx (.t 12) (ci 0)),gF 14 11 (.bin .lss (.t 13) (.c (.i .u8 97))),pO 15 11 14,m1 16 15,Bn 17 16 0,gF 18 16 (.idx (.t 17) (ci 0)),gF 19 16 (.bin .gtr (.t 18) (.c (.i .u8 122))),pO 20 16 19] [0,20] (cD 20 (rS [mC 2 (.b false)] [2] .ret) .skip)) (sQ (rS [m1 21 0,nS 22 21,mZ 23 0] [0,22,23] (.block 0 (.loop Aas))) (rS [mC 2 (.b true)] [2] .ret))
def AlN:IC:=rS [mC 2 (.b false)] [0] Ajt
def Aew:ET:=⟨44,AlN,[.t 2]⟩
theorem Aih:Cy π 124 Aew=true:=by kernel_rfl
def Aam:IC:=rS [m1 25 3,o1 26 (.call 160 [.t 25,.c (.s [47])]),m1 24 26,xT 27 24 0,xT 28 24 1,m1 8 27,m1 9 28] [2,3,5,8,9] (rS [m1 29 9] [2,3,5,8,29] (cD 29 (.seqr [m1 30 8,mZ 2 7,m1 3 30] [2,3,5]) .skip))
def Adg:IC:=sQ (rS [m1 31 3,q1 32 124 31,nT 33 32] [2,3,5,33] (cD 33 (rS [mZ 2 0,mC 3 (.s []),mZ 4 0] [2,3,4] .ret) .skip)) (rS [m1 34 2,m1 35 3,m1 36 5,bZ 37 .add 36 1,m1 2 34,m1 3 35,m1 4 37] [2,3,4] .ret)
def AbG:IC:=sQ (rS [m1 18 3,o1 19 (.call 136 [.t 18,.c (.s [47])]),m1 17 19,xT 20 17 0,xT 21 17 1,m1 6 20,m1 7 21] [2,3,5,6,7] (rS [m1 22 7] [2,3,5,6,22] (cD 22 (.seqr [m1 23 6,mZ 2 6,m1 3 23] [2,3,5]) Aam))) Adg
def Aii:IC:=rS [m1 10 0,o1 11 (.call 159 [.t 10,.c (.i .u8 62)]),m1 5 11] [0,5] (sQ (rS [m1 12 5,bZ 13 .lss 12 0] [0,5,13] (cD 13 (rS [mZ 2 0,mC 3 (.s []),mZ 4 0] [2,3,4] .ret) .skip)) (sQ (.ops [m1 14 0,m1 15 5,o1 16 (.slS (.t 14) (some (ci 1)) (some (.t 15))),mZ 2 5,m1 3 16] [2,3,5] [[0,2],[1,2],[2,4]]) AbG))
def AhW:IC:=rS [mZ 2 0,mC 3 (.s []),mZ 4 0] [0] Aii
def Ad5:ET:=⟨38,AhW,[.t 2,.t 3,.t 4]⟩
theorem Al2:Cy π 115 Ad5=true:=by kernel_rfl
def zX:IC:=rS [bC 8 .eql 3 (.i .u8 62),m1 4 8] [3,4] (cD 4 .skip (rS [bC 9 .eql 3 (.i .u8 35),m1 4 9] [3,4] (cD 4 .skip (.seqr [bC 10 .eql 3 (.i .u8 92),m1 4 10] [4]))))
def Aj9:IC:=.block 0 (sQ (rS [bC 5 .eql 3 (.i .u8 123),m1 4 5] [3,4] (cD 4 .skip (rS [bC 6 .eql 3 (.i .u8 125),m1 4 6] [3,4] (cD 4 .skip (rS [bC 7 .eql 3 (.i .u8 60),m1 4 7] [3,4] (cD 4 .skip zX)))))) (cD 4 (rS [mC 2 (.b true)] [2] .ret) .skip))
def AlB:IC:=rS [mC 2 (.b false)] [0] (sQ (rS [m1 3 0] [3] Aj9) (rS [mC 2 (.b false)] [2] .ret))
def Ag0:ET:=⟨11,AlB,[.t 2]⟩
theorem Ajh:Cy π 125 Ag0=true:=by kernel_rfl
def Abt:IC:=sQ (rS [m1 15 0,m1 16 3,o1 17 (.idx (.t 15) (.t 16)),bC 18 .neq 17 (.i .u8 92),m1 19 18,Bn 20 19 3,Dv 21 19 .add 20 1,Bn 22 19 0,gF 23 19 (.lenS (.t 22)),gF 24 19 (.bin .eql (.t 21) (.t 23)),pO 25 19 24,m1 26 25,Bn 27 26 0,Bn 28 26 3,Dv 29 26 .add 28 1,gF 30 26 (.idx (.t 27) (.t 29)),gF 31 26 (.call 125 [.t 30]),gF 32 26 (.not (.t 31)),pO 33 26 32] [0,3,33] (cD 33 (rS [m1 34 3,m1 2 34] [2] .ret) .skip)) (.seqr [m1 35 3,bZ 36 .add 35 1,m1 3 36] [0,3])
def Acr:IC:=sQ (.block 1 (sQ (rS [m1 10 0,m1 11 3,o1 12 (.idx (.t 10) (.t 11)),q1 13 125 12,nT 14 13] [0,3,14] (cD 14 (.exit 1) .skip)) Abt)) (.seqr [m1 8 3,bZ 9 .add 8 1,m1 3 9] [0,3])
def AkB:IC:=sQ (rS [mZ 3 0] [0,3] (.block 0 (.loop (sQ (rS [m1 4 3,m1 5 0,nS 6 5,bT 7 .lss 4 6] [0,3,7] (cD 7 .skip (.exit 0))) Acr)))) (rS [m1 37 0,nS 38 37,m1 2 38] [2] .ret)
def Ai3:IC:=rS [mZ 2 0] [0] AkB
def AdP:ET:=⟨39,Ai3,[.t 2]⟩
theorem AiZ:Cy π 116 AdP=true:=by kernel_rfl
def Aix:IC:=cD 39 (rS [m1 42 0,q1 43 115 42,xT 44 43 0,xT 45 43 1,xT 46 43 2,m1 4 44,m1 5 45,m1 6 46] [4,5,6] .ret) (.seqr [m1 10 0,q1 11 116 10,mZ 4 1,m1 6 11] [0,4,6])
def AkL:IC:=cD 34 (sQ (.ops [m1 37 0,o1 38 (.slS (.t 37) none (some (ci 1))),mZ 4 4,m1 5 38,mZ 6 1] [4,5,6] [[0,1],[1,3]]) .ret) (rS [m1 40 7,bC 41 .eql 40 (.i .u8 60),m1 39 41] [0,39] Aix)
def AhB:IC:=rS [m1 23 1,m1 24 23,B0 25 24 7,gT 26 24 (.bin .eql (.t 25) (.c (.i .u8 44))),pA 27 24 26,m1 22 27] [0,1,7,22] (cD 22 (sQ (.ops [m1 28 0,o1 29 (.slS (.t 28) none (some (ci 1))),mZ 4 8,m1 5 29,mZ 6 1] [4,5,6] [[0,1],[1,3]]) .ret) (rS [m1 31 1,m1 30 31] [0,7,30] (cD 30 (.seqr [m1 32 0,q1 33 114 32,mZ 4 9,m1 6 33] [0,4,6]) (rS [m1 35 7,bC 36 .eql 35 (.i .u8 35),m1 34 36] [0,7,34] AkL))))
def Aki:IC:=rS [m1 18 7,bC 19 .eql 18 (.i .u8 125),m1 17 19] [0,1,7,17] (cD 17 (sQ (.ops [m1 20 0,o1 21 (.slS (.t 20) none (some (ci 1))),mZ 4 3,m1 5 21,mZ 6 1] [4,5,6] [[0,1],[1,3]]) .ret) AhB)
def AmP:IC:=.block 0 (rS [m1 13 7,bC 14 .eql 13 (.i .u8 123),m1 12 14] [0,1,7,12] (cD 12 (sQ (.ops [m1 15 0,o1 16 (.slS (.t 15) none (some (ci 1))),mZ 4 2,m1 5 16,mZ 6 1] [4,5,6] [[0,1],[1,3]]) .ret) Aki))
def Ajw:IC:=sQ (.ops [m1 49 4,m1 50 0,m1 51 6,o1 52 (.slS (.t 50) none (some (.t 51))),m1 53 6,m1 4 49,m1 5 52,m1 6 53] [4,5,6] [[1,3],[2,3],[0,5],[3,6],[2,7],[4,7]]) .ret
def Ap1:IC:=sQ (rS [m1 8 0,o1 9 (.idx (.t 8) (ci 0)),m1 7 9] [0,1,7] AmP) (sQ (rS [m1 47 6,bZ 48 .eql 47 0] [0,4,6,48] (cD 48 (rS [mZ 4 0,mC 5 (.s []),mZ 6 0] [4,5,6] .ret) .skip)) Ajw)
def ArE:IC:=rS [mZ 4 0,mC 5 (.s []),mZ 6 0] [0,1] Ap1
def Aqz:ET:=⟨54,ArE,[.t 4,.t 5,.t 6]⟩
theorem Arc:Cy π 77 Aqz=true:=by kernel_rfl
def AlZ:IC:=rS [m1 61 5,m1 62 6,o1 63 (.msl true 4 1 [.t 62]),o1 64 (.app (.t 61) (.t 63) 4 1),m1 5 64] [0,2,3,5,6,7,8,9] (.seqr [m1 65 6,nT 66 65,m1 6 66] [0,2,3,5,6,7,8,9])
def Amc:IC:=rS [m1 70 5,m1 71 5,nL 72 71,bZ 73 .sub 72 1,iA 74 70 73 4 1,l1 75 74,m1 6 75] [0,2,3,5,6,7,8,9] (.seqr [m1 76 5,m1 77 5,nL 78 77,bZ 79 .sub 78 1,o1 80 (.slT (.t 76) (.t 79) 1),m1 5 80] [0,2,3,5,6,7,8,9])
def Amm:IC:=rS [m1 59 7,bZ 60 .eql 59 2,m1 58 60] [0,2,3,5,6,7,8,9,58] (cD 58 AlZ (rS [m1 68 7,bZ 69 .eql 68 3,m1 67 69] [0,2,3,5,6,7,8,9,67] (cD 67 Amc .skip)))
def AkW:IC:=rS [m1 81 2,m1 82 7,m1 83 8,m1 84 3,m1 85 3,m1 86 9,bT 87 .add 85 86,o1 88 (.build [.i .i64 0,.s [],.i .i64 0,.i .i64 0] [(0,1,.t 82),(1,1,.t 83),(2,1,.t 84),(3,1,.t 87)]),o1 89 (.msl true 152 4 [.t 88]),o1 90 (.app (.t 81) (.t 89) 152 4),m1 2 90] [0,2,3,5,6,9] (.seqr [m1 91 3,m1 92 9,bT 93 .add 91 92,m1 3 93] [0,2,3,5,6])
def AjO:IC:=sQ (.block 2 (sQ (rS [m1 48 7,bZ 49 .eql 48 0,m1 47 49] [0,2,3,5,6,7,8,9,47] (cD 47 .skip (.seqr [m1 50 7,bZ 51 .eql 50 3,m1 52 51,B0 53 52 5,gT 54 52 (.lenL (.t 53)),Dn 55 52 .eql 54 0,pA 56 52 55,m1 47 56] [0,2,3,5,6,7,8,9,47]))) (cD 47 (rS [m1 57 3,mC 2 .nil,m1 3 57,mZ 4 3] [2,3,4] .ret) Amm))) AkW
def AjF:IC:=rS [m1 39 0,m1 40 3,o1 41 (.slS (.t 39) (some (.t 40)) none),m1 42 6,q2 43 77 41 42,m1 38 43,xT 44 38 0,xT 45 38 1,xT 46 38 2,m1 7 44,m1 8 45,m1 9 46] [0,2,3,5,6,7,8,9] AjO
def Akl:IC:=.block 1 (sQ (rS [m1 17 6,m1 18 17,B0 19 18 0,B0 20 18 3,gT 21 18 (.idx (.t 19) (.t 20)),gT 22 18 (.bin .eql (.t 21) (.c (.i .u8 32))),B0 23 18 22,Bn 24 23 0,Bn 25 23 3,gF 26 23 (.idx (.t 24) (.t 25)),gF 27 23 (.bin .eql (.t 26) (.c (.i .u8 9))),gT 28 18 (.pick (.t 23) (.c (.b true)) (.t 27)),B0 29 18 28,Bn 30 29 0,Bn 31 29 3,gF 32 29 (.idx (.t 30) (.t 31)),gF 33 29 (.bin .eql (.t 32) (.c (.i .u8 10))),gT 34 18 (.pick (.t 29) (.c (.b true)) (.t 33)),pA 35 18 34] [0,2,3,5,6,35] (cD 35 (rS [m1 36 3,bZ 37 .add 36 1,m1 3 37] [0,2,3,5,6] (.exit 1)) .skip)) AjF)
def AiW:IC:=sQ (rS [m1 94 5,nL 95 94,bZ 96 .gtr 95 0] [0,2,96] (cD 96 (rS [m1 97 0,nS 98 97,mC 2 .nil,m1 3 98,mZ 4 3] [2,3,4] .ret) .skip)) (rS [m1 99 2,m1 2 99,mZ 3 0,mZ 4 0] [2,3,4] .ret)
def Amf:IC:=rS [mC 6 (.b false)] [0,2,3,5,6] (sQ (.block 0 (.loop (sQ (rS [m1 13 3,m1 14 0,nS 15 14,bT 16 .lss 13 15] [0,2,3,5,6,16] (cD 16 .skip (.exit 0))) Akl))) AiW)
def Ao9:IC:=sQ (rS [m1 10 0,nS 11 10,bZ 12 .gtr 11 4000] [0,2,3,12] (cD 12 (rS [mC 2 .nil,mZ 3 4000,mZ 4 6] [2,3,4] .ret) .skip)) (rS [mC 5 .nil] [0,2,3,5] Amf)
def Apm:IC:=rS [mC 2 .nil,mZ 3 0,mZ 4 0] [0,2,3] Ao9
def Anj:ET:=⟨100,Apm,[.t 2,.t 3,.t 4]⟩
theorem Asp:Cy π 55 Anj=true:=by kernel_rfl
def ApG:IC:=sQ (.ops [m1 20 0,nC 21 20,fA 22 21 1,l1 23 22,m1 24 0,nC 25 24,fA 26 25 2,l1 27 26,iA 28 23 27 152 4,fA 29 28 0,l1 30 29,m1 2 30] [2] [[0,1],[1,2],[2,3],[4,5],[5,6],[6,7],[3,8],[7,8],[8,9],[9,10],[10,11]]) .ret
def Apf:IC:=sQ (sQ (.ops [m1 3 0,nC 4 3,fA 5 4 5,l1 6 5,bZ 7 .neq 6 0,m1 8 7,Bn 9 8 0,gF 10 8 (.nilck (.t 9)),CG 11 8 10 2,CM 12 8 11,Bn 13 8 0,gF 14 8 (.nilck (.t 13)),CG 15 8 14 1,CM 16 8 15,gF 17 8 (.lenL (.t 16)),gF 18 8 (.bin .geq (.t 12) (.t 17)),pO 19 8 18] [0,19] [[0,1],[1,2],[2,3],[3,4],[4,5],[5,6],[5,7],[6,7],[5,8],[7,8],[5,9],[8,9],[5,10],[5,11],[10,11],[5,12],[11,12],[5,13],[12,13],[5,14],[13,14],[5,15],[9,15],[14,15],[5,16],[15,16]]) (cD 19 (rS [mZ 2 0] [2] .ret) .skip)) ApG
def Ank:IC:=rS [mZ 2 0] [0] Apf
def Aoc:ET:=⟨31,Ank,[.t 2]⟩
theorem ApH:Cy π 78 Aoc=true:=by kernel_rfl
def Ahn:IC:=sQ (.ops [m1 18 0,nC 19 18,fA 20 19 1,l1 21 20,m1 22 0,nC 23 22,fA 24 23 2,l1 25 24,bZ 26 .sub 25 1,iA 27 21 26 152 4,fA 28 27 1,l1 29 28,m1 4 29] [4] [[0,1],[1,2],[2,3],[4,5],[5,6],[6,7],[7,8],[3,9],[8,9],[9,10],[10,11],[11,12]]) .ret
def Aou:IC:=sQ (rS [m1 5 0,o1 6 (.calls 78 [.t 5]),m1 7 1,bT 8 .neq 6 7] [0,8] (cD 8 (rS [m1 9 0,o1 10 (.calls 57 [.t 9,ci 3])] [] (rS [mC 4 (.s [])] [4] .ret)) .skip)) (rS [m1 11 0,nC 12 11,fA 13 12 2,l1 14 13,bZ 15 .add 14 1,nC 16 11,fA 17 16 2,sT 17 15 1] [0] Ahn)
def AoX:IC:=rS [mC 4 (.s [])] [0,1] Aou
def AmT:ET:=⟨30,AoX,[.t 4]⟩
theorem ArT:Cy π 80 AmT=true:=by kernel_rfl
def Ahw:IC:=rS [m1 7 0,m1 8 0,nC 9 8,fA 10 9 1,l1 11 10,m1 12 1,o1 13 (.msl true 5 1 [.t 12]),o1 14 (.app (.t 11) (.t 13) 5 1),nC 15 7,fA 16 15 1,sT 16 14 1] [] (rS [mC 4 .ni] [4] .ret)
def AkV:IC:=rS [mC 4 .ni] [0,1] (rS [m1 5 0,o1 6 (.calls 53 [.t 5])] [0,1] Ahw)
def Ag1:ET:=⟨17,AkV,[.t 4]⟩
theorem Aja:Cy π 117 Ag1=true:=by kernel_rfl
def Al8:IC:=sQ (.block 1 (sQ (rS [m1 21 0,m1 22 7,o1 23 (.idx (.t 21) (.t 22)),bC 24 .eql 23 (.i .u8 92)] [0,6,7,24] (cD 24 (.seqr [m1 25 7,bZ 26 .add 25 1,m1 7 26] [0,6,7]) .skip)) (.seqr [m1 27 0,m1 28 7,o1 29 (.idx (.t 27) (.t 28)),o1 30 (.calls 117 [.t 6,.t 29])] [0,6,7]))) (.seqr [m1 19 7,bZ 20 .add 19 1,m1 7 20] [0,6,7])
def Aj3:IC:=rS [o1 6 (.mkm (.tnew 81 (.agg [.np,.nil])) [])] [0,6] (sQ (rS [mZ 7 0] [0,6,7] (.block 0 (.loop (sQ (rS [m1 15 7,m1 16 0,nS 17 16,bT 18 .lss 15 17] [0,6,7,18] (cD 18 .skip (.exit 0))) Al8)))) (rS [o1 31 (.calls 33 [.t 6]),m1 2 31,mZ 3 0,mZ 4 0] [2,3,4] .ret))
def Aso:IC:=rS [mC 2 (.s []),mZ 3 0,mZ 4 0] [0] (sQ (rS [m1 8 0,q1 9 116 8,m1 5 9] [0,5] (rS [m1 10 5,m1 11 0,nS 12 11,bT 13 .lss 10 12] [0,5,13] (cD 13 (rS [m1 14 5,mC 2 (.s []),m1 3 14,mZ 4 3] [2,3,4] .ret) .skip))) Aj3)
def Aq7:ET:=⟨32,Aso,[.t 2,.t 3,.t 4]⟩
theorem Aq8:Cy π 79 Aq7=true:=by kernel_rfl
def Ar3:IC:=rS [m1 4 1,bZ 5 .gtr 4 8] [0,5] (cD 5 (.seqr [m1 6 0,o1 7 (.calls 57 [.t 6,ci 6])] []) .skip)
def Arq:ET:=⟨8,Ar3,[]⟩
theorem ArY:Cy π 81 Arq=true:=by kernel_rfl
def Aqb:IC:=sQ (sQ (.ops [m1 19 0,o1 20 (.calls 78 [.t 19]),bZ 21 .neq 20 6,m1 22 21,Bn 23 22 0,gF 24 22 (.nilck (.t 23)),CG 25 22 24 1,CM 26 22 25,Bn 27 22 0,gF 28 22 (.nilck (.t 27)),CG 29 22 28 2,CM 30 22 29,gF 31 22 (.iaddr (.t 26) (.t 30) 152 4),CG 32 22 31 1,CM 33 22 32,CG 34 22 7 2,CM 35 22 34,gF 36 22 (.bin .neq (.t 33) (.t 35)),pO 37 22 36] [0,6,7,37] [[0,1],[1,2],[2,3],[3,4],[3,5],[4,5],[3,6],[5,6],[1,3,7],[3,7],[6,7],[3,8],[3,9],[8,9],[3,10],[9,10],[1,3,11],[3,11],[10,11],[1,3,12],[3,12],[7,12],[11,12],[3,13],[12,13],[1,3,14],[3,14],[13,14],[3,15],[1,3,16],[3,16],[15,16],[3,17],[14,17],[16,17],[3,18],[17,18]]) (cD 37 (.seqr [m1 38 0,o1 39 (.calls 57 [.t 38,ci 3])] [0,6,7]) .skip)) (rS [m1 40 0,o1 41 (.calls 80 [.t 40,ci 6])] [6,7] (rS [lA 42 7 6,sT 6 42 6] [6] .ret))
def As3:IC:=rS [m1 11 0,o1 12 (.calls 80 [.t 11,ci 5]),o1 13 (.build [.i .i64 0,.s [],.s [],.s [],.nil,.nil] [(0,1,ci 11),(2,1,.t 12)]),o1 7 (.alloc (.agg [.i .i64 0,.s [],.s [],.s [],.nil,.nil])),sT 7 13 6] [0,1,2,6,7] (rS [m1 14 0,m1 15 1,m1 16 2,o1 17 (.calls 56 [.t 14,.t 15,.t 16]),fA 18 7 5,sT 18 17 1] [0,6,7] Aqb)
def AmI:IC:=rS [o1 6 (.alloc (.agg [.i .i64 0,.s [],.s [],.s [],.nil,.nil]))] [0,1,2,6] (rS [m1 8 0,m1 9 1,o1 10 (.calls 81 [.t 8,.t 9])] [0,1,2,6] As3)
def AqI:ET:=⟨43,AmI,[.c 6 6 true]⟩
theorem AnJ:Cy π 82 AqI=true:=by kernel_rfl
def Alw:IC:=sQ (sQ (.ops [m1 5 0,o1 6 (.calls 78 [.t 5]),bZ 7 .neq 6 9,m1 8 7,Bn 9 8 1,Bn 10 8 0,gF 11 8 (.nilck (.t 10)),CG 12 8 11 1,CM 13 8 12,Bn 14 8 0,gF 15 8 (.nilck (.t 14)),CG 16 8 15 2,CM 17 8 16,gF 18 8 (.iaddr (.t 13) (.t 17) 152 4),CG 19 8 18 1,CM 20 8 19,gF 21 8 (.callvs (.t 9) [.t 20]),gF 22 8 (.not (.t 21)),pO 23 8 22] [0,23] [[0,1],[1,2],[2,3],[3,4],[3,5],[3,6],[5,6],[3,7],[6,7],[1,3,8],[3,8],[7,8],[3,9],[3,10],[9,10],[3,11],[10,11],[1,3,12],[3,12],[11,12],[1,3,13],[3,13],[8,13],[12,13],[3,14],[13,14],[1,3,15],[3,15],[14,15],[1,3,16],[3,16],[4,16],[8,13,14,15,16],[12,13,14,15,16],[13,14,15,16],[15,16],[3,17],[16,17],[3,18],[17,18]]) (cD 23 (rS [m1 24 0,o1 25 (.calls 57 [.t 24,ci 3])] [] (rS [mC 4 (.s [])] [4] .ret)) .skip)) (rS [m1 26 0,o1 27 (.calls 80 [.t 26,ci 9]),m1 4 27] [4] .ret)
def AlG:IC:=rS [mC 4 (.s [])] [0,1] Alw
def Af1:ET:=⟨28,AlG,[.t 4]⟩
theorem Ak4:Cy π 120 Af1=true:=by kernel_rfl
def AlL:IC:=sQ (rS [m1 52 3,bC 53 .neq 52 (.s [])] [0,3,53] (cD 53 (.seqr [m1 54 0,nC 55 54,fA 56 55 3,l1 57 56,m1 58 3,o0 (.wrm (.mput .str) (.t 57) [.t 58,.c (.b true)])] [3]) .skip)) (rS [m1 59 3,m1 2 59] [2] .ret)
def AkC:IC:=sQ (sQ (.ops [m1 4 0,o1 5 (.calls 78 [.t 4]),bZ 6 .eql 5 9,m1 7 6,B0 8 7 0,gT 9 7 (.nilck (.t 8)),D0 10 7 9 1,Dm 11 7 10,B0 12 7 0,gT 13 7 (.nilck (.t 12)),D0 14 7 13 2,Dm 15 7 14,gT 16 7 (.iaddr (.t 11) (.t 15) 152 4),D0 17 7 16 1,Dm 18 7 17,gT 19 7 (.call 124 [.t 18]),pA 20 7 19,m1 21 20,B0 22 21 0,gT 23 21 (.nilck (.t 22)),D0 24 21 23 3,Dm 25 21 24,B0 26 21 0,gT 27 21 (.nilck (.t 26)),D0 28 21 27 1,Dm 29 21 28,B0 30 21 0,gT 31 21 (.nilck (.t 30)),D0 32 21 31 2,Dm 33 21 32,gT 34 21 (.iaddr (.t 29) (.t 33) 152 4),D0 35 21 34 1,Dm 36 21 35,gT 37 21 (.rdm (.mget .str (.b false) false) (.t 25) [.t 36]),gT 38 21 (.not (.t 37)),pA 39 21 38,m1 40 39,B0 41 40 0,gT 42 40 (.nilck (.t 41)),D0 43 40 42 3,Dm 44 40 43,gT 45 40 (.rdm .mlen (.t 44) []),Dn 46 40 .geq 45 20,pA 47 40 46] [0,47] [[0,1],[1,2],[2,3],[3,4],[3,5],[4,5],[3,6],[5,6],[1,3,7],[3,7],[6,7],[3,8],[3,9],[8,9],[3,10],[9,10],[1,3,11],[3,11],[10,11],[1,3,12],[3,12],[7,12],[11,12],[3,13],[12,13],[1,3,14],[3,14],[13,14],[3,15],[14,15],[3,16],[15,16],[16,17],[17,18],[17,19],[18,19],[17,20],[19,20],[1,3,16,17,21],[17,21],[20,21],[17,22],[17,23],[22,23],[17,24],[23,24],[1,3,16,17,25],[17,25],[24,25],[17,26],[17,27],[26,27],[17,28],[27,28],[1,3,16,17,29],[17,29],[28,29],[1,3,16,17,30],[17,30],[25,30],[29,30],[17,31],[30,31],[1,3,16,17,32],[17,32],[31,32],[1,3,16,17,33],[17,33],[21,33],[32,33],[17,34],[33,34],[17,35],[34,35],[35,36],[36,37],[36,38],[37,38],[36,39],[38,39],[1,3,16,17,36,40],[36,40],[39,40],[1,3,16,17,36,41],[36,41],[40,41],[36,42],[41,42],[36,43],[42,43]]) (cD 47 (.seqr [m1 48 0,o1 49 (.calls 57 [.t 48,ci 6])] [0]) .skip)) (rS [m1 50 0,o1 51 (.calls 120 [.t 50,.c (.fn 124 [] [])]),m1 3 51] [0,3] AlL)
def AjI:IC:=rS [mC 2 (.s [])] [0] AkC
def AgS:ET:=⟨60,AjI,[.t 2]⟩
theorem Al7:Cy π 118 AgS=true:=by kernel_rfl
def Ang:IC:=rS [o1 1 (.mkm .mkmap []),o0 (.wrm (.mput .str) (.t 1) [.c (.s [110,117,109,98,101,114]),ci 3]),o0 (.wrm (.mput .str) (.t 1) [.c (.s [117,110,105,116]),ci 4]),o0 (.wrm (.mput .str) (.t 1) [.c (.s [100,97,116,101]),ci 5]),o0 (.wrm (.mput .str) (.t 1) [.c (.s [108,105,115,116]),ci 6]),o0 (.wrm (.mput .str) (.t 1) [.c (.s [112,108,117,114,97,108]),ci 7]),o0 (.wrm (.mput .str) (.t 1) [.c (.s [111,114,100,105,110,97,108]),ci 8]),o0 (.wrm (.mput .str) (.t 1) [.c (.s [115,101,108,101,99,116]),ci 9]),m1 2 1,m1 0 2] [0] .ret
def ApE:IC:=rS [mC 0 .nm] [] Ang
def AmW:ET:=⟨3,ApE,[.t 0]⟩
theorem AoE:Cy π 88 AmW=true:=by kernel_rfl
def Alk:IC:=rS [mC 3 (.b false)] [0,1] (rS [l1 4 1,m1 5 0,o1 6 (.rdm (.mget .str (.i .i64 0) false) (.t 4) [.t 5]),bZ 7 .neq 6 0,m1 3 7] [3] .ret)
def Age:ET:=⟨8,Alk,[.t 3]⟩
theorem Akx:Cy π 119 Age=true:=by kernel_rfl
def Aoy:IC:=rS [mC 2 (.b false)] [0] (rS [m1 3 0,bZ 4 .geq 3 7,m1 5 4,B0 6 5 0,Dn 7 5 .leq 6 9,pA 8 5 7,m1 2 8] [2] .ret)
def AqR:ET:=⟨9,Aoy,[.t 2]⟩
theorem Ary:Cy π 89 AqR=true:=by kernel_rfl
def Abv:IC:=cD 4 .skip (rS [bC 8 .eql 3 (.s [102,101,119]),m1 4 8] [3,4] (cD 4 .skip (rS [bC 9 .eql 3 (.s [109,97,110,121]),m1 4 9] [3,4] (cD 4 .skip (.seqr [bC 10 .eql 3 (.s [111,116,104,101,114]),m1 4 10] [4])))))
def Amg:IC:=.block 0 (sQ (rS [bC 5 .eql 3 (.s [122,101,114,111]),m1 4 5] [3,4] (cD 4 .skip (rS [bC 6 .eql 3 (.s [111,110,101]),m1 4 6] [3,4] (cD 4 .skip (rS [bC 7 .eql 3 (.s [116,119,111]),m1 4 7] [3,4] Abv))))) (cD 4 (rS [mC 2 (.b true)] [2] .ret) .skip))
def AjZ:IC:=rS [mC 2 (.b false)] [0] (sQ (rS [m1 3 0] [3] Amg) (rS [mC 2 (.b false)] [2] .ret))
def AdN:ET:=⟨11,AjZ,[.t 2]⟩
theorem AhV:Cy π 162 AdN=true:=by kernel_rfl
def Akq:IC:=sQ (.ops [m1 13 0,m1 14 7,o1 15 (.slS (.t 13) none (some (.t 14))),m1 16 0,m1 17 7,m1 18 1,nS 19 18,bT 20 .add 17 19,o1 21 (.slS (.t 16) (some (.t 20)) none),m1 4 15,m1 5 21,mC 6 (.b true)] [4,5,6] [[0,2],[1,2],[5,6],[4,7],[6,7],[3,8],[7,8],[2,9],[8,10]]) .ret
def AiS:IC:=sQ (rS [m1 8 0,m1 9 1,q2 10 208 8 9,m1 7 10] [0,1,7] (rS [m1 11 7,bZ 12 .geq 11 0] [0,1,7,12] (cD 12 Akq .skip))) (rS [m1 22 0,m1 4 22,mC 5 (.s []),mC 6 (.b false)] [4,5,6] .ret)
def Aie:IC:=rS [mC 4 (.s []),mC 5 (.s []),mC 6 (.b false)] [0,1] AiS
def Af2:ET:=⟨23,Aie,[.t 4,.t 5,.t 6]⟩
theorem AlI:Cy π 171 Af2=true:=by kernel_rfl
def Amk:IC:=rS [mC 4 (.s []),mC 5 (.s []),mC 6 (.b false)] [0,1] (rS [m1 7 0,m1 8 1,q2 9 171 7 8,xT 10 9 0,xT 11 9 1,xT 12 9 2,m1 4 10,m1 5 11,m1 6 12] [4,5,6] .ret)
def Agb:ET:=⟨13,Amk,[.t 4,.t 5,.t 6]⟩
theorem AlR:Cy π 137 Agb=true:=by kernel_rfl
def AkR:IC:=rS [mC 2 (.b false)] [0] (rS [m1 3 0,o1 4 (.call 198 [.t 3,.c (.s [48,49,50,51,52,53,54,55,56,57])]),bC 5 .eql 4 (.s []),m1 2 5] [2] .ret)
def AdG:ET:=⟨6,AkR,[.t 2]⟩
theorem Al9:Cy π 163 AdG=true:=by kernel_rfl
def Aav:IC:=rS [m1 51 8,m1 52 51,B0 53 52 7,gT 54 52 (.lenS (.t 53)),Dn 55 52 .eql 54 0,pA 56 52 55,m1 57 56,Bn 58 57 7,gF 59 57 (.lenS (.t 58)),Dv 60 57 .gtr 59 6,pO 61 57 60,m1 62 61,Bn 63 62 7,gF 64 62 (.call 163 [.t 63]),gF 65 62 (.not (.t 64)),pO 66 62 65,m1 50 66] [2,5,9,50] (cD 50 (rS [lA 67 9 3,sT 2 67 3,mC 3 (.b false)] [2,3] .ret) .skip)
def Adb:IC:=sQ (.ops [lA 68 9 3,m1 69 5,nT 70 69,m1 71 70,gF 72 71 (.load (.t 9) 3 true),gF 73 71 (.call 164 [.t 72]),gF 74 71 (.not (.t 73)),pO 75 71 74,sT 2 68 3,m1 3 75] [2,3] [[1,2],[2,3],[3,4],[3,5],[4,5],[3,6],[5,6],[3,7],[6,7],[0,8],[4,5,8],[7,9]]) .ret
def AhP:IC:=sQ (.block 0 (rS [m1 26 6,nS 27 26,bZ 28 .lss 27 1,m1 29 28,Bn 30 29 6,gF 31 29 (.lenS (.t 30)),Dv 32 29 .gtr 31 15,pO 33 29 32,m1 34 33,Bn 35 34 6,gF 36 34 (.call 163 [.t 35]),gF 37 34 (.not (.t 36)),pO 38 34 37,m1 39 38,Bn 40 39 6,gF 41 39 (.lenS (.t 40)),Dv 42 39 .gtr 41 1,Bn 43 39 42,B0 44 43 6,gT 45 43 (.idx (.t 44) (ci 0)),gT 46 43 (.bin .eql (.t 45) (.c (.i .u8 48))),gF 47 39 (.pick (.t 43) (.t 46) (.c (.b false))),pO 48 39 47,m1 25 48] [2,5,7,8,9,25] (cD 25 (rS [lA 49 9 3,sT 2 49 3,mC 3 (.b false)] [2,3] .ret) Aav))) Adb
def Akz:IC:=rS [m1 21 5,m1 22 6,m1 23 7,o1 24 (.build [.b false,.s [],.s []] [(0,1,.t 21),(1,1,.t 22),(2,1,.t 23)]),o1 9 (.alloc (.agg [.b false,.s [],.s []])),sT 9 24 3] [2,5,6,7,8,9] AhP
def Alh:IC:=rS [m1 11 0,o1 12 (.call 136 [.t 11,.c (.s [45])]),m1 10 12,xT 13 10 0,xT 14 10 1,m1 4 13,m1 5 14] [2,4,5] (rS [m1 16 4,o1 17 (.call 137 [.t 16,.c (.s [46])]),m1 15 17,xT 18 15 0,xT 19 15 1,xT 20 15 2,m1 6 18,m1 7 19,m1 8 20] [2,5,6,7,8] Akz)
def Aky:IC:=rS [o1 2 (.alloc (.agg [.b false,.s [],.s []])),mC 3 (.b false)] [0,2] Alh
def AgK:ET:=⟨76,Aky,[.c 2 3 true,.t 3]⟩
theorem Aht:Cy π 131 AgK=true:=by kernel_rfl
def AoI:IC:=rS [m1 6 0,q1 7 131 6,m1 5 7,xT 8 5 0,xT 9 5 1,o1 3 (.alloc (.agg [.b false,.s [],.s []])),sT 3 8 3,m1 4 9] [4] (rS [m1 10 4,m1 2 10] [2] .ret)
def Aq5:IC:=rS [mC 2 (.b false)] [0] AoI
def Ar7:ET:=⟨11,Aq5,[.t 2]⟩
theorem AmU:Cy π 97 Ar7=true:=by kernel_rfl
def Aar:IC:=rS [m1 16 1,q1 17 162 16,m1 18 17,Bn 19 18 6,Bn 20 18 19,B0 21 20 5,gT 22 20 (.call 97 [.t 21]),gF 23 18 (.pick (.t 20) (.t 22) (.c (.b false))),pO 24 18 23,m1 4 24] [4] .ret
def Ail:IC:=sQ (rS [m1 7 0,bZ 8 .eql 7 9] [1,8] (cD 8 (rS [m1 9 1,q1 10 124 9,m1 4 10] [4] .ret) .skip)) (rS [m1 12 1,o1 13 (.call 136 [.t 12,.c (.s [61])]),m1 11 13,xT 14 11 0,xT 15 11 1,m1 5 14,m1 6 15] [1,5,6] Aar)
def AlM:IC:=rS [mC 4 (.b false)] [0,1] Ail
def Afh:ET:=⟨25,AlM,[.t 4]⟩
theorem Alu:Cy π 129 Afh=true:=by kernel_rfl
def AlY:IC:=rS [mC 3 (.b false)] [0,1] (rS [l1 4 1,m1 5 0,q2 6 129 4 5,m1 3 6] [3] .ret)
def AeT:ET:=⟨7,AlY,[.t 3]⟩
theorem Ah3:Cy π 161 AeT=true:=by kernel_rfl
def Abn:IC:=sQ (.ops [m1 43 10,m1 44 0,nC 45 44,fA 46 45 1,l1 47 46,m1 48 0,nC 49 48,fA 50 49 2,l1 51 50,iA 52 47 51 152 4,fA 53 52 1,l1 54 53,o1 55 (.rdm (.mget .str (.b false) false) (.t 43) [.t 54])] [0,2,3,5,9,10,55] [[1,2],[2,3],[3,4],[5,6],[6,7],[7,8],[4,9],[8,9],[9,10],[10,11],[0,12],[11,12]]) (cD 55 (.seqr [m1 56 0,o1 57 (.calls 57 [.t 56,ci 9])] [0,2,3,5,9,10]) .skip)
def zN:IC:=sQ (rS [m1 38 9,nL 39 38,bZ 40 .geq 39 20] [0,2,3,5,9,10,40] (cD 40 (.seqr [m1 41 0,o1 42 (.calls 57 [.t 41,ci 6])] [0,2,3,5,9,10]) .skip)) Abn
def Ac0:IC:=rS [m1 67 0,m1 68 2,m1 69 3,m1 70 69,CM 71 70 5,Dv 72 70 .neq 71 9,pO 73 70 72,o1 74 (.calls 56 [.t 67,.t 68,.t 73]),fA 75 12 1,sT 75 74 1] [0,2,3,5,9,10,12] (rS [m1 76 0,o1 77 (.calls 80 [.t 76,ci 3])] [0,2,3,5,9,10,12] (.seqr [m1 78 9,lA 79 12 2,o1 80 (.msl true 76 2 [.t 79]),o1 81 (.app (.t 78) (.t 80) 76 2),m1 9 81] [0,2,3,5,9,10]))
def AbX:IC:=rS [m1 62 10,fA 63 12 0,l1 64 63,o0 (.wrm (.mput .str) (.t 62) [.t 64,.c (.b true)])] [0,2,3,5,9,10,12] (rS [m1 65 0,o1 66 (.calls 80 [.t 65,ci 2])] [0,2,3,5,9,10,12] Ac0)
def AaS:IC:=rS [m1 58 0,o1 59 (.mkfn 161 [] [.t 5]),o1 60 (.calls 120 [.t 58,.t 59]),o1 61 (.build [.s [],.nil] [(0,1,.t 60)]),o1 12 (.alloc (.agg [.s [],.nil])),sT 12 61 2] [0,2,3,5,9,10,12] AbX
def Acj:IC:=sQ (.block 1 (sQ (sQ (.ops [m1 20 0,o1 21 (.calls 78 [.t 20]),bZ 22 .eql 21 9,m1 23 22,Dm 24 23 5,B0 25 23 0,gT 26 23 (.nilck (.t 25)),D0 27 23 26 1,Dm 28 23 27,B0 29 23 0,gT 30 23 (.nilck (.t 29)),D0 31 23 30 2,Dm 32 23 31,gT 33 23 (.iaddr (.t 28) (.t 32) 152 4),D0 34 23 33 1,Dm 35 23 34,gT 36 23 (.call 129 [.t 24,.t 35]),pA 37 23 36] [0,2,3,5,9,10,37] [[0,1],[1,2],[2,3],[1,3,4],[3,4],[3,5],[3,6],[5,6],[3,7],[6,7],[1,3,8],[3,8],[7,8],[3,9],[3,10],[9,10],[3,11],[10,11],[1,3,12],[3,12],[11,12],[1,3,13],[3,13],[8,13],[12,13],[3,14],[13,14],[1,3,15],[3,15],[14,15],[3,16],[4,16],[15,16],[3,17],[16,17]]) (cD 37 zN .skip)) AaS)) (.seqr [mC 11 (.b false)] [0,2,3,5,9,10,11])
def Ac4:IC:=sQ (rS [m1 14 11,m1 15 14,Bn 16 15 0,gF 17 15 (.calls 78 [.t 16]),Dv 18 15 .eql 17 9,pO 19 15 18] [0,2,3,5,9,10,19] (cD 19 .skip (.exit 0))) Acj
def Ab1:IC:=sQ (rS [m1 82 0,o1 83 (.calls 78 [.t 82]),bZ 84 .eql 83 3,m1 85 84,B0 86 85 10,gT 87 85 (.rdm (.mget .str (.b false) false) (.t 86) [.c (.s [111,116,104,101,114])]),gT 88 85 (.not (.t 87)),pA 89 85 88] [0,9,89] (cD 89 (.seqr [m1 90 0,o1 91 (.calls 57 [.t 90,ci 13])] [9]) .skip)) (rS [m1 92 9,m1 8 92] [8] .ret)
def Ahs:IC:=rS [mC 9 .nil] [0,2,3,5,9] (rS [o1 13 (.mkm .mkmap []),m1 10 13] [0,2,3,5,9,10] (sQ (rS [mC 11 (.b true)] [0,2,3,5,9,10,11] (.block 0 (.loop Ac4))) Ab1))
def Alf:IC:=rS [bX 5 1,mC 8 .nil] [0,2,3,5] Ahs
def AeP:ET:=⟨93,Alf,[.t 8]⟩
theorem Aly:Cy π 122 AeP=true:=by kernel_rfl
def Ahl:IC:=cD 77 (rS [m1 78 0,o1 79 (.calls 80 [.t 78,ci 8])] [0,6,7] (.seqr [m1 80 0,o1 81 (.calls 120 [.t 80,.c (.fn 121 [] [])]),fA 82 7 3,sT 82 81 1] [0,6,7])) .skip
def Ak8:IC:=rS [fA 56 7 0,l1 57 56,bZ 58 .eql 57 5] [0,6,7,58] (cD 58 (.seqr [m1 59 0,o1 60 (.calls 120 [.t 59,.c (.fn 123 [] [])]),fA 61 7 3,sT 61 60 1] [0,6,7]) (.seqr [m1 62 0,o1 63 (.calls 120 [.t 62,.c (.fn 124 [] [])]),fA 64 7 3,sT 64 63 1] [0,6,7]))
def Ahu:IC:=cD 83 (rS [m1 87 0,o1 88 (.calls 80 [.t 87,ci 8])] [0,1,2,6,7] (.seqr [m1 89 0,fA 90 7 0,l1 91 90,m1 92 1,bZ 93 .add 92 1,m1 94 2,o1 95 (.calls 122 [.t 89,.t 91,.t 93,.t 94]),fA 96 7 4,sT 96 95 1] [0,6,7])) (rS [m1 54 0,o1 55 (.calls 80 [.t 54,ci 8])] [0,6,7] Ak8)
def Ajq:IC:=rS [fA 72 7 0,l1 73 72,bZ 74 .eql 73 3,m1 71 74] [0,1,2,6,7,71] (cD 71 (rS [m1 75 0,o1 76 (.calls 78 [.t 75]),bZ 77 .eql 76 8] [0,6,7,77] Ahl) (rS [fA 84 7 0,l1 85 84,q1 86 89 85,m1 83 86] [0,1,2,6,7,83] Ahu))
def Ahk:IC:=sQ (.block 0 (rS [m1 66 0,nC 67 66,fA 68 67 5,l1 69 68,bZ 70 .neq 69 0,m1 65 70] [0,1,2,6,7,65] (cD 65 .skip Ajq))) (rS [m1 97 0,o1 98 (.calls 80 [.t 97,ci 3])] [6,7] (rS [lA 99 7 6,sT 6 99 6] [6] .ret))
def Ako:IC:=sQ (.ops [l1 48 8,m1 49 0,m1 50 9,⟨some 51,.calls 120 [.t 49,.t 50],none,[.t 8]⟩,o1 52 (.rdm (.mget .str (.i .i64 0) false) (.t 48) [.t 51]),fA 53 7 0,sT 53 52 1] [0,1,2,6,7] [[1,3],[2,3],[0,4],[3,4],[0,6],[3,6],[4,6],[5,6]]) Ahk
def Ak0:IC:=sQ (sQ (.ops [m1 25 0,o1 26 (.calls 78 [.t 25]),bZ 27 .eql 26 9,m1 28 27,Dm 29 28 8,B0 30 28 0,gT 31 28 (.nilck (.t 30)),D0 32 28 31 1,Dm 33 28 32,B0 34 28 0,gT 35 28 (.nilck (.t 34)),D0 36 28 35 2,Dm 37 28 36,gT 38 28 (.iaddr (.t 33) (.t 37) 152 4),D0 39 28 38 1,Dm 40 28 39,gT 41 28 (.rdm (.mget .str (.i .i64 0) false) (.t 29) [.t 40]),gT 42 28 (.call 89 [.t 41]),pA 43 28 42] [0,1,2,6,7,8,9,43] [[0,1],[1,2],[2,3],[1,3,4],[3,4],[3,5],[3,6],[5,6],[3,7],[6,7],[1,3,8],[3,8],[7,8],[3,9],[3,10],[9,10],[3,11],[10,11],[1,3,12],[3,12],[11,12],[1,3,13],[3,13],[8,13],[12,13],[3,14],[13,14],[1,3,15],[3,15],[14,15],[1,3,16],[3,16],[4,16],[15,16],[3,17],[16,17],[3,18],[17,18]]) (cD 43 (.seqr [m1 44 0,m1 45 1,bZ 46 .add 45 1,o1 47 (.calls 81 [.t 44,.t 46])] [0,1,2,6,7,8,9]) .skip)) Ako
def Arr:IC:=sQ (rS [m1 15 0,o1 16 (.calls 78 [.t 15]),bZ 17 .eql 16 3] [0,1,2,6,7,17] (cD 17 (rS [m1 18 0,o1 19 (.calls 80 [.t 18,ci 3])] [6,7] (rS [lA 20 7 6,sT 6 20 6] [6] .ret)) .skip)) (rS [m1 21 0,o1 22 (.calls 80 [.t 21,ci 8])] [0,1,2,6,7] (rS [o1 23 (.call 88 []),o1 8 (.alloc .nm),sT 8 23 1] [0,1,2,6,7,8] (rS [o1 24 (.mkfn 119 [] [.t 8]),m1 9 24] [0,1,2,6,7,8,9] Ak0)))
def AoK:IC:=rS [m1 12 0,o1 13 (.calls 118 [.t 12]),o1 14 (.build [.i .i64 0,.s [],.s [],.s [],.nil,.nil] [(0,1,ci 2),(2,1,.t 13)]),o1 7 (.alloc (.agg [.i .i64 0,.s [],.s [],.s [],.nil,.nil])),sT 7 14 6] [0,1,2,6,7] Arr
def AmD:IC:=rS [o1 6 (.alloc (.agg [.i .i64 0,.s [],.s [],.s [],.nil,.nil]))] [0,1,2,6] (rS [m1 10 0,o1 11 (.calls 80 [.t 10,ci 2])] [0,1,2,6] AoK)
def Apg:ET:=⟨100,AmD,[.c 6 6 true]⟩
theorem Ark:Cy π 83 Apg=true:=by kernel_rfl
def AlV:IC:=.seqr [m1 28 7,m1 29 8,o1 30 (.build [.i .i64 0,.s [],.s [],.s [],.nil,.nil] [(0,1,ci 1),(1,1,.t 29)]),o1 31 (.msl true 74 6 [.t 30]),o1 32 (.app (.t 28) (.t 31) 74 6),m1 7 32] [0,1,2,7]
def AiQ:IC:=rS [m1 22 0,o1 23 (.calls 80 [.t 22,ci 1]),q1 24 79 23,m1 21 24,xT 25 21 0,xT 26 21 1,xT 27 21 2,m1 8 25,m1 9 26,m1 10 27] [0,1,2,7,8] AlV
def Amb:IC:=.seqr [m1 41 7,o1 42 (.build [.i .i64 0,.s [],.s [],.s [],.nil,.nil] [(0,1,ci 10)]),o1 43 (.msl true 74 6 [.t 42]),o1 44 (.app (.t 41) (.t 43) 74 6),m1 7 44] [0,1,2,7]
def Aip:IC:=sQ (rS [m1 35 2,nT 36 35] [0,1,2,7,36] (cD 36 (.seqr [m1 37 0,o1 38 (.calls 57 [.t 37,ci 3])] [0,1,2,7]) .skip)) (rS [m1 39 0,o1 40 (.calls 80 [.t 39,ci 4])] [0,1,2,7] Amb)
def Ahz:IC:=.seqr [m1 51 7,m1 52 0,o1 53 (.calls 80 [.t 52,ci 7]),o1 54 (.build [.i .i64 0,.s [],.s [],.s [],.nil,.nil] [(0,1,ci 11),(2,1,.t 53)]),o1 55 (.msl true 74 6 [.t 54]),o1 56 (.app (.t 51) (.t 55) 74 6),m1 7 56] [0,1,2,7]
def Al4:IC:=.seqr [m1 59 7,m1 60 0,m1 61 1,bZ 62 .add 61 1,m1 63 2,o1 64 (.calls 82 [.t 60,.t 62,.t 63]),o1 65 (.msl true 74 6 [.t 64]),o1 66 (.app (.t 59) (.t 65) 74 6),m1 7 66] [0,1,2,7]
def Ah6:IC:=.seqr [m1 69 7,m1 70 0,m1 71 1,m1 72 2,o1 73 (.calls 83 [.t 70,.t 71,.t 72]),o1 74 (.msl true 74 6 [.t 73]),o1 75 (.app (.t 69) (.t 74) 74 6),m1 7 75] [0,1,2,7]
def AiM:IC:=rS [bZ 58 .eql 17 5,m1 57 58] [0,1,2,7,17,57] (cD 57 Al4 (rS [bZ 68 .eql 17 2,m1 67 68] [0,1,2,7,67] (cD 67 Ah6 (rS [m1 18 7,m1 6 18] [6] .ret))))
def Alv:IC:=rS [bZ 46 .eql 17 7,m1 45 46] [0,1,2,7,17,45] (cD 45 (rS [m1 47 0,m1 48 1,bZ 49 .add 48 1,o1 50 (.calls 81 [.t 47,.t 49])] [0,1,2,7] Ahz) AiM)
def AjW:IC:=.block 2 (rS [bZ 20 .eql 17 1,m1 19 20] [0,1,2,7,17,19] (cD 19 AiQ (rS [bZ 34 .eql 17 4,m1 33 34] [0,1,2,7,17,33] (cD 33 Aip Alv))))
def Aq2:IC:=sQ (rS [m1 11 0,nC 12 11,fA 13 12 5,l1 14 13,bZ 15 .eql 14 0] [0,1,2,7,15] (cD 15 .skip (.exit 0))) (.block 1 (rS [m1 16 0,o1 17 (.calls 78 [.t 16])] [0,1,2,7,17] AjW))
def ArD:IC:=rS [mC 6 .nil] [0,1,2] (rS [mC 7 .nil] [0,1,2,7] (sQ (.block 0 (.loop Aq2)) (rS [m1 76 7,m1 6 76] [6] .ret)))
def ArM:ET:=⟨77,ArD,[.t 6]⟩
theorem Api:Cy π 56 ArM=true:=by kernel_rfl
def AjR:IC:=.ops [m1 43 11,nC 44 43,fA 45 44 4,l1 46 45,m1 47 11,nC 48 47,fA 49 48 5,l1 50 49,m1 8 46,m1 9 50] [0,5,8,9,10] [[0,1],[1,2],[2,3],[4,5],[5,6],[6,7],[3,8],[7,9]]
def AiH:IC:=sQ (rS [m1 34 11,nC 35 34,fA 36 35 2,l1 37 36,m1 38 7,nL 39 38,bT 40 .lss 37 39] [0,5,10,11,40] (cD 40 (.seqr [m1 41 11,o1 42 (.calls 57 [.t 41,ci 3])] [0,5,10,11]) .skip)) AjR
def Aks:IC:=rS [m1 26 0,m1 27 7,o1 28 (.mkm .mkmap []),o1 29 (.build [.s [],.nil,.i .i64 0,.nm,.i .i64 0,.i .i64 0] [(0,1,.t 26),(1,1,.t 27),(3,1,.t 28)]),bX 30 29,m1 11 30] [0,1,5,7,11] (rS [m1 31 11,m1 32 1,o1 33 (.calls 56 [.t 31,ci 0,.t 32]),m1 10 33] [0,5,7,10,11] AiH)
def Aj0:IC:=rS [m1 54 0,m1 55 8,q2 56 58 54 55,m1 53 56,xT 57 53 0,xT 58 53 1,o1 12 (.alloc (.agg [.i .i64 0,.i .i64 0,.i .i64 0])),sT 12 57 3,m1 13 58] [5,9,12] (sQ (.ops [lA 59 12 3,m1 60 9,mC 4 .nil,sT 5 59 3,m1 6 60] [4,5,6] [[0,3],[1,4]]) .ret)
def AlU:IC:=sQ (rS [m1 61 10,o1 62 (.callr 59 [.t 61]),bZ 63 .gtr 62 4000] [5,10,63] (cD 63 (rS [o1 64 (.build [.i .i64 0,.i .i64 0,.i .i64 0] []),mC 4 .nil,sT 5 64 3,mZ 6 6] [4,5,6] .ret) .skip)) (rS [m1 65 10,o1 66 (.build [.i .i64 0,.i .i64 0,.i .i64 0] []),m1 4 65,sT 5 66 3,mZ 6 0] [4,5,6] .ret)
def Ahm:IC:=sQ (rS [m1 24 9,bZ 25 .eql 24 0] [0,1,5,7,8,9,10,25] (cD 25 Aks .skip)) (sQ (rS [m1 51 9,bZ 52 .neq 51 0] [0,5,8,9,10,52] (cD 52 Aj0 .skip)) AlU)
def AoS:IC:=sQ (rS [m1 20 9,bZ 21 .eql 20 6] [0,1,5,7,8,9,21] (cD 21 (rS [o1 22 (.build [.i .i64 0,.i .i64 0,.i .i64 0] [(0,1,ci 4000)]),m1 23 9,mC 4 .nil,sT 5 22 3,m1 6 23] [4,5,6] .ret) .skip)) (rS [mC 10 .nil] [0,1,5,7,8,9,10] Ahm)
def Anp:IC:=rS [mC 4 .nil,o1 5 (.alloc (.agg [.i .i64 0,.i .i64 0,.i .i64 0])),mZ 6 0] [0,1,5] (rS [m1 15 0,q1 16 55 15,m1 14 16,xT 17 14 0,xT 18 14 1,xT 19 14 2,m1 7 17,m1 8 18,m1 9 19] [0,1,5,7,8,9] AoS)
def Ap0:ET:=⟨67,Anp,[.t 4,.c 5 3 true,.t 6]⟩
theorem Aoi:Cy π 37 Ap0=true:=by kernel_rfl
def Ape:IC:=rS [mC 2 .nil,o1 3 (.alloc (.agg [.i .i64 0,.i .i64 0,.i .i64 0])),mZ 4 0] [0,3] (rS [m1 5 0,o1 6 (.call 37 [.t 5,.c (.b false)]),xT 7 6 0,xT 8 6 1,xT 9 6 2,m1 2 7,sT 3 8 3,m1 4 9] [2,3,4] .ret)
def AoD:ET:=⟨10,Ape,[.t 2,.c 3 3 true,.t 4]⟩
theorem Aqv:Cy π 22 AoD=true:=by kernel_rfl
def Arm:IC:=sQ (rS [m1 19 12,bZ 20 .neq 19 0] [2,3,4,10,20] (cD 20 (rS [mC 8 (.s []),mZ 9 3] [8,9] .ret) .skip)) (rS [lA 21 4 16,m1 22 10,m1 23 2,m1 24 3,o1 25 (.callr 15 [.t 21,.t 22,.t 23,.t 24]),xT 26 25 0,xT 27 25 1,m1 8 26,m1 9 27] [8,9] .ret)
def ApJ:IC:=rS [m1 14 1,q1 15 22 14,m1 13 15,xT 16 13 0,xT 17 13 1,xT 18 13 2,o1 11 (.alloc (.agg [.i .i64 0,.i .i64 0,.i .i64 0])),m1 10 16,sT 11 17 3,m1 12 18] [2,3,4,10,12] Arm
def Anq:IC:=rS [bX 4 0,mC 8 (.s []),mZ 9 0] [1,2,3,4] ApJ
def An4:ET:=⟨28,Anq,[.t 8,.t 9]⟩
theorem Aph:Cy π 10 An4=true:=by kernel_rfl
def Au0:IC:=rS [m1 23 3,bZ 24 .eql 23 0,m1 25 24,B0 26 25 2,gT 27 25 (.bin .eql (.t 26) (.c (.s [49,44,48,48,48,32,102,105,108,101,115]))),pA 28 25 27,m1 29 28,B0 30 29 5,Dn 31 29 .eql 30 0,pA 32 29 31,m1 33 32,B0 34 33 4,gT 35 33 (.bin .eql (.t 34) (.c (.s [226,129,168,97,226,129,169]))),pA 36 33 35,m1 0 36] [0] .ret
def Avw:IC:=rS [lA 17 1 16,o1 18 (.build [.s [],.i .i64 0,.s [],.i .i64 0,.nil] [(0,1,.c (.s [120])),(1,1,ci 1),(2,1,.c (.s [97]))]),o1 19 (.msl true 43 5 [.t 18]),o1 20 (.callr 10 [.t 17,.c (.s [123,120,125]),.t 19,.c (.b true)]),m1 16 20,xT 21 16 0,xT 22 16 1,m1 4 21,m1 5 22] [2,3,4,5] Au0
def AuG:IC:=rS [lA 9 1 16,o1 10 (.build [.s [],.i .i64 0,.s [],.i .i64 0,.nil] [(0,1,.c (.s [110])),(1,1,ci 2),(2,1,.c (.s [49,48,48,48]))]),o1 11 (.build [.s [],.i .i64 0,.s [],.i .i64 0,.nil] [(0,1,.c (.s [120])),(1,1,ci 1),(2,1,.c (.s [102,105,108,101,115]))]),o1 12 (.msl true 43 5 [.t 10,.t 11]),o1 13 (.callr 10 [.t 9,.c (.s [123,110,44,32,112,108,117,114,97,108,44,32,61,49,32,123,60,98,62,35,60,47,98,62,125,32,111,116,104,101,114,32,123,35,32,123,120,125,125,125]),.t 12,.c (.b false)]),m1 8 13,xT 14 8 0,xT 15 8 1,m1 2 14,m1 3 15] [1,2,3] Avw
def Avg:IC:=rS [o1 6 (.build [.s [],.s [],.s [],.s [],.i .i64 0,.i .i64 0] [(0,1,.c (.s [46])),(1,1,.c (.s [44])),(2,1,.c (.s [45])),(4,1,ci 3)]),o1 7 (.build [.s [],.s [],.s [],.nil,.nil,.s [],.s [],.s [],.s [],.i .i64 0,.i .i64 0,.nil,.nil,.nil,.nil,.nil] [(5,6,.t 6)]),o1 1 (.alloc (.agg [.s [],.s [],.s [],.nil,.nil,.s [],.s [],.s [],.s [],.i .i64 0,.i .i64 0,.nil,.nil,.nil,.nil,.nil])),sT 1 7 16] [1] AuG
def Au1:IC:=rS [mC 0 (.b false)] [] Avg
def e4T:ET:=⟨37,Au1,[.t 0]⟩
theorem Av0:Cy π 4 e4T=true:=by kernel_rfl
noncomputable def evA:FuncId->Option ET:=(B9 116 (B9 80 (B9 55 (B9 22 (B9 10 (B7 4 e4T) (B7 10 An4)) (B9 37 (B7 22 AoD) (B7 37 Ap0))) (B9 77 (B9 56 (B7 55 Anj) (B7 56 ArM)) (B9 78 (B7 77 Aqz) (B9 79 (B7 78 Aoc) (B7 79 Aq7))))) (B9 88 (B9 82 (B9 81 (B7 80 AmT) (B7 81 Arq)) (B9 83 (B7 82 AqI) (B7 83 Apg))) (B9 97 (B9 89 (B7 88 AmW) (B7 89 AqR)) (B9 114 (B7 97 Ar7) (B9 115 (B7 114 Afi) (B7 115 Ad5)))))) (B9 131 (B9 120 (B9 118 (B9 117 (B7 116 AdP) (B7 117 Ag1)) (B9 119 (B7 118 AgS) (B7 119 Age))) (B9 124 (B9 122 (B7 120 Af1) (B7 122 AeP)) (B9 125 (B7 124 Aew) (B9 129 (B7 125 Ag0) (B7 129 Afh))))) (B9 162 (B9 158 (B9 137 (B7 131 AgK) (B7 137 Agb)) (B9 160 (B7 158 Af7) (B9 161 (B7 160 AfN) (B7 161 AeT)))) (B9 171 (B9 163 (B7 162 AdN) (B7 163 AdG)) (B9 197 (B7 171 Af2) (B9 227 (B7 197 AeI) (B7 227 Afa)))))))
theorem Ak6:Ix π evA:=(.node (.node (.node (.node (.node (.leaf Av0) (.leaf Aph)) (.node (.leaf Aqv) (.leaf Aoi))) (.node (.node (.leaf Asp) (.leaf Api)) (.node (.leaf Arc) (.node (.leaf ApH) (.leaf Aq8))))) (.node (.node (.node (.leaf ArT) (.leaf ArY)) (.node (.leaf AnJ) (.leaf Ark))) (.node (.node (.leaf AoE) (.leaf Ary)) (.node (.leaf AmU) (.node (.leaf Aho) (.leaf Al2)))))) (.node (.node (.node (.node (.leaf AiZ) (.leaf Aja)) (.node (.leaf Al7) (.leaf Akx))) (.node (.node (.leaf Ak4) (.leaf Aly)) (.node (.leaf Aih) (.node (.leaf Ajh) (.leaf Alu))))) (.node (.node (.node (.leaf Aht) (.leaf AlR)) (.node (.leaf Ale) (.node (.leaf Ai2) (.leaf Ah3)))) (.node (.node (.leaf AhV) (.leaf Al9)) (.node (.leaf AlI) (.node (.leaf Ah2) (.leaf Aln)))))))
end Go.Ir
end
section
set_option maxRecDepth 1000000
namespace Go.Ir
open Go.Proofs
def wQ:List (TypeId×Nat×Nat):=[(81,2,0)]
theorem Auf:∀p∈wQ,liesAt π π.depth p.1 (p.2.1 / π.cellsOf p.1) p.2.2 81 1=true:=by intro p hp;simp only[wQ,Auy,AxH,or_false] at hp;subst hp;kernel_rfl
noncomputable def AmG:Bx:=orC (zG 136 IB) (orC (zG 208 P6) (orC (zG 198 lK) (orC (zG 159 Jb) (orC (onP 15 P8) (orC (onP 59 Qi) (orC (z8 53 wQ) (AaW 33 5)))))))
theorem AbK O (a:BC O)(b:Ca O):AX π O AmG:=
 I6 (R8 O) (I6 (kQ O) (I6 (Ajb O) (I6 (RW O) (I6 (uR O a b) (I6 (m9 O) (I6 (Zm O _ Auf) (Zj O)))))))
theorem TP:Arh (Qu evA AmG 100000 100 4 [] [] 0)=some (.b true):=by kernel_rfl
theorem mQ O (a:BC O)(c:Ca O):An π O 4 [] [] (.b true) []:=Ri Ak6 (AbK O a c) TP rfl rfl
end Go.Ir
end
namespace Go.Ir
open Go.Proofs
def MF(p:Al):Prop:=1<=p.kind/\p.kind<=11
theorem Tv{k t p st c q}(h:AG k t p st c q=true):1<=k/\k<=11:=by
 unfold AG at h;by_cases d:k=1
 .omega
 by_cases e:k=2
 .omega
 by_cases f:k=3
 .omega
 by_cases g:k=4
 .omega
 by_cases i:k=5
 .omega
 by_cases j:k=6
 .omega
 by_cases l:k=7
 .omega
 by_cases m:k=8
 .omega
 by_cases o:k=9
 .omega
 by_cases a:k=10
 .omega
 by_cases b:k=11
 .omega
 simp[d,e,f,g,i,j,l,m,o,a,b] at h
theorem Tb{k}(h:Bk k=true):k=7\/k=8\/k=9:=by unfold Bk at h;simp at h;omega
theorem La ps:∀d c a,B3 ps d c a=true->Cs MF ps:=by
 refine Nn (P:=λp=>∀d c,p.formedB d c=true->p.all MF)
  (Q:=λps=>∀d c a,B3 ps d c a=true->Cs MF ps)
  (R:=λcs=>∀k d c e,BX cs k d c e=true->DH MF cs) ?_ ?_ ?_ ?_ ?_ ps
 .intro p j g d c h;have i:=O1 [p] d c false (by rw[BO,h];simp[B3]);rw[CV,p.all_eq] at i;obtain⟨⟨w,_,_⟩,_⟩:=i;rw[p.formedB_eq] at h;rw[p.all_eq];cases b:p.kind==11 with
  | true=>
   have l:p.kind=11:=by simpa using b
   have f:Bk p.kind=false:=by rw[l];rfl
   rw[b,Aiv rfl,AcR] at h;refine⟨⟨by omega,by omega⟩,?_,g _ _ _ h.2⟩;rw[w.cases0 f];simp only[DH]
  | false=>
   rw[b,Amt (by simp)] at h;cases f:Bk p.kind with
   | true=>rw[f,Aiv rfl,AcR] at h;have:=Tb f;refine⟨⟨by omega,by omega⟩,j _ _ _ _ h.2,?_⟩;rw[w.parts0 b];simp only[Cs]
   | false=>
    rw[f,Amt (by simp)] at h;refine⟨Tv (Kj b f h),?_,?_⟩
    .rw[w.cases0 f];simp only[DH]
    .rw[w.parts0 b];simp only[Cs]
 .intro d c a _;simp only[Cs]
 .intro p ps hp g d c a h;rw[BO,AcR,AcR] at h;rw[CV];exact⟨hp _ _ h.2.1,g _ _ _ h.2.2⟩
 .intro k d c e h;simp only[DH]
 .intro x cs g j k d c e h;rw[E5,AcR,AcR] at h;rw[GI];exact⟨g _ _ _ h.2.1,j _ _ _ _ h.2.2⟩
end Go.Ir

namespace Go.Ir
open Go.Proofs
variable{P:Program}{O:World}{nt n:Nat}{Q:Exit→St→Prop}{env:Bm}{σ:Au}
end Go.Ir

namespace Go.Ir
open Go.Proofs
variable(O:World)
theorem VT:∀(l) (n),RT l n<=200->n<=200/\∀s∈l,s.length<=200
 | [],n,h=>⟨h,λs a=>by cases a⟩
 | x::r,n,h=>by
  rw[RT] at h;have ⟨h1,h2⟩:=VT r _ h;refine⟨by omega,λs a=>?_⟩;rcases Auy.1 a with rfl|a
  .omega
  .exact h2 s a
theorem I5{e}:∀{vs},CL e vs=true->e=true/\∀v∈vs,W4 v/\v.text.length<=2^24
 | [],h=>⟨h,λv c=>by cases c⟩
 | v::r,h=>by
  rw[CL,AcR,AuH,AyC,AyC,Ayh,Ayh] at h;have ⟨⟨⟨h1,h2⟩,_⟩,h3⟩:=h;have ⟨h4,h5⟩:=I5 h3;have ⟨h6,h7⟩:=VT v.list (v.text.length:Int) (by omega);refine⟨h4,λx a=>?_⟩;rcases Auy.1 a with rfl|a
  .exact⟨⟨by omega,by omega,λs b=>by have:=h7 s b;omega⟩,by omega⟩
  .exact h5 x a
theorem AbA(d:Ca O) L vs a (hp:-9223372036854775808<=L.prim)(f:L.sec<9223372036854775808)(g:A9 L.card+A9 L.ord<=2^24)(e:vs.length<=2^40)(b:HE L=true)(c:CL (decide ((vs.length:Int)<=30)) vs=true):zD ⟨L,vs,a⟩ (E6 L.months+E6 L.days+24):=by unfold HE at b;simp only[AcR,Avx] at b;exact fW O d L vs a (by omega) hp f g e (I5 c).2
theorem N6(f:BC O)(g:Ca O) c L ps vs a b (h:zD ⟨L,vs,a⟩ c)(j:AV b<=2^24) :
  An π O 7 [Oc L ps vs a,.sl (b.map Al.enc)] [] (.tup [.s (EM L b vs a).1,.i .i64 (EM L b vs a).2]) []:=by
 have e:=Ox O f g c L vs a b h j;generalize EM L b vs a=S at *;rw[Ce.enc_eq] at e;rw[Ft];refine Ah (vs:=[.s S.1,.i .i64 S.2]) AtK (by simp) (by simp) λn0 d=>?_;clear d;simp only[push_cast,seval,rq]
 repeat' (first|(((first|apply Ac|apply Af|apply Ag)<;>intro _h)<;>simp only[push_cast,seval,rq,_h])|(refine Ab (by exact e) ?_;simp only[push_cast,seval,rq])|intro _)
 refine Ai ?_;simp[push_cast,get]
theorem SX L vs a ps:(EM L ps vs a).1.length<=20000:=by
 unfold EM;split
 .split
  .rename_i h;exact JS (Dt ⟨L,vs,a⟩ ps []) ([],0) (λ_=>by simp) h
  .simp
 .simp
end Go.Ir
section
namespace Go.Ir
open Go.RowKit Go.Proofs.YtmlnblijickboaaGreatDoor
def Gj(a:Bool)(c:List V):V:=if a then .agg c else c.headD .any
inductive Fe (P:Program):TypeId->List V->Prop where
 | bool (t:TypeId) (b:Bool) (h:P.underlying t=some .bool):Fe P t [.b b]
 | int (t:TypeId) (k:IntKind) (n:Int) (h:P.underlying t=some (.int k)) (hw:(Lit.int k n).wf=true):Fe P t [.i k n]
 | str (t:TypeId) (l:List UInt8) (h:P.underlying t=some .string):Fe P t [.s l]
 | sl (t e:TypeId) (es:List V) (h:P.underlying t=some (.slice e)) (he:∀el∈es,∃c,el=Gj ((Du P e).getD false) c/\cells el=c) (hc:∀el∈es,(cells el).length=P.cellsOf e) (hw:∀el∈es,Fe P e (cells el)):Fe P t [.sl es]
 | st (t:TypeId) (fs:Array Field) (vs:List V) (h:P.underlying t=some (.struct fs)) (hl:vs.length=P.cellsOf t) (hf:∀f∈fs.toList,Fe P f.type ((vs.drop f.offset).take (P.cellsOf f.type))):Fe P t vs
mutual
def Bo:V->Nat
 | .s l=>l.length+1
 | .sl es=>AE es+1
 | .agg cs=>AE cs
 | _=>1
def AE:List V->Nat
 | []=>0
 | v::vs=>Bo v+AE vs
end
theorem FM(a b:List V):AE (a++b)=AE a+AE b:=by
 induction a with
 | nil=>simp[AE]
 | cons x a c=>simp[AE,c];omega
def wB(P:Program):List Field->Nat->Option Nat
 | [],a=>some a
 | f::b,a=>if f.offset=a then wB P b (a+P.cellsOf f.type) else none
def AmV(P:Program)(T:List TypeId):Bool:=T.all λt=>match P.underlying t with
 | some .bool|some (.int _)|some .string=>P.cellsOf t==1
 | some (.slice e)=>P.cellsOf t==1&&T.contains e&&decide (0<P.cellsOf e)
 | some (.struct a)=>a.toList.all (λf=>T.contains f.type)&&wB P a.toList 0==some (P.cellsOf t)
 | _=>false
section
variable{H:Type}{enc:TypeId×Value→H}{P:Program}{w:World}{base:Nat}{spare:Nat→Bool}{held:Bool}{T:List TypeId}
theorem Lf{d:DataW H}{a:List (DataW H)}(h:d∈a):Rows.uptoBulk d<=Rows.uptoBulkAll a:=by
 induction a with
 | nil=>cases h
 | cons x a b=>simp only[Rows.uptoBulkAll];grind
theorem Lh{μ:Id->Option Value}{Hc:Addr->Option Value}{cs:List Value} :
  ∀(j:List Field) (b c:Nat) (e:List (DataW H)),wB P j b=some c->cs.length=c->e.length=j.length->
   (∀(i:Nat) (f:Field) (d:DataW H),j[i]?=some f->e[i]?=some d->∃vs,AO μ Hc vs ((cs.drop f.offset).take (P.cellsOf f.type))/\Fe P f.type vs/\AE vs<=Rows.uptoBulk d)->
   b<=c/\∃vs,AO μ Hc vs (cs.drop b)/\(∀pre:List V,pre.length=b->∀f∈j,Fe P f.type (((pre++vs).drop f.offset).take (P.cellsOf f.type)))/\AE vs<=Rows.uptoBulkAll e
 | [],b,c,e,a,k,g,h=>by simp only[wB,Arp] at a;subst a;refine⟨AfJ _,[],?_,λ_ _ f m=>(by cases m),by simp[AE]⟩;rw[List.drop_of_length_le (by omega)];exact AO.nil_
 | f::j,b,c,e,a,k,g,h=>by
  simp only[wB] at a;split at a
  .rename_i s;cases e with
   | nil=>simp at g
   | cons d e=>
    have ⟨hle,vs,h1,h2,h3⟩:=Lh j _ c e a k (by simpa using g) (λi o q m r=>h (i+1) o q (by simpa using m) (by simpa using r));have ⟨us,g1,g2,g3⟩:=h 0 f d rfl rfl;rw[s] at g1;have t:us.length=P.cellsOf f.type:=by have:=g1.len;grind
    refine⟨by omega,us++vs,?_,?_,?_⟩
    .have:=g1.append h1;rw[<-AzC,Az6] at this;exact this
    .intro pre p o l;rcases Auy.1 l with rfl|l
     .grind
     grind
    .rw[FM];simp only[Rows.uptoBulkAll];omega
  .cases a
theorem TY{t:TypeId}{vs:List V}{a:Bool}(b:Du P t=some a)(h:Fe P t vs):cells (Gj a vs)=vs:=by
 cases a with
 | true=>rfl
 | false=>
  cases h with
  | st t c vs h e d=>simp[Du,h,eZ] at b
  | _=>rfl
theorem ZJ{t:TypeId}{vs:List V}{a:Bool}(b:Du P t=some a)(h:Fe P t vs):Bo (Gj a vs)=AE vs:=by
 cases a with
 | true=>simp[Gj,Bo]
 | false=>
  cases h with
  | st t c vs h e d=>simp[Du,h,eZ] at b
  | _=>simp[Gj,AE]
theorem Uu{μ:Id->Option Value}(hT:AmV P T=true):∀(n:Nat) (t:TypeId) (cs:List Value) (x:DataW H×List MemPlace),t∈T->DataW.trod enc P w base spare held n t cs=some x->Rows.uptoBulk x.1<=1048576->
  ∃vs,AO μ (λp=>w.cell? p) vs cs/\Fe P t vs/\AE vs<=Rows.uptoBulk x.1:=by
 intro n
 induction n with
 | zero=>intro t cs x _ h;simp[DataW.trod] at h
 | succ n ih=>
  intro t cs x ht h hb;have q:=As7.1 hT t ht;have one:∀{c:V} {v:Value},Aq μ (λp=>w.cell? p) c v->v.oneCell'=true->AO μ (λp=>w.cell? p) [c] [v]:=λhv E=>
   ⟨VRels.cons hv VRels.nil_,λv' aM=>by grind⟩
  cases z:P.underlying t with
  | none=>simp[z] at q
  | some d=>
   cases d<;>simp only[z] at q<;>(try (cases q;done))
   case bool=>
    unfold DataW.trod at h;rw[z] at h
    match cs,h with
    | [.bool b],h=>cases h;exact⟨[.b b],one (.b b) rfl,.bool t b z,by simp[AE,Bo,Rows.uptoBulk]⟩
   case int k=>
    unfold DataW.trod at h;rw[z] at h
    match cs,h with
    | [.int k' m],h=>
     simp only at h;split at h
     .rename_i I;obtain⟨rfl,hw⟩:=I;cases h;exact⟨[.i k' m],one (.i k' m) rfl,.int t k' m z hw,by simp[AE,Bo,Rows.uptoBulk]⟩
     .cases h
   case string=>
    unfold DataW.trod at h;rw[z] at h
    match cs,h with
    | [.string s],h=>
     simp only at h;split at h
     .rename_i hs;cases h;simp only[Rows.uptoBulk] at hb;refine⟨[.s s.data.toList],one ?_ rfl,.str t _ z,by simp[AE,Bo,Rows.uptoBulk]⟩;have:=Aq.s (μ:=μ) (H:=λp=>w.cell? p) s.data.toList (by unfold Am;omega);simpa using this
     .cases h
   case slice e=>
    simp only[AcR,Amz,A0A,Avx] at q;obtain⟨⟨aF,S⟩,aA⟩:=q;rcases DataW.trod_slice z h with⟨rfl,rfl⟩|⟨a,len,cap,elems,rest,m,hm,rfl,rfl,hbase,hlc,hcm,hel,helem,_,_⟩
    .exact⟨[.sl []],one (.slE none 0) rfl,.sl t e [] z (λ_ h=>by cases h) (λ_ h=>by cases h) (λ_ h=>by cases h),by simp[AE,Bo,Rows.uptoBulk]⟩
    .cases hm;simp only[Rows.uptoBulk] at hb;have U:=As7.1 hT e S;obtain⟨J,F⟩:∃J,Du P e=some J:=by
      unfold Du;cases al:P.underlying e with
      | none=>simp[al] at U
      | some d=>exact⟨_,rfl⟩
     have M:∀i,i<len->∃(vs:List V) (o:List Value) (y:DataW H×List MemPlace),elems[i]?=some y/\o.length=P.cellsOf e/\(∀k,k<P.cellsOf e->w.cell? (a.add (i*P.cellsOf e+k))=o[k]?)/\AO μ (λp=>w.cell? p) vs o/\Fe P e vs/\AE vs<=Rows.uptoBulk y.1:=by
      intro i hi;have E:=helem i hi;have D:i<elems.length:=by omega
      rw[Aqa D] at E;cases u:w.cells? base (a.add (i*P.cellsOf e)) (P.cellsOf e) with
      | none=>rw[u] at E;cases E
      | some o=>
       rw[u] at E;obtain⟨_,hl,G⟩:=World.cells?_some u;have C:elems[i].1∈elems.map (·.1):=Awt.2 ⟨_,A02 D,rfl⟩;have:=Lf C;obtain⟨vs,Z,r2,r3⟩:=ih e o elems[i] S E (by omega);refine⟨vs,o,elems[i],Aqa D,hl,λk I=>?_,Z,r2,r3⟩;have:=G k I
       rwa [show(a.add (i*P.cellsOf e)).add k=a.add (i*P.cellsOf e+k) from by unfold Addr.add;by_cases hi:i*P.cellsOf e=0<;>by_cases hj:k=0<;>simp[hi,AzI]] at this
     have all:∀j,j<=len->∃(es:List V) (g:List Value),es.length=j/\g.length=j*P.cellsOf e/\(∀r∈es,(∃c,r=Gj J c/\cells r=c)/\(cells r).length=P.cellsOf e/\Fe P e (cells r))/\AO μ (λp=>w.cell? p) (AK es) g/\
       (∀(k:Nat) (v:Value),g[k]?=some v->w.cell? (a.add k)=some v)/\AE es<=Rows.uptoBulkAll ((elems.map (·.1)).take j):=by
      intro j
      induction j with
      | zero=>intro _;exact⟨[],[],rfl,by simp,λ_ h=>(by cases h),AO.nil_,λk v h=>(by simp at h),by simp[AE]⟩
      | succ j ao=>
       intro hj;obtain⟨es,g,g1,g2,K,N,g5,g6⟩:=ao (by omega);obtain⟨vs,o,y,e1,e2,e3,e4,e5,e6⟩:=M j (by omega);have R:cells (Gj J vs)=vs:=TY F e5;refine⟨es++[Gj J vs],g++o,by simp[g1],by grind,?_,?_,?_,?_⟩
       .intro r B;rcases Am5.1 B with h'|h'
        .exact K r h'
        .rw[Az7.1 h',R];exact⟨⟨vs,rfl,rfl⟩,by rw[e4.len,e2],e5⟩
       .rw[F8];refine N.append ?_;have:AK [Gj J vs]=vs:=by simp[AK,R]
        rw[this];exact e4
       .intro k v I;rcases AxT k g.length with D|ag
        .grind
        .rw[At8 ag] at I;have az:k-g.length<o.length:=(Ath.1 I).1;have:=e3 (k-g.length) (by omega);rw[I,g2,show j*P.cellsOf e+(k-j*P.cellsOf e)=k by omega] at this;exact this
       .rw[FM];have ht:(elems.map (·.1)).take (j+1)=(elems.map (·.1)).take j++[y.1]:=by rw[List.take_add_one,AtX,e1];rfl
        have ae:∀(a b:List (DataW H)),Rows.uptoBulkAll (a++b)=Rows.uptoBulkAll a+Rows.uptoBulkAll b:=by
         intro a b
         induction a with
         | nil=>simp[Rows.uptoBulkAll]
         | cons x a ih=>simp[Rows.uptoBulkAll,ih];omega
        rw[ht,ae];have:=ZJ F e5;simp only[AE,Rows.uptoBulkAll];omega
     obtain⟨es,g,g1,g2,K,N,g5,g6⟩:=all len (AfJ _);have Y:∀(L:List (DataW H)),L.length<=Rows.uptoBulkAll L:=by
      intro L
      induction L with
      | nil=>simp 
      | cons d L ih=>
       have:1<=Rows.uptoBulk d:=by
        cases d<;>(try simp only[Rows.uptoBulk])<;>(try omega)
        rename_i l;cases l<;>simp[Rows.uptoBulk]
       simp only[Rows.uptoBulkAll,Aa8];omega
     have ai:=Y (elems.map (·.1));rw[AaT,hel] at ai;refine⟨[.sl es],one ?_ rfl,.sl t e es z (by rw[F];exact λr h=>(K r h).1) (λr h=>(K r h).2.1) (λr h=>(K r h).2.2),?_⟩
     .have:=Aq.slC (μ:=μ) (H:=λp=>w.cell? p) es a cap (P.cellsOf e) g (by omega) (by unfold AM;omega) (λr B=>(K r B).2.1) N.len N.one g5 N.at_;grind
     .rw[A0e (by simp;omega)] at g6;simp only[AE,Bo,Rows.uptoBulk];omega
   case struct fs=>
    simp only[AcR,Amz] at q;obtain⟨aH,X⟩:=q;obtain⟨xs,m,hm,rfl,u,an,hf⟩:=DataW.trod_struct z h;cases hm;simp only[Rows.uptoBulk] at hb;obtain⟨_,vs,Z,r2,r3⟩:=Lh (P:=P) (μ:=μ) (Hc:=λp=>w.cell? p) (cs:=cs) fs.toList 0 (P.cellsOf t) (xs.map (·.1)) X u (by simp[an]) (λi f d aI A=>by
     have W:fs[i]?=some f:=by grind
     have E:=hf i f W;rw[AtX] at A;cases hx:xs[i]? with
     | none=>rw[hx] at A;cases A
     | some y=>rw[hx] at A E;cases A;have C:y.1∈xs.map (·.1):=Awt.2 ⟨y,Au8 hx,rfl⟩;have:=Lf C;grind
)
    rw[AxJ] at Z;refine⟨vs,Z,.st t fs vs z (by rw[Z.len,u]) (λf af=>by simpa using r2 [] rfl f af),?_⟩;simp only[Rows.uptoBulk];omega
end
end Go.Ir
end
