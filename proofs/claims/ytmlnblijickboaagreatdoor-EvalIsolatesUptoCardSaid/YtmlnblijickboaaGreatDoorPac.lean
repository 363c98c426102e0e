/- A part of the proof that the law EvalIsolates answers true at every input of a bulk of at most 2^20. -/
import Derived.Test.YtmlnblijickboaaGreatDoorPab
import Derived.Lib.UnsafeStr
import Derived.Test.YtmlnblijickboaaGreatDoorProg
import Derived.Shelf.Strings.Builder1
import Derived.KernelRfl
import Derived.Lib.SlTrimSet
import Derived.Lib.Bytealg
import Derived.Lib.Atoi
import Derived.Lib.IndexMore
import Derived.Lib.Replace
import Derived.Lib.IndexAny
import Derived.Lib.Join
import Derived.Lib.SlicesCompact
import Derived.Lib.ItoaNum
set_option linter.all false
set_option maxHeartbeats 2000000
set_option maxRecDepth 100000
open Nat renaming reduceEqDiff→rq
section
namespace Go.Ir
open Go.RowKit
noncomputable section
def Sub(σ' σ:Au):Prop:=∀id e,lk σ' id=some e->lk σ id=some e
theorem Y9.sub{O nt B env σ σ' n a w}(h:Y9 O nt B ⟨env,σ,n⟩ a w)(p:Sub σ' σ):Y9 O nt B ⟨env,σ',n⟩ a w:=by obtain⟨⟨μ,H,A,hp,i,j,y⟩,u,q,s⟩:=h;refine⟨⟨μ,H,A,hp.part p,⟨i.mu,i.hp,i.size,i.keep,i.pin,λr g z=>i.dom r g ?_⟩,j,y⟩,u,λid e o=>q id e (p _ _ o),s⟩;obtain⟨id,e,o,g⟩:=z;exact⟨id,e,p _ _ o,g⟩
def Aes(n0:Nat)(σ:Au):List Id:=List.rec (motive:=λ_=>List Id) [] (λp _ e=>Bool.rec (motive:=λ_=>List Id) e (p.1::e) (Nat.blt p.1.1 n0)) σ
def AmM(n0:Nat)(σ:Au):Nat:=List.rec (motive:=λ_=>Nat) 0 (λp _ e=>Bool.rec (motive:=λ_=>Nat) (Nat.succ e) e (Nat.blt p.1.1 n0)) σ
def gcS(n0:Nat)(e:List V)(σ:Au):Au:=
 Bool.rec (motive:=λ_=>Au) (MP (Vq σ 100000 (V7 e (Aes n0 σ)) []) σ) σ (Nat.ble (AmM n0 σ) 12)
theorem L5 n0 g σ:Sub (gcS n0 g σ) σ:=by
 intro id e h;unfold gcS at h;cases i:Nat.ble (AmM n0 σ) 12 with
 | true=>rw[i] at h;exact h
 | false=>rw[i] at h;have h:lk (MP (Vq σ 100000 (V7 g (Aes n0 σ)) []) σ) id=some e:=h;unfold MP at h;rw[LQ] at h;grind
def UY(n0:Nat)(st:St):St:=⟨st.env,gcS n0 (st.env.map (·.2)) st.σ,st.n⟩
section
variable{P:Program}{O:World}
def GX(C:Bx)(n0:Nat):Nat->X2
 | 0=>λ_ _=>none
 | k+1=>λc st=>match EV C (GX C n0 k) c st with
  | some (.normal,s)=>GX C n0 k c (UY n0 s)
  | r=>r
theorem SA{C:Bx}(D:AX P O C){nt n0:Nat}:∀k,TE P O nt (GX C n0 k):=by
 intro k
 induction k using Nat.strongRecOn with
 | _ k W=>
 cases k with
 | zero=>intro c st e g _ h;cases h
 | succ k=>
  have U:=W k (Adx _);intro c st e g u h M T;have i:(match EV C (GX C n0 k) c st with
   | some (.normal,s)=>GX C n0 k c (UY n0 s)
   | r=>r)=some (e,g):=h
  have names:∀s,EV C (GX C n0 k) c st=some (.normal,s)->XS P O nt c st .normal s:=λs j=>Bv D U u j;have R:st.n<=g.n/\BG (Lt g.n) g.env/\Cv (Lt g.n) g.σ:=by
   split at i
   .rename_i s j;obtain⟨⟨E,Y,F⟩,_⟩:=names s j M T;have G:Cv (Lt s.n) (UY n0 s).σ:=λid e S=>F id e (L5 _ _ _ _ _ S);obtain⟨⟨H,q,h6⟩,_⟩:=U c (UY n0 s) e g u i Y G;exact⟨AvD E H,q,h6⟩
   .exact(Bv D U u i M T).1
  refine⟨R,?_⟩;refine tX (Inv:=λm s=>m<=k+1/\GX C n0 m c s=some (e,g)/\BG (Lt s.n) s.env/\Cv (Lt s.n) s.σ) (λm s hI=>?_) (k+1) ⟨AfJ _,h,M,T⟩;obtain⟨hm,j,y,z⟩:=hI;cases m with
  | zero=>cases j
  | succ m=>
   have j:(match EV C (GX C n0 m) c s with
    | some (.normal,s)=>GX C n0 m c (UY n0 s)
    | r=>r)=some (e,g):=j
   have A:TE P O nt (GX C n0 m):=W m (by omega);split at j
   .rename_i Z E;obtain⟨⟨Y,F,H⟩,q⟩:=Bv D A u E y z;have J:Cv (Lt Z.n) (UY n0 Z).σ:=λid e S=>H id e (L5 _ _ _ _ _ S);intro p o B a w L;refine wp_mono (q p o B a w L) λe' a w N=>?_;obtain⟨s2,⟨rfl,rfl⟩,ha⟩:=N;exact⟨UY n0 s2,⟨m,Adx _,by omega,j,F,J⟩,Y9.sub ha (L5 _ _ _)⟩
   .rename_i hr;obtain⟨_,q⟩:=Bv D A u j y z;refine Gt q λe' s' N=>?_;obtain⟨rfl,rfl⟩:=N;cases e' with
    | normal=>exact absurd j (hr _)
    | _=>exact⟨rfl,rfl⟩
def AjA(env:Bm)(σ:Au):R->Option V
 | .t s=>some (get env s)
 | .c s n g=>match get env s with
  | .ref id e=>match Ik σ id with
   | some (.box u)=>sub u e n g
   | _=>none
  | _=>none
def Wn(env:Bm)(σ:Au):List R->Option (List V)
 | []=>some []
 | r::e=>match AjA env σ r with
  | some v=>match Wn env σ e with
   | some vs=>some (v::vs)
   | none=>none
  | none=>none
theorem AcI{S st r v}(h:AjA st.env st.σ r=some v)(i:BG S st.env)(o:Cv S st.σ):SK st r v/\Bc S v:=by
 cases r with
 | t s=>cases h;exact⟨rfl,i s⟩
 | c s n p=>
  simp only[AjA] at h;split at h
  .rename_i id g j;split at h
   .rename_i u e;rw[BF] at e;exact⟨⟨id,g,u,j,e,h⟩,IQ h (o _ _ e).2.box_inv⟩
   .cases h
  .cases h
theorem Sh{S st}(g:BG S st.env)(i:Cv S st.σ):∀{e vs},Wn st.env st.σ e=some vs->DC st e vs/\∀v∈vs,Bc S v
 | [],vs,h=>by cases h;exact⟨trivial,λv s=>by cases s⟩
 | r::e,vs,h=>by
  rw[Wn] at h;split at h
  .rename_i v j;split at h
   .rename_i u o;cases h;obtain⟨p,w⟩:=AcI j g i;obtain⟨q,y⟩:=Sh g i o;exact⟨⟨p,q⟩,λx z=>by grind
⟩
   .cases h
  .cases h
theorem Abx{S vs}(h:∀v∈vs,Bc S v):Bc S (IX vs):=by
 unfold IX;split
 .exact h _ (by simp)
 .exact .tup _ h
structure ET where
 nt:Nat
 ic:IC
 rs:List R
def AaA(F:ET)(n:Nat)(st:St):Option (V×Au×Nat):=
 match Wn st.env st.σ F.rs with
 | some vs=>some (IX vs,gcS n [IX vs] st.σ,st.n)
 | none=>none
def xfn(C:Bx)(k:Nat)(F:ET)(args:List V)(σ:Au)(n:Nat):Option (V×Au×Nat):=
 bif Nat.ble args.length F.nt then(match EV C (GX C n k) F.ic ⟨params 0 args,σ,n⟩ with
  | some (.ret,st)=>AaA F n st
  | some (.normal,st)=>AaA F n st
  | _=>none) else none
def Ix(P:Program)(T:FuncId->Option ET):Prop:=∀f F,T f=some F->Ar P f F.nt F.ic F.rs=true/\F.ic.cl=true
def Qu(T:FuncId->Option ET)(B:Bx)(K:Nat):Nat->Bx
 | 0=>λ_ _ _ _=>none
 | k+1=>λf args σ n=>match T f with
  | some F=>xfn (Qu T B K k) K F args σ n
  | none=>B f args σ n
theorem Oe{S args}(h:∀a∈args,Bc S a):BG S (params 0 args):=by
 intro s;rw[IE];simp only[Aul,Agp,A0u];cases e:args[s]? with
 | none=>exact .any
 | some v=>exact Df h e
theorem Abj{T:FuncId->Option ET}{B:Bx}{K:Nat}(hT:Ix P T)(hB:AX P O B):∀k,AX P O (Qu T B K k):=by
 intro k
 induction k with
 | zero=>intro f args σ n v σ' n' h;cases h
 | succ k ih=>
  intro f args σ n v σ' n' h R hs;have h:(match T f with
   | some F=>xfn (Qu T B K k) K F args σ n
   | none=>B f args σ n)=some (v,σ',n'):=h
  split at h
  .rename_i F hF;obtain⟨Z,aa⟩:=hT f F hF;unfold xfn at h;cases S:Nat.ble args.length F.nt with
   | false=>rw[S] at h;cases h
   | true=>
   rw[S] at h;simp only[AzB] at h;have z:args.length<=F.nt:=Az9 S;have key:∀e st,(e=.ret\/e=.normal)->EV (Qu T B K k) (GX (Qu T B K k) n K) F.ic ⟨params 0 args,σ,n⟩=some (e,st)->AaA F n st=some (v,σ',n')->Gn P O f args σ n v σ' n':=by
    intro e st ab M g;unfold AaA at g;split at g
    .rename_i vs ag;cases g;obtain⟨⟨h1,h2,h3⟩,h4⟩:=Bv (nt:=F.nt) ih (SA ih K) aa M (Oe R) hs;obtain⟨h5,h6⟩:=Sh h2 h3 ag;have o:=L5 n [IX vs] st.σ;obtain⟨N,c,hf,W,q,A,ae,y⟩:=Ib Z;refine⟨y,h1,Abx h6,λid e hl=>h3 id e (o _ _ hl),λw μ H ak hp hv=>?_⟩;have C:N.ntmps=F.nt:=A;refine calls_of_wp hf W ?_;have u:=LI (nt:=N.ntmps) (by rw[A];exact z) hp hv;rw[C] at u⊢;refine wp_mono (h4 c q _ _ _ ⟨u,Oe R,hs,λid ac=>hp.bd id ac⟩) λe' a w' hh=>?_;obtain⟨r,⟨rfl,rfl⟩,⟨ah,H',G,E,j,D,hn⟩,_⟩:=hh;have s:a.defers=[]/\∃v,(results N a.tmps).run P w'=.ok v w'/\∃val i p,Ending.returned v=Ending.returned val/\Aq i p (IX vs) val/\Hp O (gcS n [IX vs] r.σ) r.n i p w'/\Fr μ H σ w i p (gcS n [IX vs] r.σ) w'/\∀id:Id,id.1<n->μ id=none->i id=none:=by obtain⟨val,L,J⟩:=F5 G E ae h5;refine⟨G.defers,val,L,val,ah,H',rfl,J,E.part o,⟨j.mu,j.hp,j.size,j.keep,j.pin,λbk Y ho=>j.dom bk Y ?_⟩,D⟩;obtain⟨id,e,hl,U⟩:=ho;exact⟨id,e,o _ _ hl,U⟩
     rcases ab with rfl|rfl
     .exact s
     .exact s
    .cases g
   split at h
   .rename_i st M;exact key _ st (.inl rfl) M h
   .rename_i st M;exact key _ st (.inr rfl) M h
   .cases h
  .exact hB f args σ n v σ' n' h R hs
theorem T8{T:FuncId->Option ET}{B:Bx}{K k:Nat}(i:Ix P T)(hB:AX P O B){f:FuncId}{args:List V}{v:V}{σ':Au}{n':Nat}(h:Qu T B K k f args [] 0=some (v,σ',n'))(g:K5 0 args=true)(p:PZ 0 v=true):An P O f args [] v []:=
 An.of_at (Abj i hB k _ _ _ _ _ _ _ h (EP.2 args g) Cv.nil) (EP.2 args g) Cv.nil (λid e j=>by cases j) (λid o=>absurd rfl o) (EP.1 v p) Cv.nil
end
end
end Go.Ir
end
section
namespace Go.Ir
open Go.RowKit
noncomputable section
section force
variable{β:Type}
def Di(n:Nat)(k:Nat->β):β:=Nat.rec (motive:=λ_=>β) (k 0) (λm _=>k (Nat.succ m)) n
theorem CB n (k:Nat->β):Di n k=k n:=by cases n<;>rfl
def TK(n:Int)(k:Int->β):β:=Int.rec (motive:=λ_=>β) (λa=>Di a λa=>k (.ofNat a)) (λa=>Di a λa=>k (.negSucc a)) n
theorem YP n (k:Int->β):TK n k=k n:=by
 cases n with
 | ofNat a=>exact CB a λa=>k (.ofNat a)
 | negSucc a=>exact CB a λa=>k (.negSucc a)
def nG(b:Bool)(k:Bool->β):β:=Bool.rec (motive:=λ_=>β) (k false) (k true) b
theorem aI b (k:Bool->β):nG b k=k b:=by cases b<;>rfl
def PK(c:UInt8)(k:UInt8->β):β:=Di c.toNat λn=>k (UInt8.ofNat n)
theorem cC c (k:UInt8->β):PK c k=k c:=by unfold PK;rw[CB,UInt8.ofNat_toNat]
def Qz(l:List UInt8)(k:List UInt8->β):β:=List.rec (motive:=λ_=>(List UInt8->β)->β) (λk=>k []) (λc _ e k=>PK c λc=>e λl=>k (c::l)) l k
theorem Z0 l:∀k:List UInt8->β,Qz l k=k l:=by
 induction l with
 | nil=>intro k;rfl
 | cons c l e=>intro k;rw[show Qz (c::l) k=PK c λc=>Qz l λl=>k (c::l) from rfl,cC];exact e _
def hB(x:Bool)(k:V->β):β:=k (.b x)
def hI(a:IntKind)(n:Int)(k:V->β):β:=k (.i a n)
def hS(l:List UInt8)(k:V->β):β:=k (.s l)
def AvC(k:V->β):β:=k .nil
def hSl(l:List V)(k:V->β):β:=k (.sl l)
def Au7(l:List V)(k:V->β):β:=k (.agg l)
def AtY(l:List V)(k:V->β):β:=k (.tup l)
def Av3(id:Id)(o:Nat)(k:V->β):β:=k (.ref id o)
def AuM(id:Id)(k:V->β):β:=k (.arr id)
def Aqg(id:Id)(a b c:Nat)(k:V->β):β:=k (.aref id a b c)
def hEp(e:V)(o:Nat)(k:V->β):β:=k (.ep e o)
def hFn(f:FuncId)(a c:List V)(k:V->β):β:=k (.fn f a c)
def hNp(k:V->β):β:=k .np
def hNf(k:V->β):β:=k .nf
def hNi(k:V->β):β:=k .ni
def hNm(k:V->β):β:=k .nm
def hUb(k:V->β):β:=k .ub
def Avs(k:V->β):β:=k .any
def My(v:V)(k:V->β):β:=V.casesOn (motive_1:=λ_=>(V->β)->β) v hB hI hS AvC hSl Au7 AtY Av3 AuM Aqg hEp hFn hNp hNf hNi hNm hUb Avs k
theorem OB v (k:V->β):My v k=k v:=by cases v<;>rfl
def DK(l:List V)(k:List V->β):β:=List.rec (motive:=λ_=>(List V->β)->β) (λk=>k []) (λv _ e k=>My v λv=>e λl=>k (v::l)) l k
theorem Ey l:∀k:List V->β,DK l k=k l:=by
 induction l with
 | nil=>intro k;rfl
 | cons c l e=>intro k;rw[show DK (c::l) k=My c λc=>DK l λl=>k (c::l) from rfl,OB];exact e _
def GV(id:Id)(k:Id->β):β:=Di id.1 λa=>Di id.2 λb=>k (a,b)
theorem IV id (k:Id->β):GV id k=k id:=by unfold GV;rw[CB,CB]
def TV(a:IntKind)(k:IntKind->β):β:=
 match a with
 | .i8=>k .i8|.i16=>k .i16|.i32=>k .i32|.i64=>k .i64|.u8=>k .u8|.u16=>k .u16|.u32=>k .u32|.u64=>k .u64
theorem bI a (k:IntKind->β):TV a k=k a:=by cases a<;>rfl
def vB(x:Bool)(_:Bool)(k:V->β):β:=nG x λx=>k (.b x)
def vI(a:IntKind)(n:Int)(_:Bool)(k:V->β):β:=TV a λa=>TK n λn=>k (.i a n)
def ApD(l:List UInt8)(e:Bool)(k:V->β):β:=bif e then Qz l λl=>k (.s l) else k (.s l)
def Asd(_:Bool)(k:V->β):β:=k .nil
def vSl(es:List V)(_:Bool)(k:V->β):β:=DK es λes=>k (.sl es)
def Aqh(es:List V)(_:Bool)(k:V->β):β:=DK es λes=>k (.agg es)
def AtC(es:List V)(_:Bool)(k:V->β):β:=DK es λes=>k (.tup es)
def Ao8(id:Id)(o:Nat)(_:Bool)(k:V->β):β:=GV id λid=>Di o λo=>k (.ref id o)
def Aql(id:Id)(_:Bool)(k:V->β):β:=GV id λid=>k (.arr id)
def Agj(id:Id)(a b c:Nat)(_:Bool)(k:V->β):β:=GV id λid=>Di a λa=>Di b λb=>Di c λc=>k (.aref id a b c)
def vEp(e:V)(o:Nat)(_:Bool)(k:V->β):β:=My e λe=>Di o λo=>k (.ep e o)
def vFn(f:FuncId)(a c:List V)(_:Bool)(k:V->β):β:=DK a λa=>DK c λc=>k (.fn f a c)
def vNp(_:Bool)(k:V->β):β:=k .np
def vNf(_:Bool)(k:V->β):β:=k .nf
def vNi(_:Bool)(k:V->β):β:=k .ni
def vNm(_:Bool)(k:V->β):β:=k .nm
def vUb(_:Bool)(k:V->β):β:=k .ub
def Art(_:Bool)(k:V->β):β:=k .any
def Qf(e:Bool)(v:V)(k:V->β):β:=V.casesOn (motive_1:=λ_=>Bool->(V->β)->β) v vB vI ApD Asd vSl Aqh AtC Ao8 Aql Agj vEp vFn vNp vNf vNi vNm vUb Art e k
theorem AU d v (k:V->β):Qf d v k=k v:=by
 cases v with
 | b x=>exact aI x λx=>k (.b x)
 | i a n=>show TV a (λa=>TK n λn=>k (.i a n))=_;rw[bI,YP]
 | s l=>cases d
        .rfl
        .exact Z0 l λl=>k (.s l)
 | sl es=>exact Ey es λes=>k (.sl es)
 | agg es=>exact Ey es λes=>k (.agg es)
 | tup es=>exact Ey es λes=>k (.tup es)
 | ref id o=>show GV id (λid=>Di o λo=>k (.ref id o))=_;rw[IV,CB]
 | arr id=>exact IV id λid=>k (.arr id)
 | aref id a b c=>show GV id (λid=>Di a λa=>Di b λb=>Di c λc=>k (.aref id a b c))=_;rw[IV,CB,CB,CB]
 | ep e o=>show My e (λe=>Di o λo=>k (.ep e o))=_;rw[OB,CB]
 | fn f a c=>show DK a (λa=>DK c λc=>k (.fn f a c))=_;rw[Ey,Ey]
 | _=>rfl
def LT(l:List V)(k:List V->β):β:=List.rec (motive:=λ_=>(List V->β)->β) (λk=>k []) (λv _ e k=>Qf true v λv=>e λl=>k (v::l)) l k
theorem U2 l:∀k:List V->β,LT l k=k l:=by
 induction l with
 | nil=>intro k;rfl
 | cons c l e=>intro k;rw[show LT (c::l) k=Qf true c λc=>LT l λl=>k (c::l) from rfl,AU];exact e _
def At5(es:List V)(e:Bool)(k:V->β):β:=bif e then LT es λes=>k (.tup es) else DK es λes=>k (.tup es)
def Ph(e:Bool)(v:V)(k:V->β):β:=V.casesOn (motive_1:=λ_=>Bool->(V->β)->β) v vB vI ApD Asd vSl Aqh At5 Ao8 Aql Agj vEp vFn vNp vNf vNi vNm vUb Art e k
theorem HQ d v (k:V->β):Ph d v k=k v:=by
 cases v with
 | tup es=>cases d
           .exact Ey es λes=>k (.tup es)
           .exact U2 es λes=>k (.tup es)
 | b x=>exact AU d (.b x) k
 | i a n=>exact AU d (.i a n) k
 | s l=>exact AU d (.s l) k
 | nil=>exact AU d (.nil ) k
 | sl es=>exact AU d (.sl es) k
 | agg es=>exact AU d (.agg es) k
 | ref id o=>exact AU d (.ref id o) k
 | arr id=>exact AU d (.arr id) k
 | aref id a b c=>exact AU d (.aref id a b c) k
 | ep e o=>exact AU d (.ep e o) k
 | fn f a c=>exact AU d (.fn f a c) k
 | np=>exact AU d (.np ) k
 | nf=>exact AU d (.nf ) k
 | ni=>exact AU d (.ni ) k
 | nm=>exact AU d (.nm ) k
 | ub=>exact AU d (.ub ) k
 | any=>exact AU d (.any ) k
end force
section
variable{β:Type}
end
end
end Go.Ir
end
section
namespace Go.Ir
open Go.RowKit
section
variable{P:Program}{O:World}{f:FuncId}{args:List V}{σ:Au}{n:Nat}{v:V}
theorem Gn.of_ret(h:An P O f args [] v [])(B:WR v=true)(A:Cv (Lt n) σ):Gn P O f args σ n v σ n where
 callable:=h.callable
 le:=AfJ _
 vin:=Pn.1 v B
 sin:=A
 run:=by
  intro w μ H q hp o;have i:∀id e,lk ([]:Au) id=some e->lk σ id=some e:=λid e J=>by cases J
  refine Ayu (h.run n w μ H q (hp.part i) o) ?_;rintro e w' ⟨val,y,C,n',rfl,s,r,L,G,g⟩;obtain⟨z,j⟩:=hp.back i r G;rw[FU] at z j;refine⟨val,cut n y,C,rfl,s.cut (Pn.1 v B),z.cut A,⟨λid x u=>?_,j.hp,j.size,j.keep,j.pin,λD F M=>j.dom D F (G1 M)⟩,λid p E=>?_⟩
  .rcases AxT id.1 n with h|h
   .rw[FN (m:=n) h];exact j.mu id x u
   .rw[hp.bd id h] at u;cases u
  .rw[FN (m:=n) p];exact g id p E
theorem Hp.lose{w w' σ1 μ H}(hp:Hp O σ n μ H w){R}(r:Bj R w w')(s:∀k,R k->Own μ σ k)
  (j:∀id e,lk σ1 id=some e->lk σ id=some e/\∀g,Cc (μ id)=some g->¬R g):Hp O σ1 n μ H w'/\Fr μ H σ w μ H σ1 w':=by
 have i:∀g,Own μ σ1 g->Own μ σ g:=by rintro g ⟨id,e,p,o⟩;exact⟨id,e,(j _ _ p).1,o⟩
 refine⟨⟨hp.base_turned r s,hp.pins_turned r s,?_,λg q=>hp.unp g (i g q),λA y i2 z g l1 l2=>hp.sep _ _ _ _ g (j _ _ l1).1 (j _ _ l2).1,hp.bd⟩,
  ⟨λ_ _ h=>h,λ_ _ h=>h,r.size,λg o q=>r.block g o (λu=>q (s g u)),λ_ _ _=>rfl,λg _ q=>i g q⟩⟩
 intro id e p;refine(hp.ents _ _ (j _ _ p).1).keep (λ_ _ h=>h) (λ_ _ h=>h) (λg o=>?_);exact r.block g ((hp.ents _ _ (j _ _ p).1).block o).2 ((j _ _ p).2 g o)
end
theorem VRels.one_{μ H v e}(h:VRels μ H [v] e):∃x,e=[x]/\Aq μ H v x:=by
 have g:=h.len
 match e,g with
 | [x],_=>exact⟨x,rfl,h.at_ 0 v x rfl rfl⟩
 | [],g=>simp at g
 | _::_::_,g=>simp at g
theorem Aq.np_inv'{μ H val}(h:Aq μ H .np val):val=.pointer none:=by cases h;rfl
section
variable{P:Program}{O:World}
def orC(a b:Bx):Bx:=λf args σ n=>match a f args σ n with
 | some r=>some r
 | none=>b f args σ n
theorem I6{a b}(e:AX P O a)(g:AX P O b):AX P O (orC a b):=by
 intro f args σ n v σ' n' h;unfold orC at h;split at h
 .rename_i r i;cases h;exact e _ _ _ _ _ _ _ i
 .exact g _ _ _ _ _ _ _ h
noncomputable def zG(e:FuncId)(g:List V->Option V):Bx:=λf args σ n=>bif Nat.beq f e then(match g args with
 | some v=>Ph true v λv=>some (v,σ,n)
 | none=>none) else none
theorem Qj{i:FuncId}{g:List V->Option V}(h:∀args v,g args=some v->An P O i args [] v []/\WR v=true):AX P O (zG i g):=by
 intro f args σ n v σ' n' e s q;unfold zG at e;cases j:Nat.beq f i with
 | false=>rw[j] at e;cases e
 | true=>
  rw[j] at e;obtain rfl:=Ax1 j;simp only[AzB] at e;split at e
  .rename_i v1 r;rw[HQ] at e;cases e;obtain⟨o,p⟩:=h _ _ r;exact Gn.of_ret o p q
  .cases e
noncomputable def z8(j:FuncId)(h:List (TypeId×Nat×Nat)):Bx:=λf args σ n=>bif Nat.beq f j then(match args with
 | [.ref id e]=>match Ik σ id with
  | some (.tbox T u)=>chk (h.any λp=>Nat.beq p.1 T&&Nat.beq p.2.1 (cells u).length&&Nat.beq p.2.2 e) (match(cells u)[e]? with
   | some .np=>match DJ u e 1 (.ref id e) with
    | some o=>some (.tup [],Aa6 σ id (.tbox T o),n)
    | none=>none
   | some (.ref i g)=>chk (R9 id i&&Nat.beq e g) (some (.tup [],σ,n))
   | _=>none)
  | _=>none
 | _=>none) else none
theorem Aac{f0:FuncId}{adm:List (TypeId×Nat×Nat)}(hcal:callable P f0=true)
  (used:∀(b off:Nat) (w:World),w.cell? ⟨b,off,none⟩=some (.pointer (some ⟨b,off,none⟩))->Calls P f0 #[.pointer (some ⟨b,off,none⟩)] w fun e w'=>e=.returned (.tuple #[])/\w'=w)
  (fresh:∀(T k off:Nat),(T,k,off)∈adm->∀(b:Nat) (w:World),w.cell? ⟨b,off,none⟩=some (.pointer none)->w.shape? b=some (T,k)->w.frozen? ⟨b,off,none⟩=false->off<k->
   Calls P f0 #[.pointer (some ⟨b,off,none⟩)] w fun e w'=>e=.returned (.tuple #[])/\w'=w.setCell ⟨b,off,none⟩ (.pointer (some ⟨b,off,none⟩))):AX P O (z8 f0 adm):=by
 intro f args σ n v σ' n' he ha hs
 unfold z8 at he
 cases hb:Nat.beq f f0 with
 | false=>rw[hb] at he;cases he
 | true=>
  rw[hb] at he
  obtain rfl:=Ax1 hb
  simp only[AzB] at he
  split at he
  .rename_i id off
   split at he
   .rename_i T u hl
    rw[BF] at hl
    obtain⟨hadm,he⟩:=AA.1 he
    obtain⟨p,hp1,hp2⟩:=AyX.1 hadm
    simp only[AcR,AyM] at hp2
    obtain⟨⟨hT,hk⟩,ho⟩:=hp2
    have hmem:(T,(cells u).length,off)∈adm:=by
     obtain⟨a,b,c⟩:=p
     simp only at hT hk ho
     rw[<-hT,<-hk,<-ho];exact hp1
    have hid:Lt n id:=(hs _ _ hl).1
    have hund:∀{μ:Id->Option Value} {H:Addr->Option Value},Aq μ H (.tup []) (.tuple #[]):=.tup [] [] rfl (fun k c v hk=>by simp at hk)
    split at he
    .rename_i hc
     split at he
     .rename_i u' hset
      cases he
      obtain⟨hl1,hfit,hcells⟩:=GH hset
      have hoff:off<(cells u).length:=by omega
      have hin:K4 (Lt n) (.tbox T u'):=.tbox _ _ (LJ hset (hs _ _ hl).2.tbox_inv (.ref _ _ hid))
      refine⟨hcal,AfJ _,.tup _ (fun _ h=>by cases h),by rw[Qp];exact hs.upd hl hin,?_⟩
      intro w μ H vals hp hargs
      obtain⟨x,rfl,hx⟩:=hargs.one_
      obtain⟨bk,hm,rfl⟩:=hx.ref_inv
      obtain⟨bk',cv,hm',hB,hg,hrel⟩:=hp.ents _ _ hl
      rw[hm] at hm'
      cases hm'
      obtain⟨x0,hx0,hr0⟩:=hrel.toVRels.get hc
      rw[hr0.np_inv'] at hx0
      have hlen:(cells u).length=cv.size:=by rw[hrel.len];simp
      have hk0:off<cv.size:=by omega
      have hcv:cv[off]=.pointer none:=by
       rw[AwV,AwM hk0] at hx0
       exact A0C hx0
      refine Ayu (fresh T _ off hmem bk w (by simp[World.cell?,hg,hk0,hcv]) (by simp[World.shape?,hg,hlen]) (by simp[World.frozen?,hg]) hoff) ?_
      rintro e w' ⟨rfl,rfl⟩
      have hset':w.setCell ⟨bk,off,none⟩ (.pointer (some ⟨bk,off,none⟩))=w.setRow bk (cv.setIfInBounds off (.pointer (some ⟨bk,off,none⟩))):=setCell_eq_setRow w bk off cv T (0,0) _ hg
      rw[hset']
      have hrel':AO μ H (cells u') (cv.setIfInBounds off (.pointer (some ⟨bk,off,none⟩))).toList:=by
       have h1:AO μ H (cells (V.ref id off)) [.pointer (some ⟨bk,off,none⟩)]:=⟨VRels.nil_.cons (.ref id off bk hm),fun v hv=>by simp at hv;subst hv;rfl⟩
       have:=DG hrel h1 off (off+1)
       rw[hcells,A0k,AzO,Aiv (by simpa using hk0)]
       simpa using this
      have hnew:=hp.set_ (e:=.tbox T u') hl ((Bj.setRow w bk _).to (fun k hk=>by subst hk;simp[hm,Cc])) ⟨bk,_,hm,hB,setRow_heap w bk cv _ T (0,0) hg,hrel'⟩
      rw[Qp]
      exact⟨_,μ,H,rfl,hund,hnew.1,hnew.2,fun _ _ h=>h⟩
     .cases he
    .rename_i id' off' hc
     obtain⟨hq,he2⟩:=AA.1 he
     clear he
     simp only[AcR,AyM] at hq
     obtain⟨hq1,rfl⟩:=hq
     obtain rfl:=EY.1 hq1
     cases he2
     refine⟨hcal,AfJ _,.tup _ (fun _ h=>by cases h),hs,?_⟩
     intro w μ H vals hp hargs
     obtain⟨x,rfl,hx⟩:=hargs.one_
     obtain⟨bk,hm,rfl⟩:=hx.ref_inv
     obtain⟨bk',cv,hm',hB,hg,hrel⟩:=hp.ents _ _ hl
     rw[hm] at hm'
     cases hm'
     obtain⟨x0,hx0,hr0⟩:=hrel.toVRels.get hc
     obtain⟨bk2,hm2,rfl⟩:=hr0.ref_inv
     rw[hm] at hm2
     cases hm2
     have hk0:off<cv.size:=by
      have:=(Ath.1 hx0).1
      simpa using this
     have hcv:cv[off]=.pointer (some ⟨bk,off,none⟩):=by
      rw[AwV,AwM hk0] at hx0
      exact A0C hx0
     refine Ayu (used bk off w (by simp[World.cell?,hg,hk0,hcv])) ?_
     rintro e w' ⟨rfl,rfl⟩
     exact⟨_,μ,H,rfl,hund,hp,Fr.refl _ _ _ _,fun _ _ h=>h⟩
    .cases he
   .cases he
  .cases he
def X6(v:V):Option UInt8:=
 match v with
 | .i .u8 (.ofNat n)=>bif Nat.blt n 256 then some (UInt8.ofNat n) else none
 | _=>none
noncomputable def Vr(es:List V):Option (List UInt8):=List.rec (motive:=λ_=>Option (List UInt8)) (some []) (λv _ e=>match X6 v with
 | some c=>match e with
  | some l=>some (c::l)
  | none=>none
 | none=>none) es
theorem yL{v c}(h:X6 v=some c):v=.i .u8 c.toNat:=by
 unfold X6 at h;split at h
 .rename_i n;cases e:Nat.blt n 256 with
  | false=>rw[e] at h;cases h
  | true=>
   rw[e] at h;cases h;have:n<256:=by simpa using e
   have g:(UInt8.ofNat n).toNat=n:=by simp;omega
   rw[g];rfl
 .cases h
theorem O7:∀{es l},Vr es=some l->es=Az l
 | [],l,h=>by cases h;rfl
 | v::es,l,h=>by
  have e:(match X6 v with
   | some c=>match Vr es with
    | some l=>some (c::l)
    | none=>none
   | none=>none)=some l:=h
  split at e
  .rename_i c g;split at e
   .rename_i j i;cases e;rw[O7 i,yL g];rfl
   .cases e
  .cases e
theorem IZ{μ H}:∀{l e},AO μ H (AK (Az l)) e->e=Lib.byteCells l
 | [],e,h=>by have:=h.len;simp only[Az,Asz,AK,AzU,Adu] at this;exact Aw6 this.symm
 | c::l,e,h=>by
  have g:=h.len;have q:AK (Az (c::l))=V.i .u8 c.toNat::AK (Az l):=rfl;rw[q] at h g;cases e with
  | nil=>simp at g
  | cons x xs=>
   have o:=h.at_ 0 _ x rfl rfl;have p:AO μ H (AK (Az l)) xs:=⟨⟨by simpa using g,λk c v r j=>h.at_ (k+1) c v (by simpa using r) (by simpa using j)⟩,λv j=>h.one v (by simp[j])⟩
   rw[IZ p,o.i_inv];rfl
noncomputable def AaI(l:List UInt8)(σ:Au)(n:Nat):Option (V×Au×Nat):=chk (Nat.ble l.length Am) (Ph true (.s l) λv=>some (v,σ,n))
noncomputable def AaW(h:FuncId)(e:TypeId):Bx:=λf args σ n=>bif Nat.beq f h then(match args with
 | [.ref id g]=>match Ik σ id with
  | some (.tbox T u)=>match(cells u)[Nat.succ g]? with
   | some .nil=>AaI [] σ n
   | some (.arr bid)=>match Ik σ bid with
    | some (.arr e' sz es)=>chk (Nat.beq e' e&&Nat.beq sz 1) (match Vr es with
     | some l=>AaI l (jQ σ bid) n
     | none=>none)
    | _=>none
   | _=>none
  | _=>none
 | _=>none) else none
theorem Abd{f0:FuncId}{e:TypeId}(hcal:callable P f0=true)
  (hrun:∀(b off:Nat) (l:List UInt8) (v:Value) (B:Nat) (w:World),w.cell? ⟨b,Nat.succ off,none⟩=some v->w.ownsRow B e 1 v l.length (Lib.byteCells l)->
   Calls P f0 #[.pointer (some ⟨b,off,none⟩)] w fun e w'=>e=.returned (.string ⟨l.toArray⟩)/\w.grownBy w' v.ownBlock):AX P O (AaW f0 e):=by
 intro f args σ n v σ' n' he ha hs
 unfold AaW at he
 cases hb:Nat.beq f f0 with
 | false=>rw[hb] at he;cases he
 | true=>
  rw[hb] at he
  obtain rfl:=Ax1 hb
  simp only[AzB] at he
  have cell:∀{id off T u x w} {μ:Id->Option Value} {H:Addr->Option Value} {vals:List Value},lk σ id=some (.tbox T u)->(cells u)[Nat.succ off]?=some x->Hp O σ n μ H w->VRels μ H [.ref id off] vals->
    ∃bk val,vals=[.pointer (some ⟨bk,off,none⟩)]/\w.cell? ⟨bk,Nat.succ off,none⟩=some val/\Aq μ H x val:=by
   intro id off T u x w μ H vals hl hc hp hargs
   obtain⟨y,rfl,hy⟩:=hargs.one_
   obtain⟨bk,hm,rfl⟩:=hy.ref_inv
   obtain⟨bk',cv,hm',hB,hg,hrel⟩:=hp.ents _ _ hl
   rw[hm] at hm'
   cases hm'
   obtain⟨x0,hx0,hr0⟩:=hrel.toVRels.get hc
   refine⟨bk,x0,rfl,?_,hr0⟩
   have hk0:=(Ath.1 hx0).1
   have hk0:Nat.succ off<cv.size:=by simpa using hk0
   rw[AwV,AwM hk0] at hx0
   simp only[World.cell?,hg,AwM hk0]
   exact hx0
  split at he
  .rename_i id off
   split at he
   .rename_i T u hl
    rw[BF] at hl
    split at he
    .rename_i hc
     unfold AaI at he
     obtain⟨hlim,he⟩:=AA.1 he
     rw[HQ] at he
     cases he
     refine⟨hcal,AfJ _,.s _,hs,?_⟩
     intro w μ H vals hp hargs
     obtain⟨bk,val,rfl,hcell,hr⟩:=cell hl hc hp hargs
     rw[hr.nil_inv] at hcell
     refine Ayu (hrun bk off [] _ O.heap.size w hcell (A0f w _ e 1)) ?_
     rintro e' w' ⟨rfl,hgr⟩
     have:=hp.lose (σ1:=σ) (R:=fun _=>False) ((Bj.of_grown hgr).to (fun k hk=>by simp[Value.ownBlock] at hk)) (fun _ h=>h.elim) (fun id e h=>⟨h,fun _ _ h=>h⟩)
     exact⟨_,μ,H,rfl,.s [] (by unfold Am;simp),this.1,this.2,fun _ _ h=>h⟩
    .rename_i bid hc
     split at he
     .rename_i e' sz es hlb
      rw[BF] at hlb
      obtain⟨hq,he2⟩:=AA.1 he
      clear he
      simp only[AcR,AyM] at hq
      obtain⟨rfl,rfl⟩:=hq
      split at he2
      .rename_i l hbs
       unfold AaI at he2
       obtain⟨hlim,he3⟩:=AA.1 he2
       clear he2
       rw[HQ,Wx] at he3
       cases he3
       obtain rfl:=O7 hbs
       refine⟨hcal,AfJ _,.s _,hs.del _,?_⟩
       intro w μ H vals hp hargs
       obtain⟨bk,val,rfl,hcell,hr⟩:=cell hl hc hp hargs
       obtain⟨hmb,h1c⟩:=hr.arr_inv
       obtain⟨bvals,_,hown,hlim',hsz,hrel⟩:=Dx hp hlb hmb
       rw[IZ hrel,show(Az l).length=l.length by simp[Az]] at hown
       refine Ayu (hrun bk off l val O.heap.size w hcell hown) ?_
       rintro e'' w' ⟨rfl,hgr⟩
       have hob:∀k,some k=val.ownBlock->Cc (μ bid)=some k:=by
        intro k hk
        rw[hmb]
        obtain⟨A',cap',hv'⟩:=BS hown
        rw[hv'] at hk⊢
        cases A' with
        | none=>simp[Value.ownBlock] at hk
        | some A'=>simpa[Value.ownBlock,Cc] using hk.symm
       have:=hp.lose (σ1:=del σ bid) (Bj.of_grown hgr) (fun k hk=>⟨bid,_,hlb,hob k hk⟩) (fun id' e' h=>by
        rw[Dk] at h
        split at h
        .cases h
        .rename_i hne
         exact⟨h,fun b hb hb'=>hne (hp.sep _ _ _ _ b hlb h (hob b hb') hb)⟩)
       exact⟨_,μ,H,rfl,.s l (Az9 hlim),this.1,this.2,fun _ _ h=>h⟩
      .cases he2
     .cases he
    .cases he
   .cases he
  .cases he
end
section
variable{P:Program}{O:World}{f:FuncId}{args args':List V}{σ:Au}{n:Nat}{v:V}
def Qo:V->Bool
 | .b _|.i _ _|.s _|.ni|.np|.nf|.nm=>true
 | _=>false
def PL:V->Bool
 | .tup vs=>vs.all Qo
 | v=>Qo v
theorem Mi{μ e H g v val}(h:Qo v=true)(i:Aq μ H v val):Aq e g v val:=by
 cases i<;>first|(cases h;done)|constructor
 assumption
theorem UE{μ i H p v val}(h:PL v=true)(o:Aq μ H v val):Aq i p v val:=by
 cases v with
 | tup vs=>obtain⟨g,rfl,e⟩:=o.tup_inv;exact .tup vs g e.len λk c x j q=>Mi (As7.1 h c (Au8 j)) (e.at_ k c x j q)
 | _=>exact Mi h o
theorem OZ{S v}(h:Qo v=true):Bc S v:=by cases v<;>first|(cases h;done)|constructor
theorem Y7{S v}(h:PL v=true):Bc S v:=by
 cases v with
 | tup vs=>exact .tup _ λc e=>OZ (As7.1 h c e)
 | _=>exact OZ h
theorem UQ{w μ H}(hp:Hp O σ n μ H w){φ}(E:∀id es,φ id=some es->∃e sz,lk σ id=some (.arr e sz es)) :
  ∀id es,φ id=some es->∀val,μ id=some val->(∃A i,val=.slice A es.length i/\es.length<=i/\es.length<=AM/\
   (es=[]\/∃(F:Addr) (sz:Nat) (h:List Value),A=some F/\(∀e∈es,(cells e).length=sz)/\AO μ H (AK es) h/\∀(k) (v),h[k]?=some v->Bb φ μ H w (F.add k)=some v)):=by
 intro id es q val B;obtain⟨e,sz,G⟩:=E id es q;obtain⟨h,_,j,r,C,s⟩:=Dx hp G B;rcases AzZ es.length with y|y
 .have:es=[]:=Aw6 y;subst this;rcases j.2 with⟨rfl,_⟩|⟨g,i,u,rfl,_⟩
  .grind
  grind
 .obtain⟨g,i,u,rfl,hB,R,L,p,J,D⟩:=Gs j y;refine⟨_,i,rfl,p,r,.inr ⟨⟨g,0,none⟩,sz,h,rfl,C,s,λk v N=>?_⟩⟩;have z:=j.cells (g:=g) rfl k v N;have o:H ((⟨g,0,none⟩:Addr).add k)=none:=hp.unp g ⟨id,_,G,by simp[B,Cc]⟩ _ (by rw[Co]);have M:∃id es,φ id=some es/\Cc (μ id)=some ((⟨g,0,none⟩:Addr).add k).block:=⟨id,es,q,by rw[Co,B];rfl⟩;simp only[Bb,o];simp_all
theorem Gn.of_plain{φ:Id->Option (List V)}(h:An P O f args' [] v [])(R:PL v=true)(T:Cv (Lt n) σ)(J:∀id es,φ id=some es->∃e sz,lk σ id=some (.arr e sz es))(z:args.length=args'.length)
  (E:∀(k:Nat) (c B:V),args[k]?=some c->args'[k]?=some B->LL φ c B):Gn P O f args σ n v σ n where
 callable:=h.callable
 le:=AfJ _
 vin:=Y7 R
 sin:=T
 run:=by
  intro w μ H s hp i;have o:∀q x,H q=some x->Bb φ μ H w q=some x:=by intro q x g;simp only[Bb,g]
  have F:Hp O [] n μ (Bb φ μ H w) w:=
   {base:=hp.base
    pins:=by
     intro q x g;simp only[Bb] at g;split at g
     .rename_i y U;rw[<-g];exact hp.pins q y U
     .split at g
      .exact g
      .cases g
    ents:=λ_ _ h=>by cases h
    unp:=λ_ ⟨_,_,h,_⟩=>by cases h
    sep:=λ_ _ _ _ _ h=>by cases h
    bd:=hp.bd }
  have r:VRels μ (Bb φ μ H w) args' s:=by
   refine⟨by rw[<-z];exact i.len,λk B x L g=>?_⟩;have M:k<args.length:=by rw[z];exact(Ath.1 L).1
   exact Aq.le o (UQ hp J) (E k _ B (Aqa M) L) (i.at_ k _ x (Aqa M) g)
  refine Ayu (h.run n w μ _ s F r) ?_;rintro e w' ⟨val,W,Y,n',rfl,G,A,N,D,C⟩;have j:∀p,p<w.heap.size->w'.heap[p]?=w.heap[p]?:=λp u=>D.keep p u (λ⟨_,_,h,_⟩=>by cases h);exact⟨val,μ,H,rfl,UE R G,⟨A.base,λq x g=>A.pins q x (D.hp q x (o q x g)),λid e z=>(hp.ents id e z).keep (λ_ _ h=>h) (λ_ _ h=>h) (λp u=>j p ((hp.ents id e z).block u).2),hp.unp,hp.sep,hp.bd⟩,
   ⟨λ_ _ h=>h,λ_ _ h=>h,D.size,λp u _=>j p u,λ_ _ _=>rfl,λp _ S=>S⟩,λ_ _ h=>h⟩
noncomputable def onP(e:FuncId)(g:List V->Option V):Bx:=λf args σ n=>bif Nat.beq f e then(match Md (frz σ (λ_=>true) 60) args with
 | some args'=>(match g args' with
  | some v=>Ph true v λv=>some (v,σ,n)
  | none=>none)
 | none=>none) else none
theorem eQ{o:FuncId}{g:List V->Option V}(h:∀args v,g args=some v->An P O o args [] v []/\PL v=true):AX P O (onP o g):=by
 intro f args σ n v σ' n' i E D;unfold onP at i;cases p:Nat.beq f o with
 | false=>rw[p] at i;cases i
 | true=>
  rw[p] at i;obtain rfl:=Ax1 p;simp only[AzB] at i;split at i
  .rename_i args' C;split at i
   .rename_i v1 A;rw[HQ] at i;cases i;obtain⟨s,u⟩:=h _ _ A;obtain⟨w,y⟩:=Eo C;refine Gn.of_plain (φ:=NS σ λ_=>true) s u D (λid es j=>?_) w λk c r z q=>G8 (y k c r z q);unfold NS at j;rw[Aiv rfl] at j;split at j
    .rename_i e sz es' B;cases j;exact⟨e,sz,B⟩
    .cases j
   .cases i
  .cases i
end
end Go.Ir
end
namespace Go.Ir
open Go.Proofs Go.RowKit
noncomputable abbrev π:=Tryz.prog
theorem VV:∃j,π.info? 81=some j/\j.size=2:=Amd.1 (show(π.info? 81).map (·.size)=some 2 by kernel_rfl)
theorem O4(b g:Nat)(w:World)(i:w.cell? ⟨b,g,none⟩=some (.pointer (some ⟨b,g,none⟩))) :
  Calls Tryz.prog 53 #[.pointer (some ⟨b,g,none⟩)] w λe w'=>e=.returned (.tuple #[])/\w'=w:=by
 obtain⟨j,h,_⟩:=VV
 go_enter Tryz.func53,Tryz.ntmps53
 go_wp2
 rw[Lib.run_neq_ptr_same w _ Tryz.underlying78 h]
 go_wp2
 go_end0
 exact⟨rfl,rfl⟩
theorem MN(T k g:Nat)(h:liesAt Tryz.prog Tryz.prog.depth T (k / Tryz.prog.cellsOf T) g 81 1=true)(b:Nat)(w:World)(s:w.cell? ⟨b,g,none⟩=some (.pointer none))(o:w.shape? b=some (T,k))(r:w.frozen? ⟨b,g,none⟩=false)(i:g<k) :
  Calls Tryz.prog 53 #[.pointer (some ⟨b,g,none⟩)] w λe w'=>e=.returned (.tuple #[])/\w'=w.setCell ⟨b,g,none⟩ (.pointer (some ⟨b,g,none⟩)):=by
 obtain⟨j,q,p⟩:=VV
 go_enter Tryz.func53,Tryz.ntmps53
 go_wp2
 rw[Lib.run_to_unsafe w ⟨b,g,none⟩ Tryz.underlying78 Tryz.underlying145 q (by rw[p];decide) o i];simp only[Result.andThen];rw[A0d]
 go_wp2
 rw[run_callFunc_extern Tryz.func75 (by kernel_rfl) (by kernel_rfl) (by kernel_rfl) (e:=Extern.AbiNoEscape.same) (by kernel_rfl),Lib.run_noEscape];simp only[Result.andThen];rw[A0d]
 go_wp2
 rw[Lib.run_from_unsafe w ⟨b,g,none⟩ Tryz.underlying145 Tryz.underlying78 q o h];simp only[Result.andThen];rw[A0d]
 go_wp2
 go_end0
 exact⟨rfl,rfl⟩
theorem Gz(w:World) e:w.grownBy w.drew e:=⟨rfl,rfl,rfl,AfJ _,λ_ _ _=>rfl⟩
theorem Pr(w:World) g n:w.grownBy (w.freeze ⟨g,0,none⟩ n) (some g):=by
 unfold World.freeze;split
 .exact⟨rfl,rfl,rfl,AfJ _,λ_ _ _=>rfl⟩
 .exact⟨rfl,rfl,rfl,by simp,λk h e=>by grind
⟩
theorem Ls{a b c:World}{e}(h:a.grownBy b e)(k:b.grownBy c e):a.grownBy c e:=
 ⟨k.os.trans h.os,k.tape.trans h.tape,k.output.trans h.output,AvD h.size k.size,λi g j=>(k.block i (Awa g h.size) j).trans (h.block i g j)⟩
theorem Rc(w:World) o e:w.grownBy (w.alloc o) e:=⟨rfl,rfl,rfl,by simp,λk g _=>heap_alloc_old w o g⟩
theorem mL(b p g h:Nat)(l:List UInt8)(i:Array Value)(w:World)(s:l≠[])(y:w.cell? ⟨b,p+1,none⟩=some (.slice (some ⟨g,0,none⟩) l.length h))(C:w.heap[g]?=some (.cells i 5 (0,0)))(u:l.length<=h)(q:h<=maxLen)(B:i.size=h)
  (o:∀j x,l[j]?=some x->w.cell? ((⟨g,0,none⟩:Addr).add j)=some (.int .u8 x.toNat)) :
  Calls Tryz.prog 33 #[.pointer (some ⟨b,p,none⟩)] w λe w'=>e=.returned (.string ⟨l.toArray⟩)/\w.grownBy w' (some g):=by
 have D:l.length≠0:=by simpa using s
 have F:w.drew.cell? ⟨b,p+1,none⟩=some (.slice (some ⟨g,0,none⟩) l.length h):=y;have z:(Builtin.unsafeSliceData_ #[79] 106 #[.slice (some ⟨g,0,none⟩) l.length h]).run Tryz.prog w.drew=.ok (.pointer (some ⟨g,0,none⟩)) w.drew:=
  Lib.run_unsafeSliceData_row _ _ _ _ _ _ (by omega)
 have A:(Builtin.unsafeString_ #[106,3] 9 #[.pointer (some ⟨g,0,none⟩),.int .i64 l.length]).run Tryz.prog w.drew=.ok (.string ⟨l.toArray⟩) (w.drew.freeze ⟨g,0,none⟩ l.length):=by refine Lib.run_unsafeString_row w.drew 106 3 9 5 Tryz.underlying106 (by kernel_rfl) g i.size (by have r:w.drew.heap[g]?=some (.cells i 5 (0,0)):=C;simp[World.shape?,r]) l s (by omega) (by unfold maxLen at q;omega) ?_;intro j x E;exact o j x E
 go_enter Tryz.func33,Tryz.ntmps33
 go_wp2
 go_region
 all_goals (go_wp2;go_ret;exact⟨rfl,Ls (Gz w _) (Pr _ _ _)⟩)
theorem zA(b g:Nat)(w:World)(h:w.cell? ⟨b,g+1,none⟩=some (.slice none 0 0)) :
  Calls Tryz.prog 33 #[.pointer (some ⟨b,g,none⟩)] w λe w'=>e=.returned (.string ⟨#[]⟩)/\w.grownBy w' none:=by
 have j:∀(W:World) (q:Option Addr),(Builtin.unsafeString_ #[106,3] 9 #[.pointer q,.int .i64 0]).run Tryz.prog W=.ok (.string .empty) W:=λW q=>Lib.run_unsafeString_none W _ _ _ q;have o:w.drew.cell? ⟨b,g+1,none⟩=some (.slice none 0 0):=h;have i:(Builtin.unsafeSliceData_ #[79] 106 #[.slice none 0 0]).run Tryz.prog w.drew=.ok (.pointer none) w.drew:=rfl
 go_enter Tryz.func33,Tryz.ntmps33
 go_wp2
 go_region
 all_goals (go_wp2;go_ret;exact⟨rfl,Gz w _⟩)
theorem Si(b h g:Nat)(i:Array Value)(w:World)(p:w.cell? ⟨b,h+1,none⟩=some (.slice (some ⟨g,0,none⟩) 0 0))(y:w.heap[g]?=some (.cells i 5 (0,0))) :
  Calls Tryz.prog 33 #[.pointer (some ⟨b,h,none⟩)] w λe w'=>e=.returned (.string ⟨#[]⟩)/\w.grownBy w' (some g):=by
 have u:∀(W:World) (q:Option Addr),(Builtin.unsafeString_ #[106,3] 9 #[.pointer q,.int .i64 0]).run Tryz.prog W=.ok (.string .empty) W:=λW q=>Lib.run_unsafeString_none W _ _ _ q;have r:w.drew.cell? ⟨b,h+1,none⟩=some (.slice (some ⟨g,0,none⟩) 0 0):=p;have s:(Builtin.unsafeSliceData_ #[79] 106 #[.slice (some ⟨g,0,none⟩) 0 0]).run Tryz.prog w.drew=.ok (.pointer (some ⟨w.drew.heap.size,0,none⟩)) (w.drew.alloc (.view ⟨g,0,none⟩ 5)):=
  Lib.run_unsafeSliceData_zero w.drew _ _ 5 Tryz.underlying106 ⟨g,0,none⟩ 0 (5,i.size) (by have j:w.drew.heap[g]?=some (.cells i 5 (0,0)):=y;simp[World.shape?,j])
 have o:b<w.heap.size:=A0x w _ p;have c3:(w.drew.alloc (.view ⟨g,0,none⟩ 5)).cell? ⟨b,h+1,none⟩=some (.slice (some ⟨g,0,none⟩) 0 0):=by rw[World.cell?_of_block (w:=w.drew) (heap_alloc_old w.drew _ o)];exact r
 have z:(w.alloc (.view ⟨g,0,none⟩ 5)).drew.cell? ⟨b,h+1,none⟩=some (.slice (some ⟨g,0,none⟩) 0 0):=c3
 go_enter Tryz.func33,Tryz.ntmps33
 go_wp2
 go_region
 all_goals (go_wp2;go_ret;exact⟨rfl,Ls (Gz w _) (Rc _ _ _)⟩)
theorem ZF(b i g h:Nat)(w:World)(j:h≠0)(o:w.cell? ⟨b,i+1,none⟩=some (.slice (some ⟨g,0,none⟩) 0 h)) :
  Calls Tryz.prog 33 #[.pointer (some ⟨b,i,none⟩)] w λe w'=>e=.returned (.string ⟨#[]⟩)/\w.grownBy w' (some g):=by
 have r:∀(W:World) (q:Option Addr),(Builtin.unsafeString_ #[106,3] 9 #[.pointer q,.int .i64 0]).run Tryz.prog W=.ok (.string .empty) W:=λW q=>Lib.run_unsafeString_none W _ _ _ q;have s:w.drew.cell? ⟨b,i+1,none⟩=some (.slice (some ⟨g,0,none⟩) 0 h):=o;have p:(Builtin.unsafeSliceData_ #[79] 106 #[.slice (some ⟨g,0,none⟩) 0 h]).run Tryz.prog w.drew=.ok (.pointer (some ⟨g,0,none⟩)) w.drew:=
  Lib.run_unsafeSliceData_row _ _ _ _ _ _ j
 clear j
 go_enter Tryz.func33,Tryz.ntmps33
 go_wp2
 go_region
 all_goals (go_wp2;go_ret;exact⟨rfl,Gz w _⟩)
theorem Lb b off l v B w (c1:w.cell? ⟨b,Nat.succ off,none⟩=some v)(hown:w.ownsRow B 5 1 v l.length (Lib.byteCells l)) :
  Calls Tryz.prog 33 #[.pointer (some ⟨b,off,none⟩)] w fun e w'=>e=.returned (.string ⟨l.toArray⟩)/\w.grownBy w' v.ownBlock:=by
 have hown':=hown
 rcases hown.2 with⟨rfl,h0⟩|⟨g,cap,cur,rfl,hbg,hg,hnc,hcm,hcs,htake⟩
 .have:l=[]:=Aw6 h0
  subst this
  exact zA b off w c1
 .by_cases h0:l=[]
  .subst h0
   by_cases hc0:cap=0
   .subst hc0;exact Si b off g cur w c1 hg
   .exact ZF b off g cap w hc0 c1
  .refine mL b off g cap l cur w h0 c1 hg hnc hcm (by simpa using hcs) fun j x hx=>?_
   exact hown.cells (g:=g) rfl j (.int .u8 x.toNat) (by simp[Lib.byteCells,hx])
theorem Zm(O:World)(e:List (TypeId×Nat×Nat))(h:∀p∈e,liesAt Tryz.prog Tryz.prog.depth p.1 (p.2.1 / Tryz.prog.cellsOf p.1) p.2.2 81 1=true):AX Tryz.prog O (z8 53 e):=by
 have r:callable Tryz.prog 53=true:=by kernel_rfl
 refine Aac r O4 ?_;intro T k i s b w q o j g;exact MN T k i (h (T,k,i) s) b w q o j g
theorem Zj(O:World):AX Tryz.prog O (AaW 33 5):=by
 have e:callable Tryz.prog 33=true:=by kernel_rfl
 exact Abd e Lb
end Go.Ir

namespace Go.Ir
def Cy(P:Program)(f:FuncId)(F:ET):Bool:=Ar P f F.nt F.ic F.rs&&F.ic.cl
def B9(m:Nat)(a b:FuncId->Option ET):FuncId->Option ET:=λf=>bif Nat.blt f m then a f else b f
def B7(d:FuncId)(F:ET):FuncId->Option ET:=λf=>bif Nat.beq f d then some F else none
theorem Ix.node{P m a b}(g:Ix P a)(i:Ix P b):Ix P (B9 m a b):=by
 intro f F h;unfold B9 at h;cases e:Nat.blt f m with
 | true=>rw[e] at h;exact g f F h
 | false=>rw[e] at h;exact i f F h
theorem Ix.leaf{P d F}(g:Cy P d F=true):Ix P (B7 d F):=by
 intro f G h;unfold B7 at h;cases e:Nat.beq f d with
 | true=>rw[e] at h;cases h;obtain rfl:=Ax1 e;unfold Cy at g;simpa using g
 | false=>rw[e] at h;cases h
def Arh(o:Option (V×Au×Nat)):Option V:=match o with
 | some r=>some r.1
 | none=>none
theorem Ri{P:Program}{O:World}{T:FuncId->Option ET}{B:Bx}{K k:Nat}(g:Ix P T)(hB:AX P O B){f:FuncId}{args:List V}{v:V}(h:Arh (Qu T B K k f args [] 0)=some v)(i:K5 0 args=true)(j:PZ 0 v=true):An P O f args [] v []:=by
 cases e:Qu T B K k f args [] 0 with
 | none=>rw[e] at h;cases h
 | some r=>rw[e] at h;cases h;obtain⟨v,σ,n⟩:=r;exact T8 g hB e i j
end Go.Ir
section
namespace Go.Ir
open Go.RowKit
def jP(e:BinOp)(b:Int):Prop:=
 match e with
 | .add|.sub|.mul|.eql|.neq|.lss|.leq|.gtr|.geq=>True
 | .quo|.rem=>b≠0
 | _=>False
def dA(e:BinOp)(k:IntKind)(a b:Int):V:=
 match e with
 | .add=>.i k (k.wrap (a+b))
 | .sub=>.i k (k.wrap (a-b))
 | .mul=>.i k (k.wrap (a*b))
 | .quo=>.i k (k.wrap (a.tdiv b))
 | .rem=>.i k (a.tmod b)
 | .eql=>.b (a==b)
 | .neq=>.b (a !=b)
 | .lss=>.b (decide (a<b))
 | .leq=>.b (decide (a<=b))
 | .gtr=>.b (decide (a>b))
 | .geq=>.b (decide (a>=b))
 | _=>.any
def tC(e:BinOp)(a b:List UInt8):Prop:=
 match e with
 | .add=>a.length+b.length<=Am
 | .eql|.neq|.lss|.leq|.gtr|.geq=>True
 | _=>False
def jS(e:BinOp)(a b:List UInt8):V:=
 match e with
 | .add=>.s (a++b)
 | .eql=>.b (a==b)
 | .neq=>.b (!(a==b))
 | .lss=>.b (Op.bytesLess a b)
 | .leq=>.b (Op.bytesLess a b||a==b)
 | .gtr=>.b (!(Op.bytesLess a b||a==b))
 | .geq=>.b (!Op.bytesLess a b)
 | _=>.any
def NL(e:BinOp):V->V->Prop
 | .i k _,.i k' b=>k=k'/\jP e b
 | .s a,.s b=>tC e a b
 | _,_=>False
def T3(e:BinOp):V->V->V
 | .i k a,.i _ b=>dA e k a b
 | .s a,.s b=>jS e a b
 | _,_=>.any
theorem xC{e k a b v}:SR e k a b v↔jP e b/\v=dA e k a b:=by cases e<;>simp[SR,jP,dA]
theorem fQ{e a b v}:Th e a b v↔tC e a b/\v=jS e a b:=by cases e<;>simp[Th,tC,jS]
theorem qM{e x y v}:Q6 e x y v↔NL e x y/\v=T3 e x y:=by
 unfold Q6;split
 .simp only[NL,T3,xC,and_assoc]
 .simp only[NL,T3,fQ]
 .rename_i g h;have:¬NL e x y:=by unfold NL;grind
  simp[this]
def T7:V->Prop|.b _=>True|_=>False
def NC:V->Bool|.b t=>t|_=>false
theorem Ww{v}{Q:Bool->Prop}:(∃t,v=.b t/\Q t)↔T7 v/\Q (NC v):=by cases v<;>simp[T7,NC]
def isI:V->Prop|.i _ _=>True|_=>False
def toI:V->Int|.i _ n=>n|_=>0
def kiI:V->IntKind|.i k _=>k|_=>.i64
def isS:V->Prop|.s _=>True|_=>False
def toS:V->List UInt8|.s l=>l|_=>[]
def TF:V->Prop|.ref _ _|.aref _ _ _ _|.ep _ _=>True|_=>False
def ID:V->Nat->V
 | .ref id o,n=>.ref id (o+n)
 | .aref id g sz o,n=>.aref id g sz (o+n)
 | .ep e o,n=>.ep e (o+n)
 | v,_=>v
def EN(σ:Au)(sz:Nat):V->V->Option V
 | .sl es,.i _ n=>if 0<=n then(es[n.toNat]?).bind λg=>if(cells g).length=sz then some (.ep g 0) else none else none
 | .arr id,.i _ n=>if 0<=n then(match lk σ id with|some (.arr _ e es)=>if e=sz/\n.toNat<es.length then some (.aref id n.toNat sz 0) else none|_=>none) else none
 | _,_=>none
def FW(σ:Au)(n:Nat)(g:Bool):V->Option V
 | .ref id e=>match lk σ id with|some (.box u)=>sub u e n g|some (.tbox _ u)=>sub u e n g|_=>none
 | .aref id j sz e=>match lk σ id with|some (.arr _ h es)=>if h=sz then(es[j]?).bind λi=>sub i e n g else none|_=>none
 | .ep u e=>sub u e n g
 | _=>none
def FK(σ:Au)(n:Nat)(x:V):V->Option Au
 | .ref id g=>match lk σ id with|some (.box u)=>(DJ u g n x).map λj=>upd σ id (.box j)|some (.tbox t u)=>(DJ u g n x).map λj=>upd σ id (.tbox t j)|_=>none
 | .aref id o sz g=>match lk σ id with|some (.arr e i es)=>if i=sz then(es[o]?).bind λp=>(DJ p g n x).map λh=>upd σ id (.arr e sz (es.set o h)) else none|_=>none
 | _=>none
def Pg:V->V->Option V
 | .s l,.i _ n=>if 0<=n then(l[n.toNat]?).map λc=>.i .u8 c.toNat else none
 | _,_=>none
section
variable{P:Program}{O:World}{ep:Nat}{l:List I}{env:Bm}{σ:Au}{K:Bm→Au→Prop}
theorem CE{d e}:Aw P O ep (⟨d,e,none,[]⟩::l) env σ K↔∃v σ',E P O ep d e (get env) σ v σ'/\Aw P O ep l (put env d v) σ' K:=by simp[Aw,C9,EA,cF,K0]
theorem Av7{d e x ap}(p:e.cl=false):Aw P O ep (⟨d,e,none,x::ap⟩::l) env σ K↔cF ⟨d,e,none,x::ap⟩ (get env)/\Aw P O ep (⟨d,e,none,[]⟩::l) env σ K:=by
 simp only[Aw,C9,EA];constructor
 .rintro⟨v,σ',⟨g,i,_⟩,j⟩;exact⟨i,v,σ',⟨g,λx o=>(by cases o),λ_ x o=>(by cases o)⟩,j⟩
 .rintro⟨i,v,σ',⟨g,_⟩,j⟩;exact⟨v,σ',⟨g,i,λh=>by rw[p] at h;cases h⟩,j⟩
def IP(e:Bool)(v:V)(x y:Prop):Prop:=
 match v with
 | .b t=>(t=e->x)/\(t≠e->y)
 | .tup []=>y
 | _=>False
theorem IF{d e C val τ}(h:∀v σ',E P O ep d e (get env) σ v σ'↔C/\v=val/\σ'=τ) :
  Aw P O ep (⟨d,e,none,[]⟩::l) env σ K↔C/\Aw P O ep l (put env d val) τ K:=by
 rw[CE];grind
theorem Li{d e C o}(h:∀v σ',E P O ep d e (get env) σ v σ'↔C/\o=some v/\σ'=σ) :
  Aw P O ep (⟨d,e,none,[]⟩::l) env σ K↔C/\o.isSome=true/\Aw P O ep l (put env d (o.getD .any)) σ K:=by
 rw[CE];constructor
 .grind
 .rintro⟨j,g,i⟩;cases o with
  | none=>cases g
  | some v=>grind
variable{d:Nat}
theorem AvA{x}:Aw P O ep (⟨some d,.mv x,none,[]⟩::l) env σ K↔Aw P O ep l ((d,ev (get env) x)::env) σ K:=
 (IF (C:=True) (val:=ev (get env) x) (τ:=σ) λv σ'=>by simp[E]).trans (by simp[put])
theorem Ah5{c a b}:Aw P O ep (⟨some d,.pick c a b,none,[]⟩::l) env σ K↔T7 (ev (get env) c)/\Aw P O ep l ((d,bif NC (ev (get env) c) then ev (get env) a else ev (get env) b)::env) σ K:=
 IF λv σ'=>by simp only[E];exact Ww
theorem Ao4{e x y}:Aw P O ep (⟨some d,.bin e x y,none,[]⟩::l) env σ K↔NL e (ev (get env) x) (ev (get env) y)/\Aw P O ep l ((d,T3 e (ev (get env) x) (ev (get env) y))::env) σ K:=
 IF λv σ'=>by simp only[E,qM,and_assoc]
theorem AnV{e x y}:Aw P O ep (⟨some d,.eqb e x y,none,[]⟩::l) env σ K↔(T7 (ev (get env) x)/\T7 (ev (get env) y))/\Aw P O ep l ((d,.b (if e then !(NC (ev (get env) x)==NC (ev (get env) y)) else NC (ev (get env) x)==NC (ev (get env) y)))::env) σ K:=
 IF λv σ'=>by simp only[E];cases ev (get env) x<;>cases ev (get env) y<;>simp[T7,NC]
theorem Anr{x}:Aw P O ep (⟨some d,.not x,none,[]⟩::l) env σ K↔T7 (ev (get env) x)/\Aw P O ep l ((d,.b (!(NC (ev (get env) x))))::env) σ K:=
 IF λv σ'=>by simp only[E];exact Ww
theorem Ar8{k x}:Aw P O ep (⟨some d,.cvi k x,none,[]⟩::l) env σ K↔isI (ev (get env) x)/\Aw P O ep l ((d,.i k (k.wrap (toI (ev (get env) x))))::env) σ K:=
 IF λv σ'=>by
  simp only[E];cases ev (get env) x<;>(try (simp[isI,toI];done))
  rename_i k' n;simp only[isI,toI,Azz];grind
theorem Adi{x e}:Aw P O ep (⟨some d,.faddr x e,none,[]⟩::l) env σ K↔TF (ev (get env) x)/\Aw P O ep l ((d,ID (ev (get env) x) e)::env) σ K:=
 IF λv σ'=>by simp only[E];cases ev (get env) x<;>simp[TF,ID]
theorem AcF{x i e sz}:Aw P O ep (⟨some d,.iaddr x i e sz,none,[]⟩::l) env σ K↔True/\(EN σ sz (ev (get env) x) (ev (get env) i)).isSome=true/\Aw P O ep l ((d,(EN σ sz (ev (get env) x) (ev (get env) i)).getD .any)::env) σ K:=
 Li λv σ'=>by
  simp only[E,Azz];cases y:ev (get env) i<;>(try (cases ev (get env) x<;>simp[EN];done))
  rename_i k n;cases z:ev (get env) x<;>(try (simp[EN];done))
  .rename_i es;simp only[EN];by_cases g:0<=n
   .cases p:es[n.toNat]? with
    | none=>simp[g,p]
    | some w=>
     by_cases o:(cells w).length=sz
     .simp[g,p,o,eq_comm]
     .simp[g,p,o]
   .simp[g]
  .rename_i id;simp only[EN];by_cases g:0<=n
   .cases h:lk σ id with
    | none=>simp[g,h]
    | some en=>
     cases en with
     | box u=>simp[g,h]
     | tbox _ _=>simp[g,h]
     | map _=>simp[g,h]
     | it _ _=>simp[g,h]
     | mit _ _ _ _=>simp[g,h]
     | arr e' q es=>
      by_cases o:q=sz
      .subst o;by_cases j:n.toNat<es.length
       .simp only[g,h,j,Azz,and_self,Agp,Arp];constructor
        .rintro⟨⟨a,b,r,s,rfl⟩,rfl⟩;exact⟨rfl,rfl⟩
        .rintro⟨rfl,rfl⟩;exact⟨⟨e',es,rfl,j,rfl⟩,rfl⟩
       .simp only[g,h,j,Azz,and_false,Agp,AfT,Arp,reduceCtorEq,false_and,iff_false];rintro⟨⟨a,b,r,s,rfl⟩,rfl⟩;cases r;exact j s
      .simp[g,h,o]
   .simp[g]
theorem Apc{x i}:Aw P O ep (⟨some d,.idx x i,none,[]⟩::l) env σ K↔True/\(Pg (ev (get env) x) (ev (get env) i)).isSome=true/\Aw P O ep l ((d,(Pg (ev (get env) x) (ev (get env) i)).getD .any)::env) σ K:=
 Li λv σ'=>by
  simp only[E,Azz];cases e:ev (get env) i<;>(try (cases ev (get env) x<;>simp[Pg];done))
  rename_i k n;cases g:ev (get env) x<;>(try (simp[Pg];done))
  rename_i l;simp only[Pg];grind
theorem AhL{x n h}:Aw P O ep (⟨some d,.load x n h,none,[]⟩::l) env σ K↔True/\(FW σ n h (ev (get env) x)).isSome=true/\Aw P O ep l ((d,(FW σ n h (ev (get env) x)).getD .any)::env) σ K:=
 Li λv σ'=>by
  simp only[E,Azz];cases z:ev (get env) x<;>(try (simp[FW];done))
  .rename_i id j;simp only[FW];cases w:lk σ id with
   | none=>simp
   | some en=>cases en<;>simp[ldB]
  .rename_i id y sz j;simp only[FW];cases w:lk σ id with
   | none=>simp
   | some en=>
    cases en with
    | box u=>simp
    | tbox _ _=>simp
    | map _=>simp
    | it _ _=>simp
    | mit _ _ _ _=>simp
    | arr e o es=>
     by_cases q:o=sz
     .subst q;simp only[Agp];constructor
      .rintro⟨⟨e',es',p,g,r,s⟩,rfl⟩;cases g;rw[r];exact⟨s,rfl⟩
      .rintro⟨g,rfl⟩;cases i:es[y]? with
       | none=>rw[i] at g;cases g
       | some p=>rw[i] at g;exact⟨⟨e,es,p,rfl,i,g⟩,rfl⟩
     .simp[q]
end
end Go.Ir
end
section
namespace Go.Ir
open Go.RowKit
def HA(sz:Nat):List V->Prop
 | []=>True
 | x::xs=>(x.ok=true/\(cells x).length=sz)/\HA sz xs
theorem Kx{sz}:∀{xs},(∀x∈xs,x.ok=true/\(cells x).length=sz)↔HA sz xs
 | []=>by simp[HA]
 | x::xs=>by simp[HA,Kx (xs:=xs)]
def Zo(g:Nat->V):List (Nat×Nat×X)->Prop
 | []=>True
 | p::ps=>(ev g p.2.2).ok=true/\Zo g ps
theorem Td{g}:∀{ps},(∀p∈ps,(ev g p.2.2).ok=true)↔Zo g ps
 | []=>by simp[Zo]
 | p::ps=>by have:=Td (g:=g) (ps:=ps);simp only[Zo,Auy,forall_eq_or_imp,this]
def KR(g:Nat->V)(h e:Option X):V->Option V
 | .s l=>(FR g 0 h).bind λa=>(FR g l.length e).bind λb=>if a<=b/\b<=l.length then some (.s ((l.take b).drop a)) else none
 | _=>none
def H5(g:Nat->V)(h e:Option X)(es:List V):Option V:=
 (FR g 0 h).bind λa=>(FR g es.length e).bind λb=>if a<=b/\b<=es.length then some (.sl ((es.take b).drop a)) else none
def isL(sz:Nat):V->Prop
 | .sl es=>∀y∈es,(cells y).length=sz
 | .nil=>True
 | _=>False
def toL:V->List V
 | .sl es=>es
 | _=>[]
def Nl(σ:Au)(id:Id)(e sz:Nat)(xs:List V):V->Option Au
 | .nil=>if xs.length<=AM then some ((id,.arr e sz xs)::σ) else none
 | .arr g=>match lk σ g with
  | some (.arr e' h es)=>if e'=e/\h=sz/\es.length+xs.length<=AM then some ((id,.arr e sz (es++xs))::del σ g) else none
  | _=>none
 | _=>none
def Vn(k:Nat):V->Option V
 | .tup vs=>vs[k]?
 | _=>none
def isN:V->Prop
 | .ref _ _|.aref _ _ _ _|.ep _ _|.fn _ _ _=>True
 | _=>False
section
variable{P:Program}{O:World}{ep:Nat}{l:List I}{env:Bm}{σ:Au}{K:Bm→Au→Prop}
theorem AdC{d e C val o}(h:∀v σ',E P O ep d e (get env) σ v σ'↔C/\v=val/\o=some σ') :
  Aw P O ep (⟨d,e,none,[]⟩::l) env σ K↔C/\o.isSome=true/\Aw P O ep l (put env d val) (o.getD []) K:=by
 rw[CE];constructor
 .grind
 .rintro⟨j,g,i⟩;cases o with
  | none=>cases g
  | some τ=>grind
theorem AcH{a x n}:Aw P O ep (⟨none,.store a x n,none,[]⟩::l) env σ K↔(ev (get env) x).ok=true/\(FK σ n (ev (get env) x) (ev (get env) a)).isSome=true/\Aw P O ep l env ((FK σ n (ev (get env) x) (ev (get env) a)).getD []) K:=
 AdC λv σ'=>by
  simp only[E];refine and_congr_right λ_=>and_congr_right λ_=>?_;cases ev (get env) a<;>(try (simp[FK];done))
  .rename_i id i;simp only[FK];cases z:lk σ id with
   | none=>simp
   | some en=>
    cases en with
    | arr e sz es=>simp[ZC]
    | map _=>simp[ZC]
    | it _ _=>simp[ZC]
    | mit _ _ _ _=>simp[ZC]
    | box u=>
     constructor
     .rintro⟨en,p,j,h,rfl⟩;cases j;simp only[ZC] at h;cases g:DJ u i n (ev (get env) x) with
      | none=>rw[g] at h;cases h
      | some w=>rw[g] at h;cases h;simp only[g,Ayx]
     .intro h;cases g:DJ u i n (ev (get env) x) with
      | none=>simp only[g] at h;cases h
      | some w=>simp only[g] at h;cases h;exact⟨_,_,rfl,by simp only[ZC,g];rfl,rfl⟩
    | tbox t u=>
     constructor
     .rintro⟨en,p,j,h,rfl⟩;cases j;simp only[ZC] at h;cases g:DJ u i n (ev (get env) x) with
      | none=>rw[g] at h;cases h
      | some w=>rw[g] at h;cases h;simp only[g,Ayx]
     .intro h;cases g:DJ u i n (ev (get env) x) with
      | none=>simp only[g] at h;cases h
      | some w=>simp only[g] at h;cases h;exact⟨_,_,rfl,by simp only[ZC,g];rfl,rfl⟩
  .rename_i id A sz i;simp only[FK];cases z:lk σ id with
   | none=>simp
   | some en=>
    cases en with
    | box u=>simp
    | tbox _ _=>simp
    | map _=>simp
    | it _ _=>simp
    | mit _ _ _ _=>simp
    | arr e B es=>
     simp only[Arp,Be.arr.injEq];constructor
     .rintro⟨e',es',o,s,⟨rfl,rfl,rfl⟩,j,y,rfl⟩;simp[j,y]
     .intro h;split at h
      .rename_i r;subst r;cases q:es[A]? with
       | none=>rw[q] at h;cases h
       | some o=>
        rw[q] at h;simp only[AzD] at h;cases g:DJ o i n (ev (get env) x) with
        | none=>rw[g] at h;cases h
        | some w=>rw[g] at h;cases h;exact⟨e,es,o,w,⟨rfl,rfl,rfl⟩,q,g,rfl⟩
      .cases h
variable{d:Nat}
theorem ApO{x}:Aw P O ep (⟨some d,.box x,none,[]⟩::l) env σ K↔(ev (get env) x).ok=true/\Aw P O ep l ((d,.ref (ep,d) 0)::env) (((ep,d),.box (ev (get env) x))::σ) K:=
 IF λv σ'=>by simp only[E,Arp];grind
theorem Aa5{z}:Aw P O ep (⟨some d,.alloc z,none,[]⟩::l) env σ K↔True/\Aw P O ep l ((d,.ref (ep,d) 0)::env) (((ep,d),.box z)::σ) K:=
 IF λv σ'=>by simp only[E,Arp,Azz];grind
theorem Aaq{z ps}:Aw P O ep (⟨some d,.build z ps,none,[]⟩::l) env σ K↔Zo (get env) ps/\(((EX z (ps.map λp=>(p.1,p.2.1,ev (get env) p.2.2))).map V.agg).isSome=true)/\Aw P O ep l ((d,((EX z (ps.map λp=>(p.1,p.2.1,ev (get env) p.2.2))).map V.agg).getD .any)::env) σ K:=
 Li λv σ'=>by
  simp only[E,Td];refine and_congr_right λ_=>and_congr_left λ_=>?_;cases EX z (ps.map λp=>(p.1,p.2.1,ev (get env) p.2.2)) with
  | none=>simp
  | some cs=>simp[eq_comm]
theorem AjN{e sz xs}:Aw P O ep (⟨some d,.msl true e sz xs,none,[]⟩::l) env σ K↔HA sz (xs.map (ev (get env)))/\Aw P O ep l ((d,.arr (ep,d))::env) (((ep,d),.arr e sz (xs.map (ev (get env))))::σ) K:=
 IF λv σ'=>by simp only[E,Kx,Agp,Arp];grind
theorem Akw{e sz xs}:Aw P O ep (⟨some d,.msl false e sz xs,none,[]⟩::l) env σ K↔HA sz (xs.map (ev (get env)))/\Aw P O ep l ((d,.sl (xs.map (ev (get env))))::env) σ K:=
 IF λv σ'=>by simp only[E,Kx,Agw,AfT]
theorem AoT{x i g}:Aw P O ep (⟨some d,.slS x i g,none,[]⟩::l) env σ K↔True/\(KR (get env) i g (ev (get env) x)).isSome=true/\Aw P O ep l ((d,(KR (get env) i g (ev (get env) x)).getD .any)::env) σ K:=
 Li λv σ'=>by
  simp only[E,Azz];constructor
  .rintro⟨l,a,b,e,j,o,p,q,rfl,rfl⟩;simp[KR,e,j,o,p,q]
  .rintro⟨h,rfl⟩;cases r:ev (get env) x<;>rw[r] at h<;>simp only[KR] at h<;>(try (cases h;done));rename_i l;cases e:FR (get env) 0 i with
   | none=>rw[e] at h;cases h
   | some a=>
    cases j:FR (get env) l.length g with
    | none=>rw[e,j] at h;cases h
    | some b=>simp_all
theorem AqG{x i g sz}:Aw P O ep (⟨some d,.slL x i g sz,none,[]⟩::l) env σ K↔isL sz (ev (get env) x)/\(H5 (get env) i g (toL (ev (get env) x))).isSome=true/\Aw P O ep l ((d,(H5 (get env) i g (toL (ev (get env) x))).getD .any)::env) σ K:=
 Li λv σ'=>by
  simp only[E];constructor
  .rintro⟨es,a,b,e,j,r,s,u,w,rfl,rfl⟩;rcases e with e|⟨e,rfl⟩
   .rw[e];exact⟨w,by simp[H5,toL,j,r,s,u],rfl⟩
   .rw[e];exact⟨trivial,(by simp only[H5,j,r,AzD];exact Aiv ⟨s,u⟩:H5 (get env) i g []=_),rfl⟩
  .rintro⟨p,h,rfl⟩;have q:∀es:List V,(ev (get env) x=.sl es\/ev (get env) x=.nil/\es=[])->H5 (get env) i g es=some v->(∀y∈es,(cells y).length=sz)->∃es a b,(ev (get env) x=.sl es\/ev (get env) x=.nil/\es=[])/\FR (get env) 0 i=some a/\FR (get env) es.length g=some b/\a<=b/\b<=es.length/\(∀y∈es,(cells y).length=sz)/\v=.sl ((es.take b).drop a)/\σ'=σ':=by
    intro es z h A;unfold H5 at h;cases e:FR (get env) 0 i with
    | none=>rw[e] at h;cases h
    | some a=>
     cases j:FR (get env) es.length g with
     | none=>rw[e,j] at h;cases h
     | some b=>
      simp only[e,j,AzD] at h;split at h
      .grind
      .cases h
   cases o:ev (get env) x<;>rw[o] at p h<;>simp only[isL] at p
   .have:=q [] (.inr ⟨o,rfl⟩) h (by simp);rw[o] at this;exact this
   .rename_i es;have:=q es (.inl o) h p;rw[o] at this;exact this
theorem AkE{x}:Aw P O ep (⟨some d,.lenS x,none,[]⟩::l) env σ K↔isS (ev (get env) x)/\Aw P O ep l ((d,.i .i64 ((toS (ev (get env) x)).length:Nat))::env) σ K:=
 IF λv σ'=>by simp only[E];cases ev (get env) x<;>simp[isS,toS]
theorem Aj5{x}:Aw P O ep (⟨some d,.lenL x,none,[]⟩::l) env σ K↔(AD σ (ev (get env) x)).isSome=true/\Aw P O ep l ((d,.i .i64 (((AD σ (ev (get env) x)).getD []).length:Nat))::env) σ K:=
 IF λv σ'=>by simp only[E];cases AD σ (ev (get env) x)<;>simp
theorem Arl{s x e sz}:Aw P O ep (⟨some d,.app s x e sz,none,[]⟩::l) env σ K↔((AD σ (ev (get env) x)).isSome=true/\∀y∈(AD σ (ev (get env) x)).getD [],(cells y).length=sz)/\(Nl σ (ep,d) e sz ((AD σ (ev (get env) x)).getD []) (ev (get env) s)).isSome=true/\Aw P O ep l ((d,.arr (ep,d))::env) ((Nl σ (ep,d) e sz ((AD σ (ev (get env) x)).getD []) (ev (get env) s)).getD []) K:=
 AdC λv σ'=>by
  simp only[E,Arp];cases AD σ (ev (get env) x) with
  | none=>simp
  | some xs=>
   simp only[Arp,AvN,Option.getD_some,Azz];constructor
   .rintro⟨q,p,rfl,rfl,h,rfl,g⟩;refine⟨h,rfl,?_⟩;cases i:ev (get env) s<;>rw[i] at g<;>simp only at g<;>(try (exact g.elim))
    .simp[Nl,g]
    .obtain⟨es,j,o,rfl⟩:=g;simp[Nl,j,o]
   .rintro⟨h,rfl,g⟩;refine⟨d,xs,rfl,rfl,h,rfl,?_⟩;cases i:ev (get env) s<;>rw[i] at g<;>simp only[Nl] at g<;>(try (cases g;done))
    .grind
    grind
theorem Apd{x k}:Aw P O ep (⟨some d,.ext x k,none,[]⟩::l) env σ K↔True/\(Vn k (ev (get env) x)).isSome=true/\Aw P O ep l ((d,(Vn k (ev (get env) x)).getD .any)::env) σ K:=
 Li λv σ'=>by simp only[E];cases ev (get env) x<;>simp[Vn]
theorem Alc{f first e}:Aw P O ep (⟨some d,.mkfn f first e,none,[]⟩::l) env σ K↔True/\Aw P O ep l ((d,.fn f (first.map (ev (get env))) (e.map (ev (get env))))::env) σ K:=
 IF λv σ'=>by simp[E]
theorem AuC{e x xs}:Aw P O ep (⟨some d,.mx e x xs,none,[]⟩::l) env σ K↔True/\(QJ e (ev (get env) x) (xs.map (ev (get env)))).isSome=true/\Aw P O ep l ((d,(QJ e (ev (get env) x) (xs.map (ev (get env)))).getD .any)::env) σ K:=
 Li λv σ'=>by simp[E]
theorem Adf{x}:Aw P O ep (⟨some d,.nilck x,none,[]⟩::l) env σ K↔isN (ev (get env) x)/\Aw P O ep l ((d,ev (get env) x)::env) σ K:=
 IF λv σ'=>Iff.rfl
end
theorem wrap64{n}(e:-9223372036854775808<=n)(g:n<9223372036854775808):IntKind.i64.wrap n=n:=by simp only[IntKind.wrap,IntKind.bits,IntKind.signed] at *;simp;omega
theorem Ace{e v}:QJ e v []=some v:=by cases v<;>rfl
theorem And{e k a b r}:QJ e (.i k a) (.i k b::r)=QJ e (.i k (if e=true then min a b else max a b)) r:=by simp[QJ]
end Go.Ir
end
namespace Go.Ir
open Go.RowKit
def TT(o:Option Be)(id:Id)(sz:Nat)(n:Int):Option V:=
 match o with|some (.arr _ e es)=>if e=sz/\n.toNat<es.length then some (.aref id n.toNat sz 0) else none|_=>none
def VG(en:Option Be)(e n:Nat)(g:Bool):Option V:=match en with|some (.box u)=>sub u e n g|some (.tbox _ u)=>sub u e n g|_=>none
def kZ(en:Option Be)(j sz e n:Nat)(h:Bool):Option V:=match en with|some (.arr _ g es)=>if g=sz then(es[j]?).bind λi=>sub i e n h else none|_=>none
def PG(en:Option Be)(σ:Au)(n:Nat)(x:V)(id:Id)(e:Nat):Option Au:=match en with|some (.box u)=>(DJ u e n x).map λg=>upd σ id (.box g)|some (.tbox t u)=>(DJ u e n x).map λg=>upd σ id (.tbox t g)|_=>none
def Ake(en:Option Be)(σ:Au)(n:Nat)(x:V)(id:Id)(j sz h:Nat):Option Au:=match en with|some (.arr e i es)=>if i=sz then(es[j]?).bind λo=>(DJ o h n x).map λg=>upd σ id (.arr e sz (es.set j g)) else none|_=>none
def Akv(en:Option Be)(σ:Au)(id g:Id)(e sz:Nat)(xs:List V):Option Au:=match en with|some (.arr e' h es)=>if e'=e/\h=sz/\es.length+xs.length<=AM then some ((id,.arr e sz (es++xs))::del σ g) else none|_=>none
def UF:Option Be->Option (List V)|some (.arr _ _ es)=>some es|_=>none
def AcG:V->Option Nat|.i _ n=>if 0<=n then some n.toNat else none|_=>none
theorem AbT{x}:cells (.b x)=[(.b x)]:=rfl
theorem AtW{x}:V.ok (.b x)=true:=rfl
theorem AbY{k n}:cells (.i k n)=[(.i k n)]:=rfl
theorem AvM{k n}:V.ok (.i k n)=true:=rfl
theorem AcC{l}:cells (.s l)=[(.s l)]:=rfl
theorem AuV{l}:V.ok (.s l)=true:=rfl
theorem cB:cells .nil=[.nil]:=rfl
theorem Aje:V.ok .nil=true:=rfl
theorem kV{es}:cells (.sl es)=[(.sl es)]:=rfl
theorem Apt{es}:V.ok (.sl es)=true:=rfl
theorem Zb{cs}:cells (.agg cs)=cs:=rfl
theorem Aid{cs}:V.ok (.agg cs)=true:=rfl
theorem Zd{id o}:cells (.ref id o)=[(.ref id o)]:=rfl
theorem AlH{id o}:V.ok (.ref id o)=true:=rfl
theorem bE{id}:cells (.arr id)=[(.arr id)]:=rfl
theorem AlW{id}:V.ok (.arr id)=true:=rfl
theorem V4{id e sz o}:cells (.aref id e sz o)=[(.aref id e sz o)]:=rfl
theorem AcX{id e sz o}:V.ok (.aref id e sz o)=true:=rfl
theorem dB{e o}:cells (.ep e o)=[(.ep e o)]:=rfl
theorem Apz{e o}:V.ok (.ep e o)=true:=rfl
theorem xZ{f a c}:cells (.fn f a c)=[(.fn f a c)]:=rfl
theorem Aqc{f a c}:V.ok (.fn f a c)=true:=rfl
theorem xV:cells .np=[.np]:=rfl
theorem ApP:V.ok .np=true:=rfl
theorem rQ:cells .nf=[.nf]:=rfl
theorem ArS:V.ok .nf=true:=rfl
theorem kW:cells .ni=[.ni]:=rfl
theorem AnL:V.ok .ni=true:=rfl
theorem AbC{cs}:QV (.agg cs)=true:=rfl
theorem Aqo{x}:T7 (.b x)=True:=rfl
theorem Aof{x}:NC (.b x)=x:=rfl
theorem An1{k n}:isI (.i k n)=True:=rfl
theorem Ar6{k n}:toI (.i k n)=n:=rfl
theorem Aoq{k n}:kiI (.i k n)=k:=rfl
theorem Ant{l}:isS (.s l)=True:=rfl
theorem Anc{l}:toS (.s l)=l:=rfl
theorem cP{id o}:TF (.ref id o)=True:=rfl
theorem Uy{id o m}:ID (.ref id o) m=.ref id (o+m):=rfl
theorem Aan{id o}:isN (.ref id o)=True:=rfl
theorem bR{id e sz o}:TF (.aref id e sz o)=True:=rfl
theorem Tt{id e sz o m}:ID (.aref id e sz o) m=.aref id e sz (o+m):=rfl
theorem l7{id e sz o}:isN (.aref id e sz o)=True:=rfl
theorem AbD{e o}:TF (.ep e o)=True:=rfl
theorem YW{e o m}:ID (.ep e o) m=.ep e (o+m):=rfl
theorem AjU{e o}:isN (.ep e o)=True:=rfl
theorem Alx{f a c}:isN (.fn f a c)=True:=rfl
theorem ZP{σ sz es k n}:EN σ sz (.sl es) (.i k n)=if 0<=n then(es[n.toNat]?).bind λe=>if(cells e).length=sz then some (.ep e 0) else none else none:=rfl
theorem Vl{σ sz id k n}:EN σ sz (.arr id) (.i k n)=if 0<=n then TT (lk σ id) id sz n else none:=by unfold EN TT;rfl
theorem Um{e g:Nat}{es id sz n}:TT (some (.arr e g es)) id sz n=if g=sz/\n.toNat<es.length then some (.aref id n.toNat sz 0) else none:=rfl
theorem ZO{σ n e id o}:FW σ n e (.ref id o)=VG (lk σ id) o n e:=by unfold FW VG;rfl
theorem YR{u o n e}:VG (some (.box u)) o n e=sub u o n e:=rfl
theorem Uq{t u o n e}:VG (some (.tbox t u)) o n e=sub u o n e:=rfl
theorem UN{σ n e id g sz o}:FW σ n e (.aref id g sz o)=kZ (lk σ id) g sz o n e:=by unfold FW kZ;rfl
theorem YQ{e g:Nat}{es i sz o n h}:kZ (some (.arr e g es)) i sz o n h=if g=sz then(es[i]?).bind λj=>sub j o n h else none:=rfl
theorem tF{σ n g e o}:FW σ n g (.ep e o)=sub e o n g:=rfl
theorem Vd{σ n x id o}:FK σ n x (.ref id o)=PG (lk σ id) σ n x id o:=by unfold FK PG;rfl
theorem TM{u σ n x id o}:PG (some (.box u)) σ n x id o=(DJ u o n x).map λe=>upd σ id (.box e):=rfl
theorem Rk{t u σ n x id o}:PG (some (.tbox t u)) σ n x id o=(DJ u o n x).map λe=>upd σ id (.tbox t e):=rfl
theorem UJ{e g:Nat}{es σ n x id i sz o}:Ake (some (.arr e g es)) σ n x id i sz o=if g=sz then(es[i]?).bind λj=>(DJ j o n x).map λh=>upd σ id (.arr e sz (es.set i h)) else none:=rfl
theorem Ajn{l k n}:Pg (.s l) (.i k n)=if 0<=n then(l[n.toNat]?).map λc=>.i .u8 c.toNat else none:=rfl
theorem gD{g h e l}:KR g h e (.s l)=(FR g 0 h).bind λa=>(FR g l.length e).bind λb=>if a<=b/\b<=l.length then some (.s ((l.take b).drop a)) else none:=rfl
theorem Ajo{sz es}:isL sz (.sl es)=∀y∈es,(cells y).length=sz:=rfl
theorem z7{sz}:isL sz .nil=True:=rfl
theorem AjK{es}:toL (.sl es)=es:=rfl
theorem Ac7:toL .nil=[]:=rfl
theorem iD{σ id e sz xs}:Nl σ id e sz xs .nil=if xs.length<=AM then some ((id,.arr e sz xs)::σ) else none:=rfl
theorem cQ{σ id g e sz xs}:Nl σ id e sz xs (.arr g)=Akv (lk σ g) σ id g e sz xs:=by unfold Nl Akv;rfl
theorem oA{e' h:Nat}{es σ id g e sz xs}:Akv (some (.arr e' h es)) σ id g e sz xs=if e'=e/\h=sz/\es.length+xs.length<=AM then some ((id,.arr e sz (es++xs))::del σ g) else none:=rfl
theorem iK{k vs}:Vn k (.tup vs)=vs[k]?:=rfl
theorem Vv{σ es}:AD σ (.sl es)=some es:=rfl
theorem Rd{σ}:AD σ .nil=some []:=rfl
theorem S7{σ id}:AD σ (.arr id)=UF (lk σ id):=by unfold AD UF;rfl
theorem TO{e sz:Nat}{es}:UF (some (.arr e sz es))=some es:=rfl
theorem Aju{e k k' a b}:NL e (.i k a) (.i k' b)=(k=k'/\jP e b):=rfl
theorem AiN{e a b}:NL e (.s a) (.s b)=tC e a b:=rfl
theorem Ait{e k k' a b}:T3 e (.i k a) (.i k' b)=dA e k a b:=rfl
theorem AkK{e a b}:T3 e (.s a) (.s b)=jS e a b:=rfl
theorem nD{g m}:FR g m none=some m:=rfl
theorem Sd{g m x}:FR g m (some x)=AcG (ev g x):=by unfold FR AcG;rfl
theorem Ak5{k n}:AcG (.i k n)=if 0<=n then some n.toNat else none:=rfl
end Go.Ir
section
namespace Go.Ir
open Go.RowKit
def Bd(env:Bm)(x:X):V:=ev (get env) x
def DS(env:Bm)(xs:List X):List V:=xs.map (ev (get env))
def psE(env:Bm)(ps:List (Nat×Nat×X)):List (Nat×Nat×V):=ps.map λp=>(p.1,p.2.1,ev (get env) p.2.2)
def S5(env:Bm)(ps:List (Nat×Nat×X)):Prop:=Zo (get env) ps
def TL(env:Bm)(m:Nat)(x:Option X):Option Nat:=FR (get env) m x
def LP(env:Bm)(g e:Option X)(v:V):Option V:=KR (get env) g e v
def LD(env:Bm)(g e:Option X)(es:List V):Option V:=H5 (get env) g e es
theorem AmR{env s}:Bd env (.t s)=get env s:=rfl
theorem Aqq{env v}:Bd env (.c v)=v:=rfl
theorem AcN{env}:DS env []=[]:=rfl
theorem wR{env x xs}:DS env (x::xs)=Bd env x::DS env xs:=rfl
theorem Acx{env}:psE env []=[]:=rfl
theorem jF{env a b x ps}:psE env ((a,b,x)::ps)=(a,b,Bd env x)::psE env ps:=rfl
theorem aK{env}:S5 env []=True:=rfl
theorem UL{env a b x ps}:S5 env ((a,b,x)::ps)=((Bd env x).ok=true/\S5 env ps):=rfl
theorem YA{env m}:TL env m none=some m:=rfl
theorem aC{env m x}:TL env m (some x)=AcG (Bd env x):=by unfold TL Bd;exact Sd
theorem Zl{env g e l}:LP env g e (.s l)=(TL env 0 g).bind λa=>(TL env l.length e).bind λb=>if a<=b/\b<=l.length then some (.s ((l.take b).drop a)) else none:=rfl
theorem Un{env g e es}:LD env g e es=(TL env 0 g).bind λa=>(TL env es.length e).bind λb=>if a<=b/\b<=es.length then some (.sl ((es.take b).drop a)) else none:=rfl
theorem By{k s v}{r:Bm}:get ((k,v)::r) s=if k=s then v else get r s:=rfl
theorem AaV{s}:get [] s=.any:=rfl
theorem Q9{env}:restrict [] env=[]:=rfl
theorem NN{s l env}:restrict (s::l) env=(s,get env s)::restrict l env:=rfl
section
variable{P:Program}{O:World}{ep d:Nat}{l:List I}{env:Bm}{σ:Au}{K:Bm→Au→Prop}
theorem Avq{x}:Aw P O ep (⟨some d,.mv x,none,[]⟩::l) env σ K↔Aw P O ep l ((d,Bd env x)::env) σ K:=AvA
theorem Aik{c a b}:Aw P O ep (⟨some d,.pick c a b,none,[]⟩::l) env σ K↔T7 (Bd env c)/\Aw P O ep l ((d,bif NC (Bd env c) then Bd env a else Bd env b)::env) σ K:=Ah5
theorem AnK{e x y}:Aw P O ep (⟨some d,.bin e x y,none,[]⟩::l) env σ K↔NL e (Bd env x) (Bd env y)/\Aw P O ep l ((d,T3 e (Bd env x) (Bd env y))::env) σ K:=Ao4
theorem ArI{e x y}:Aw P O ep (⟨some d,.eqb e x y,none,[]⟩::l) env σ K↔(T7 (Bd env x)/\T7 (Bd env y))/\Aw P O ep l ((d,.b (if e then !(NC (Bd env x)==NC (Bd env y)) else NC (Bd env x)==NC (Bd env y)))::env) σ K:=AnV
theorem Ap9{x}:Aw P O ep (⟨some d,.not x,none,[]⟩::l) env σ K↔T7 (Bd env x)/\Aw P O ep l ((d,.b (!(NC (Bd env x))))::env) σ K:=Anr
theorem Arj{k x}:Aw P O ep (⟨some d,.cvi k x,none,[]⟩::l) env σ K↔isI (Bd env x)/\Aw P O ep l ((d,.i k (k.wrap (toI (Bd env x))))::env) σ K:=Ar8
theorem AbU{x e}:Aw P O ep (⟨some d,.faddr x e,none,[]⟩::l) env σ K↔TF (Bd env x)/\Aw P O ep l ((d,ID (Bd env x) e)::env) σ K:=Adi
theorem Acz{x i e sz}:Aw P O ep (⟨some d,.iaddr x i e sz,none,[]⟩::l) env σ K↔True/\(EN σ sz (Bd env x) (Bd env i)).isSome=true/\Aw P O ep l ((d,(EN σ sz (Bd env x) (Bd env i)).getD .any)::env) σ K:=AcF
theorem Aod{x i}:Aw P O ep (⟨some d,.idx x i,none,[]⟩::l) env σ K↔True/\(Pg (Bd env x) (Bd env i)).isSome=true/\Aw P O ep l ((d,(Pg (Bd env x) (Bd env i)).getD .any)::env) σ K:=Apc
theorem Alb{x n e}:Aw P O ep (⟨some d,.load x n e,none,[]⟩::l) env σ K↔True/\(FW σ n e (Bd env x)).isSome=true/\Aw P O ep l ((d,(FW σ n e (Bd env x)).getD .any)::env) σ K:=AhL
theorem Acu{a x n}:Aw P O ep (⟨none,.store a x n,none,[]⟩::l) env σ K↔(Bd env x).ok=true/\(FK σ n (Bd env x) (Bd env a)).isSome=true/\Aw P O ep l env ((FK σ n (Bd env x) (Bd env a)).getD []) K:=AcH
theorem Aow{x}:Aw P O ep (⟨some d,.box x,none,[]⟩::l) env σ K↔(Bd env x).ok=true/\Aw P O ep l ((d,.ref (ep,d) 0)::env) (((ep,d),.box (Bd env x))::σ) K:=ApO
theorem Aaa{z}:Aw P O ep (⟨some d,.alloc z,none,[]⟩::l) env σ K↔True/\Aw P O ep l ((d,.ref (ep,d) 0)::env) (((ep,d),.box z)::σ) K:=Aa5
theorem Abw{z ps}:Aw P O ep (⟨some d,.build z ps,none,[]⟩::l) env σ K↔S5 env ps/\(((EX z (psE env ps)).map V.agg).isSome=true)/\Aw P O ep l ((d,((EX z (psE env ps)).map V.agg).getD .any)::env) σ K:=Aaq
theorem Al0{e sz xs}:Aw P O ep (⟨some d,.msl true e sz xs,none,[]⟩::l) env σ K↔HA sz (DS env xs)/\Aw P O ep l ((d,.arr (ep,d))::env) (((ep,d),.arr e sz (DS env xs))::σ) K:=AjN
theorem Akb{e sz xs}:Aw P O ep (⟨some d,.msl false e sz xs,none,[]⟩::l) env σ K↔HA sz (DS env xs)/\Aw P O ep l ((d,.sl (DS env xs))::env) σ K:=Akw
theorem Ao3{x g e}:Aw P O ep (⟨some d,.slS x g e,none,[]⟩::l) env σ K↔True/\(LP env g e (Bd env x)).isSome=true/\Aw P O ep l ((d,(LP env g e (Bd env x)).getD .any)::env) σ K:=AoT
theorem Aq3{x g e sz}:Aw P O ep (⟨some d,.slL x g e sz,none,[]⟩::l) env σ K↔isL sz (Bd env x)/\(LD env g e (toL (Bd env x))).isSome=true/\Aw P O ep l ((d,(LD env g e (toL (Bd env x))).getD .any)::env) σ K:=AqG
theorem Alz{x}:Aw P O ep (⟨some d,.lenS x,none,[]⟩::l) env σ K↔isS (Bd env x)/\Aw P O ep l ((d,.i .i64 ((toS (Bd env x)).length:Nat))::env) σ K:=AkE
theorem Aiq{x}:Aw P O ep (⟨some d,.lenL x,none,[]⟩::l) env σ K↔(AD σ (Bd env x)).isSome=true/\Aw P O ep l ((d,.i .i64 (((AD σ (Bd env x)).getD []).length:Nat))::env) σ K:=Aj5
theorem ApT{s x e sz}:Aw P O ep (⟨some d,.app s x e sz,none,[]⟩::l) env σ K↔((AD σ (Bd env x)).isSome=true/\∀y∈(AD σ (Bd env x)).getD [],(cells y).length=sz)/\(Nl σ (ep,d) e sz ((AD σ (Bd env x)).getD []) (Bd env s)).isSome=true/\Aw P O ep l ((d,.arr (ep,d))::env) ((Nl σ (ep,d) e sz ((AD σ (Bd env x)).getD []) (Bd env s)).getD []) K:=Arl
theorem Aro{x k}:Aw P O ep (⟨some d,.ext x k,none,[]⟩::l) env σ K↔True/\(Vn k (Bd env x)).isSome=true/\Aw P O ep l ((d,(Vn k (Bd env x)).getD .any)::env) σ K:=Apd
theorem Ak2{f first e}:Aw P O ep (⟨some d,.mkfn f first e,none,[]⟩::l) env σ K↔True/\Aw P O ep l ((d,.fn f (DS env first) (DS env e))::env) σ K:=Alc
theorem Avr{e x xs}:Aw P O ep (⟨some d,.mx e x xs,none,[]⟩::l) env σ K↔True/\(QJ e (Bd env x) (DS env xs)).isSome=true/\Aw P O ep l ((d,(QJ e (Bd env x) (DS env xs)).getD .any)::env) σ K:=AuC
theorem z6{x}:Aw P O ep (⟨some d,.nilck x,none,[]⟩::l) env σ K↔isN (Bd env x)/\Aw P O ep l ((d,Bd env x)::env) σ K:=Adf
variable{nt:Nat}{b:IC}{Q:Exit→St→Prop}{st:St}{Inv:Nat→St→Prop}{m k k':Nat}
theorem Nu:Dy k Q .normal st=Q .normal st:=rfl
theorem Q4:Dy k Q (.exit k') st=if k'=k then Q .normal st else Q (.exit k') st:=rfl
theorem QY:Dy k Q .ret st=Q .ret st:=rfl
theorem QK:W1 Inv m Q .normal st=∃e,e<m/\Inv e st:=rfl
theorem U9:W1 Inv m Q (.exit k) st=Q (.exit k) st:=rfl
theorem a7:W1 Inv m Q .ret st=Q .ret st:=rfl
end
end Go.Ir
end
section
namespace Go.Ir
open Go.RowKit
def J(P:Program)(O:World)(ep:Nat)(live:List Nat)(Q:Exit->St->Prop)(l:List I)(env:Bm)(σ:Au):Prop:=
 Aw P O ep l env σ λenv σ=>∀k,Q .normal ⟨restrict live env,σ,ep+1+k⟩
def JP(P:Program)(O:World)(ep:Nat)(live:List Nat)(Q:Exit->St->Prop)(p:Prop)(l:List I)(env:Bm)(σ:Au):Prop:=p/\J P O ep live Q l env σ
def JL(P:Program)(O:World)(ep:Nat)(live:List Nat)(Q:Exit->St->Prop)(p:Prop)(o:Option V)(l:List I)(d:Nat)(env:Bm)(σ:Au):Prop:=p/\o.isSome=true/\J P O ep live Q l ((d,o.getD .any)::env) σ
def JT(P:Program)(O:World)(ep:Nat)(live:List Nat)(Q:Exit->St->Prop)(p:Prop)(o:Option Au)(l:List I)(env:Bm):Prop:=p/\o.isSome=true/\J P O ep live Q l env (o.getD [])
def T5(P:Program)(O:World)(ep:Nat)(live:List Nat)(Q:Exit->St->Prop)(v:V)(e:Bool)(d:Option Nat)(g:AQ)(ap:List X)(l:List I)(env:Bm)(σ:Au):Prop:=
 IP e v (J P O ep live Q (⟨d,g,none,ap⟩::l) env σ) (J P O ep live Q l (put env d (.tup [])) σ)
def To(P:Program)(O:World)(ep:Nat)(live:List Nat)(Q:Exit->St->Prop)(f:FuncId)(vs:List V)(l:List I)(d:Nat)(env:Bm)(σ:Au):Prop:=
 ∃v,An P O f vs [] v []/\J P O ep live Q l ((d,v)::env) σ
def V5(P:Program)(O:World)(ep:Nat)(live:List Nat)(Q:Exit->St->Prop)(f:FuncId)(vs:List V)(l:List I)(d:Nat)(env:Bm)(σ:Au):Prop:=
 ∃v σi,An P O f vs σi v σi/\(∀id e,lk σi id=some e->lk σ id=some e)/\J P O ep live Q l ((d,v)::env) σ
def G7(P:Program)(O:World)(ep:Nat)(live:List Nat)(Q:Exit->St->Prop)(f:FuncId)(vs:List V)(l:List I)(d:Nat)(env:Bm)(σ:Au):Prop:=
 ∃v σi σo,An P O f vs σi v σo/\(∀id e,lk σi id=some e->lk σ id=some e)/\J P O ep live Q l ((d,v)::env) (over σi σo σ)
def TS(P:Program)(O:World)(ep:Nat)(live:List Nat)(Q:Exit->St->Prop)(f:FuncId)(vs:List V)(l:List I)(d:Nat)(env:Bm)(σ:Au):Prop:=
 ∃x σi σo,HB P O f vs σi x σo/\(∀id e,lk σi id=some e->lk σ id=some e)/\J P O ep live Q l ((d,.arr (ep,d))::env) (((ep,d),x)::over σi σo σ)
def Aku(P:Program)(O:World)(ep:Nat)(live:List Nat)(Q:Exit->St->Prop)(h:V)(vs:List V)(l:List I)(d:Nat)(env:Bm)(σ:Au):Prop:=
 match h with
 | .fn f first e=>To P O ep live Q f (first++vs++e) l d env σ
 | _=>False
def L9(P:Program)(O:World)(ep:Nat)(live:List Nat)(Q:Exit->St->Prop)(h:V)(vs:List V)(l:List I)(d:Nat)(env:Bm)(σ:Au):Prop:=
 match h with
 | .fn f first e=>G7 P O ep live Q f (first++vs++e) l d env σ
 | _=>False
def Yl(P:Program)(O:World)(ep:Nat)(live:List Nat)(Q:Exit->St->Prop)(f:FuncId)(vs g:List V)(l:List I)(d:Nat)(env:Bm)(σ:Au):Prop:=
 ∃v σi σo,An P O f vs σi v σo/\(∀id e,lk σi id=some e->lk σ id=some e)/\(∀y∈g,∀id,Ci y=some id->lk σ id≠none->lk (over σi σo σ) id=lk σ id)/\J P O ep live Q l ((d,v)::env) (over σi σo σ)
def Aad(P:Program)(O:World)(ep:Nat)(live:List Nat)(Q:Exit->St->Prop)(h:V)(vs g:List V)(l:List I)(d:Nat)(env:Bm)(σ:Au):Prop:=
 match h with
 | .fn f first e=>Yl P O ep live Q f (first++vs++e) g l d env σ
 | _=>False
def JW(P:Program)(O:World)(ep:Nat)(live:List Nat)(Q:Exit->St->Prop)(o:Option (Au×V))(l:List I)(d:Nat)(env:Bm):Prop:=∃p,o=some p/\J P O ep live Q l ((d,p.2)::env) p.1
def Afc(P:Program)(O:World)(ep:Nat)(live:List Nat)(Q:Exit->St->Prop)(f:FuncId)(vs:List V)(l:List I)(d:Nat)(env:Bm)(σ:Au):Prop:=∃e,HB P O f vs [] e []/\J P O ep live Q l ((d,.arr (ep,d))::env) (((ep,d),e)::σ)
def JM(P:Program)(O:World)(ep:Nat)(live:List Nat)(Q:Exit->St->Prop)(k:MkK)(o:Option Be)(l:List I)(d:Nat)(env:Bm)(σ:Au):Prop:=∃e,o=some e/\J P O ep live Q l ((d,iJ k (ep,d))::env) (((ep,d),e)::σ)
def cH(k:RdK)(xs:List V)(e:Option Be):Option V:=e.bind λe=>rdF k e xs
def rdV(σ:Au)(k:RdK)(xs:List V):V->Option V
 | .arr id=>cH k xs (lk σ id)
 | _=>none
def wrO(σ:Au)(id:Id)(k:WrK)(xs:List V)(e:Option Be):Option (Au×V):=e.bind λe=>(kU k e xs).map λr=>(upd σ id r.1,r.2)
def wrV(σ:Au)(k:WrK)(xs:List V):V->Option (Au×V)
 | .arr id=>wrO σ id k xs (lk σ id)
 | _=>none
def pX(σ:Au)(id:Id)(n:Nat):Option Be->Option (Au×V)
 | some (.box (.agg cs))=>if cs.length=n/\cs.all (λc=>!QV c)=true then some (del σ id,.sl cs) else none
 | _=>none
def AaH(σ:Au)(n:Nat):V->Option (Au×V)
 | .ref id 0=>pX σ id n (lk σ id)
 | _=>none
def JK(σ:Au)(e mid:Id):Option Be->Option (Au×V)
 | some (.map es)=>some ((e,.mit mid es.length [] es.length)::σ,.arr e)
 | _=>none
def LK(σ:Au)(e:Id):V->Option (Au×V)
 | .arr mid=>JK σ e mid (lk σ mid)
 | _=>none
def Kc(i:Option Nat)(e:Nat):Option Be->Option V
 | some (.map es)=>if e=es.length then i.bind λi=>(es[i]?).map λg=>.tup [g.1,g.2] else none
 | _=>none
def Jk(σ:Au):Option Be->Option V
 | some (.mit mid _ seen e)=>Kc seen.getLast? e (lk σ mid)
 | _=>none
def Kb(σ:Au):V->Option V
 | .arr id=>Jk σ (lk σ id)
 | _=>none
def Tm:Option Be->Nat
 | some (.arr _ _ es)=>es.length
 | _=>0
def Nr(σ:Au):V->Nat
 | .arr id=>Tm (lk σ id)
 | _=>0
def OQ:V->Nat
 | .s l=>l.length
 | _=>0
def S2(σ:Au)(id g:Id)(e:TypeId)(l:List UInt8):Option Be->Option (Au×V)
 | some (.arr e' sz es)=>if e'=e/\sz=1 then some ((g,.arr e 1 (es++Az l))::del σ id,.arr g) else none
 | _=>none
def Oa(σ:Au)(g:Id)(e:TypeId)(l:List UInt8):V->Option (Au×V)
 | .nil=>some ((g,.arr e 1 (Az l))::σ,.arr g)
 | .arr id=>S2 σ id g e l (lk σ id)
 | _=>none
def Wu(σ:Au)(g:Id)(e:TypeId)(s:V):V->Option (Au×V)
 | .s l=>Oa σ g e l s
 | _=>none
def fX(σ:Au)(id g:Id)(sz:Nat)(h:V):Option Be->Option (Au×V)
 | some (.arr e j es)=>if j=sz then(match h with
  | .i _ n=>if 0<=n then(if n.toNat<=es.length then some ((g,.arr e sz (es.take n.toNat))::del σ id,.arr g) else none) else none
  | _=>none) else none
 | _=>none
def Aaw(σ:Au)(e:Id)(sz:Nat)(h:V):V->Option (Au×V)
 | .arr id=>fX σ id e sz h (lk σ id)
 | _=>none
def JWP(P:Program)(O:World)(ep:Nat)(live:List Nat)(Q:Exit->St->Prop)(p:Prop)(o:Option (Au×V))(l:List I)(d:Nat)(env:Bm):Prop:=∃q,o=some q/\JP P O ep live Q p l ((d,q.2)::env) q.1
def Ai9(es:List V):V:=.i .i64 (es.length:Nat)
def yN:List V->List V->Prop
 | [],_=>True
 | x::xs,ys=>(∀y∈ys,∀id,Ci x=some id->Ci y≠some id)/\yN xs ys
section
variable{P:Program}{O:World}{ep d:Nat}{live:List Nat}{Q:Exit→St→Prop}{l:List I}{env:Bm}{σ:Au}
theorem Asn:J P O ep live Q [] env σ=∀k,Q .normal ⟨restrict live env,σ,ep+1+k⟩:=rfl
theorem AcQ:JP P O ep live Q True l env σ=J P O ep live Q l env σ:=by simp[JP]
theorem Acy{v}:JL P O ep live Q True (some v) l d env σ=J P O ep live Q l ((d,v)::env) σ:=by simp[JL]
theorem AcK{τ}:JT P O ep live Q True (some τ) l env=J P O ep live Q l env τ:=by simp[JT]
theorem AtD{x}:J P O ep live Q (⟨some d,.mv x,none,[]⟩::l) env σ=J P O ep live Q l ((d,Bd env x)::env) σ:=by unfold J;exact propext (Avq.trans (by simp))
theorem Aiw{c a b}:J P O ep live Q (⟨some d,.pick c a b,none,[]⟩::l) env σ=JP P O ep live Q (T7 (Bd env c)) l ((d,bif NC (Bd env c) then Bd env a else Bd env b)::env) σ:=by unfold J JP;exact propext (Aik.trans (by simp[J]))
theorem Anx{e x y}:J P O ep live Q (⟨some d,.bin e x y,none,[]⟩::l) env σ=JP P O ep live Q (NL e (Bd env x) (Bd env y)) l ((d,T3 e (Bd env x) (Bd env y))::env) σ:=by unfold J JP;exact propext (AnK.trans (by simp[J]))
theorem Aor{e x y}:J P O ep live Q (⟨some d,.eqb e x y,none,[]⟩::l) env σ=JP P O ep live Q ((T7 (Bd env x)/\T7 (Bd env y))) l ((d,.b (if e then !(NC (Bd env x)==NC (Bd env y)) else NC (Bd env x)==NC (Bd env y)))::env) σ:=by unfold J JP;exact propext (ArI.trans (by simp[J]))
theorem Aop{x}:J P O ep live Q (⟨some d,.not x,none,[]⟩::l) env σ=JP P O ep live Q (T7 (Bd env x)) l ((d,.b (!(NC (Bd env x))))::env) σ:=by unfold J JP;exact propext (Ap9.trans (by simp[J]))
theorem Ap3{k x}:J P O ep live Q (⟨some d,.cvi k x,none,[]⟩::l) env σ=JP P O ep live Q (isI (Bd env x)) l ((d,.i k (k.wrap (toI (Bd env x))))::env) σ:=by unfold J JP;exact propext (Arj.trans (by simp[J]))
theorem Adj{x e}:J P O ep live Q (⟨some d,.faddr x e,none,[]⟩::l) env σ=JP P O ep live Q (TF (Bd env x)) l ((d,ID (Bd env x) e)::env) σ:=by unfold J JP;exact propext (AbU.trans (by simp[J]))
theorem AbJ{x i e sz}:J P O ep live Q (⟨some d,.iaddr x i e sz,none,[]⟩::l) env σ=JL P O ep live Q (True) (EN σ sz (Bd env x) (Bd env i)) l d env σ:=by unfold J JL;exact propext (Acz.trans (by simp[J]))
theorem Aq4{x i}:J P O ep live Q (⟨some d,.idx x i,none,[]⟩::l) env σ=JL P O ep live Q (True) (Pg (Bd env x) (Bd env i)) l d env σ:=by unfold J JL;exact propext (Aod.trans (by simp[J]))
theorem AlD{x n e}:J P O ep live Q (⟨some d,.load x n e,none,[]⟩::l) env σ=JL P O ep live Q (True) (FW σ n e (Bd env x)) l d env σ:=by unfold J JL;exact propext (Alb.trans (by simp[J]))
theorem AcD{a x n}:J P O ep live Q (⟨none,.store a x n,none,[]⟩::l) env σ=JT P O ep live Q ((Bd env x).ok=true) (FK σ n (Bd env x) (Bd env a)) l env:=by unfold J JT;exact propext (Acu.trans (by simp[J]))
theorem Ao5{x}:J P O ep live Q (⟨some d,.box x,none,[]⟩::l) env σ=JP P O ep live Q ((Bd env x).ok=true) l ((d,.ref (ep,d) 0)::env) (((ep,d),.box (Bd env x))::σ):=by unfold J JP;exact propext (Aow.trans (by simp[J]))
theorem Ab4{z}:J P O ep live Q (⟨some d,.alloc z,none,[]⟩::l) env σ=JP P O ep live Q (True) l ((d,.ref (ep,d) 0)::env) (((ep,d),.box z)::σ):=by unfold J JP;exact propext (Aaa.trans (by simp[J]))
theorem zW{z ps}:J P O ep live Q (⟨some d,.build z ps,none,[]⟩::l) env σ=JL P O ep live Q (S5 env ps) ((EX z (psE env ps)).map V.agg) l d env σ:=by unfold J JL;exact propext (Abw.trans (by simp[J]))
theorem Alq{e sz xs}:J P O ep live Q (⟨some d,.msl true e sz xs,none,[]⟩::l) env σ=JP P O ep live Q (HA sz (DS env xs)) l ((d,.arr (ep,d))::env) (((ep,d),.arr e sz (DS env xs))::σ):=by unfold J JP;exact propext (Al0.trans (by simp[J]))
theorem Ajm{e sz xs}:J P O ep live Q (⟨some d,.msl false e sz xs,none,[]⟩::l) env σ=JP P O ep live Q (HA sz (DS env xs)) l ((d,.sl (DS env xs))::env) σ:=by unfold J JP;exact propext (Akb.trans (by simp[J]))
theorem AqZ{x g e}:J P O ep live Q (⟨some d,.slS x g e,none,[]⟩::l) env σ=JL P O ep live Q (True) (LP env g e (Bd env x)) l d env σ:=by unfold J JL;exact propext (Ao3.trans (by simp[J]))
theorem Aon{x g e sz}:J P O ep live Q (⟨some d,.slL x g e sz,none,[]⟩::l) env σ=JL P O ep live Q (isL sz (Bd env x)) (LD env g e (toL (Bd env x))) l d env σ:=by unfold J JL;exact propext (Aq3.trans (by simp[J]))
theorem AhC{x}:J P O ep live Q (⟨some d,.lenS x,none,[]⟩::l) env σ=JP P O ep live Q (isS (Bd env x)) l ((d,.i .i64 ((toS (Bd env x)).length:Nat))::env) σ:=by unfold J JP;exact propext (Alz.trans (by simp[J]))
theorem Ajs{x}:J P O ep live Q (⟨some d,.lenL x,none,[]⟩::l) env σ=JL P O ep live Q (True) ((AD σ (Bd env x)).map Ai9) l d env σ:=by unfold J JL;refine propext (Aiq.trans ?_);cases AD σ (Bd env x)<;>simp[Ai9,J]
theorem Aok{s x e sz}:J P O ep live Q (⟨some d,.app s x e sz,none,[]⟩::l) env σ=JT P O ep live Q (((AD σ (Bd env x)).isSome=true/\∀y∈(AD σ (Bd env x)).getD [],(cells y).length=sz)) (Nl σ (ep,d) e sz ((AD σ (Bd env x)).getD []) (Bd env s)) l ((d,.arr (ep,d))::env):=by unfold J JT;exact propext (ApT.trans (by simp[J]))
theorem Aqp{x k}:J P O ep live Q (⟨some d,.ext x k,none,[]⟩::l) env σ=JL P O ep live Q (True) (Vn k (Bd env x)) l d env σ:=by unfold J JL;exact propext (Aro.trans (by simp[J]))
theorem Alr{f first e}:J P O ep live Q (⟨some d,.mkfn f first e,none,[]⟩::l) env σ=J P O ep live Q l ((d,.fn f (DS env first) (DS env e))::env) σ:=by unfold J;exact propext (Ak2.trans (by simp))
theorem At4{e x xs}:J P O ep live Q (⟨some d,.mx e x xs,none,[]⟩::l) env σ=JL P O ep live Q (True) (QJ e (Bd env x) (DS env xs)) l d env σ:=by unfold J JL;exact propext (Avr.trans (by simp[J]))
theorem Abk{x}:J P O ep live Q (⟨some d,.nilck x,none,[]⟩::l) env σ=JP P O ep live Q (isN (Bd env x)) l ((d,Bd env x)::env) σ:=by unfold J JP;exact propext (z6.trans (by simp[J]))
theorem Atm{k xs}:J P O ep live Q (⟨some d,.pu k xs,none,[]⟩::l) env σ=JL P O ep live Q True (FT k (DS env xs)) l d env σ:=by
 unfold J JL;refine propext (CE.trans ?_);simp only[E,put,DS,Azz];cases h:FT k (xs.map (ev (get env))) with
 | none=>simp
 | some v=>simp only[Arp,AvN,Option.getD_some,Azz];exact⟨λ⟨u,τ,⟨h1,h2⟩,h3⟩=>by subst h1;subst h2;exact h3,λh=>⟨_,_,⟨rfl,rfl⟩,h⟩⟩
theorem AoF{r}:eqN true r=.b (!r):=rfl
theorem Ap5{r}:eqN false r=.b r:=rfl
theorem Adk{e}:FT (.nilq .p e) [.np]=some (eqN e true):=rfl
theorem Adr{e id o}:FT (.nilq .p e) [.ref id o]=some (eqN e false):=rfl
theorem ArN{k m xs}:J P O ep live Q (⟨some d,.rdm k m xs,none,[]⟩::l) env σ=JL P O ep live Q True (rdV σ k (DS env xs) (Bd env m)) l d env σ:=by
 unfold J JL;refine propext (CE.trans ?_);simp only[E,put,DS,Azz,Bd];constructor
 .rintro⟨v,σ',⟨⟨id,e,g,i,j⟩,rfl⟩,h⟩;have:rdV σ' k (xs.map (ev (get env))) (ev (get env) m)=some v:=by rw[g];simp[rdV,cH,i,j]
  rw[this];exact⟨rfl,h⟩
 .rintro⟨g,h⟩;have ⟨v,hv⟩:=Aw9.1 g;rw[hv] at h;unfold rdV at hv;split at hv
  .rename_i id o;unfold cH at hv;have ⟨e,i,j⟩:=AjD.1 hv;exact⟨v,σ,⟨⟨id,e,o,i,j⟩,rfl⟩,h⟩
  .cases hv
theorem XK{j k m xs v σ'}:E P O ep j (.wrm k m xs) (get env) σ v σ'↔wrV σ k (DS env xs) (Bd env m)=some (σ',v):=by
 simp only[E,DS,Bd];constructor
 .rintro⟨id,e,e',o,i,h,rfl⟩;rw[o];simp[wrV,wrO,i,h]
 .intro g;unfold wrV at g;split at g
  .rename_i id p;unfold wrO at g;have ⟨e,i,h⟩:=AjD.1 g;have ⟨r,h4,h5⟩:=Amd.1 h;grind
  .cases g
theorem Aiu{k m xs}:J P O ep live Q (⟨none,.wrm k m xs,none,[]⟩::l) env σ=JT P O ep live Q True ((wrV σ k (DS env xs) (Bd env m)).map (·.1)) l env:=by
 unfold J JT;refine propext (CE.trans ?_);simp only[XK,put,Azz];cases h:wrV σ k (DS env xs) (Bd env m) with
 | none=>simp
 | some p=>have ⟨τ,v⟩:=p;simp only[Arp,A0l,Ayx,AvN,Option.getD_some,Azz];exact⟨λ⟨u,ρ,⟨h1,h2⟩,h3⟩=>by subst h1;subst h2;exact h3,λh=>⟨_,_,⟨rfl,rfl⟩,h⟩⟩
theorem Ard{k m xs}:J P O ep live Q (⟨some d,.wrm k m xs,none,[]⟩::l) env σ=JW P O ep live Q (wrV σ k (DS env xs) (Bd env m)) l d env:=by
 unfold J JW;refine propext (CE.trans ?_);simp only[XK,put];constructor
 .rintro⟨v,σ',e,g⟩;exact⟨(σ',v),e,g⟩
 .rintro⟨p,e,g⟩;exact⟨p.2,p.1,e,g⟩
theorem Re{k:MkK}{xs:List X}:J P O ep live Q (⟨some d,.mkm k xs,none,[]⟩::l) env σ=∃e,mkE P O k (DS env xs) e/\J P O ep live Q l ((d,iJ k (ep,d))::env) (((ep,d),e)::σ):=by
 unfold J;refine propext (CE.trans ?_);simp only[E,put,DS];constructor
 .rintro⟨v,σ',⟨j,e,g,i,rfl,rfl⟩,h⟩;cases g;exact⟨e,i,h⟩
 .rintro⟨e,g,h⟩;exact⟨_,_,⟨d,e,rfl,g,rfl,rfl⟩,h⟩
theorem oN{xs:List X}:J P O ep live Q (⟨some d,.mkm .mkmap xs,none,[]⟩::l) env σ=JM P O ep live Q .mkmap (NE .mkmap (DS env xs)) l d env σ:=Re
theorem Vy{xs:List X}:J P O ep live Q (⟨some d,.mkm .strit xs,none,[]⟩::l) env σ=JM P O ep live Q .strit (NE .strit (DS env xs)) l d env σ:=Re
theorem aQ{t:TypeId}{z:V}{xs:List X}:J P O ep live Q (⟨some d,.mkm (.tnew t z) xs,none,[]⟩::l) env σ=JM P O ep live Q (.tnew t z) (NE (.tnew t z) (DS env xs)) l d env σ:=Re
theorem fR{t:TypeId}{xs:List X}:J P O ep live Q (⟨some d,.mkm (.tbx t) xs,none,[]⟩::l) env σ=JM P O ep live Q (.tbx t) (NE (.tbx t) (DS env xs)) l d env σ:=Re
theorem pJ{f:FuncId}{xs:List X}:J P O ep live Q (⟨some d,.mkm (.cal f) xs,none,[]⟩::l) env σ=Afc P O ep live Q f (DS env xs) l d env σ:=Re
theorem AkH{s x}{e:TypeId}:J P O ep live Q (⟨some d,.apps s x e,none,[]⟩::l) env σ=JWP P O ep live Q (Nr σ (Bd env s)+OQ (Bd env x)<=AM) (Wu σ (ep,d) e (Bd env s) (Bd env x)) l d env:=by
 unfold J JWP;refine propext (CE.trans ?_);simp only[E,put,Bd];constructor
 .rintro⟨v,σ',⟨A,b,u,w,rfl,j⟩,h⟩;cases u;rw[w];split at j
  .rename_i i;obtain⟨o,rfl⟩:=j;rw[i];exact⟨(((ep,d),.arr e 1 (Az b))::σ,.arr (ep,d)),rfl,by simpa[Nr,OQ] using o,h⟩
  .rename_i id i;obtain⟨es,o,y,rfl⟩:=j;rw[i];exact⟨(((ep,d),.arr e 1 (es++Az b))::del σ id,.arr (ep,d)),by simp[Wu,Oa,o,S2],by simpa[Nr,Tm,OQ,o] using y,h⟩
  .exact j.elim
 .rintro⟨q,g,hp,h⟩;unfold Wu at g;split at g
  .rename_i b p;rw[p] at hp;unfold Oa at g;split at g
   .rename_i i;cases g;refine⟨_,_,⟨d,b,rfl,p,rfl,?_⟩,h⟩;rw[i] at hp⊢;exact⟨by simpa[Nr,OQ] using hp,rfl⟩
   .rename_i id i;unfold S2 at g;split at g
    .rename_i e' sz es r;split at g
     .rename_i z;obtain⟨rfl,rfl⟩:=z;cases g;refine⟨_,_,⟨d,b,rfl,p,rfl,?_⟩,h⟩;rw[i] at hp⊢;exact⟨es,r,by simpa[Nr,Tm,OQ,r] using hp,rfl⟩
     .cases g
    .cases g
   .cases g
  .cases g
theorem jI{p q}:JWP P O ep live Q p (some q) l d env=JP P O ep live Q p l ((d,q.2)::env) q.1:=by unfold JWP;grind
theorem Aqk{x j sz}:J P O ep live Q (⟨some d,.slT x j sz,none,[]⟩::l) env σ=JW P O ep live Q (Aaw σ (ep,d) sz (Bd env j) (Bd env x)) l d env:=by
 unfold J JW;refine propext (CE.trans ?_);simp only[E,put,Bd,FR];constructor
 .rintro⟨v,σ',⟨y,id,e,es,q,i,o,p,A,B,rfl,rfl⟩,h⟩;cases i;refine⟨(((ep,d),.arr e sz (es.take q))::del σ id,.arr (ep,d)),?_,h⟩;rw[o];simp only[Aaw,p,fX,Agp];grind
 .rintro⟨q,g,h⟩;unfold Aaw at g;split at g
  .rename_i id s;unfold fX at g;split at g
   .rename_i e w es r;split at g
    .rename_i u;subst u;split at g
     .rename_i k n C;split at g
      .rename_i z;split at g
       .rename_i i;cases g;exact⟨_,_,⟨d,id,e,es,n.toNat,rfl,s,r,by grind,i,rfl,rfl⟩,h⟩
       .cases g
      .cases g
     .cases g
    .cases g
   .cases g
  .cases g
theorem vQ{e id sz h}:Aaw σ e sz h (.arr id)=fX σ id e sz h (lk σ id):=rfl
theorem cN{g id sz h k n e es}:fX σ id g sz (.i k n) (some (.arr e h es))=if h=sz then(if 0<=n then(if n.toNat<=es.length then some ((g,.arr e sz (es.take n.toNat))::del σ id,.arr g) else none) else none) else none:=rfl
theorem zY{g e s b}:Wu σ g e s (.s b)=Oa σ g e b s:=rfl
theorem ZU{g e b}:Oa σ g e b .nil=some ((g,.arr e 1 (Az b))::σ,.arr g):=rfl
theorem aZ{g id e b}:Oa σ g e b (.arr id)=S2 σ id g e b (lk σ id):=rfl
theorem cG{g id e e' sz es b}:S2 σ id g e b (some (.arr e' sz es))=if e'=e/\sz=1 then some ((g,.arr e 1 (es++Az b))::del σ id,.arr g) else none:=rfl
theorem aA:Nr σ .nil=0:=rfl
theorem YG{id}:Nr σ (.arr id)=Tm (lk σ id):=rfl
theorem ZI{e sz es}:Tm (some (.arr e sz es))=es.length:=rfl
theorem Abl{b}:OQ (.s b)=b.length:=rfl
theorem On{c}:cells c=[c]↔QV c=false:=by
 cases c<;>simp[cells,QV];rename_i cs
 match cs with
 | []=>simp
 | [x]=>
  intro h;have e:x=.agg [x]:=by simpa using h
  have g:SizeOf.sizeOf x=SizeOf.sizeOf (V.agg [x]):=by rw[<-e]
  simp at g;omega
 | _::_::_=>simp
theorem An9{m k}:J P O ep live Q (⟨some d,.frz m k,none,[]⟩::l) env σ=JW P O ep live Q (AaH σ k (Bd env m)) l d env:=by
 unfold J JW;refine propext (CE.trans ?_);simp only[E,put,Bd];constructor
 .rintro⟨v,σ',⟨id,cs,g,i,j,o,rfl,rfl⟩,h⟩;refine⟨(del σ id,.sl cs),?_,h⟩;rw[g];simp only[AaH,i,pX];rw[Aiv ⟨j,As7.2 λc e=>by rw[On.1 (o c e)];rfl⟩]
 .rintro⟨p,hp,h⟩;unfold AaH at hp;split at hp
  .rename_i id s;unfold pX at hp;split at hp
   .rename_i cs r;split at hp
    .rename_i e;cases hp;exact⟨_,_,⟨id,cs,s,r,e.1,λc q=>On.2 (by grind),rfl,rfl⟩,h⟩
    .cases hp
   .cases hp
  .cases hp
theorem dH{m}:J P O ep live Q (⟨some d,.mrange m,none,[]⟩::l) env σ=JW P O ep live Q (LK σ (ep,d) (Bd env m)) l d env:=by
 unfold J JW;refine propext (CE.trans ?_);simp only[E,put,Bd];constructor
 .rintro⟨v,σ',⟨q,mid,es,e,g,i,rfl,rfl⟩,h⟩;cases e;refine⟨(((ep,d),.mit mid es.length [] es.length)::σ,.arr (ep,d)),?_,h⟩;rw[g];simp only[LK,i,JK]
 .rintro⟨p,hp,h⟩;unfold LK at hp;split at hp
  .rename_i mid o;unfold JK at hp;split at hp
   .rename_i es j;cases hp;exact⟨_,_,⟨d,mid,es,rfl,o,j,rfl,rfl⟩,h⟩
   .cases hp
  .cases hp
theorem tL{m}:J P O ep live Q (⟨some d,.mentry m,none,[]⟩::l) env σ=JL P O ep live Q True (Kb σ (Bd env m)) l d env σ:=by
 unfold J JL;refine propext (CE.trans ?_);simp only[E,put,Bd,Azz];constructor
 .rintro⟨v,σ',⟨id,mid,e,seen,i,es,j,o,w,p,q,r,rfl,rfl⟩,h⟩;have:Kb σ' (ev (get env) m)=some (.tup [j.1,j.2]):=by rw[o];simp[Kb,Jk,Kc,w,p,q,r]
  rw[this];exact⟨rfl,h⟩
 .rintro⟨o,h⟩;have ⟨v,hv⟩:=Aw9.1 o;rw[hv] at h;unfold Kb at hv;split at hv
  .rename_i id z;unfold Jk at hv;split at hv
   .rename_i mid e seen g y;unfold Kc at hv;split at hv
    .rename_i es s;split at hv
     .rename_i u;subst u;have ⟨i,p,q⟩:=AjD.1 hv;have ⟨j,r,h6⟩:=Amd.1 q;subst h6;exact⟨_,_,⟨id,mid,e,seen,i,es,j,z,y,p,s,r,rfl,rfl⟩,h⟩
     .cases hv
    .cases hv
   .cases hv
  .cases hv
theorem nB{id n}:AaH σ n (.ref id 0)=pX σ id n (lk σ id):=rfl
theorem gN{id n cs}:pX σ id n (some (.box (.agg cs)))=if cs.length=n/\cs.all (λc=>!QV c)=true then some (del σ id,.sl cs) else none:=rfl
theorem Rt{e mid}:LK σ e (.arr mid)=JK σ e mid (lk σ mid):=rfl
theorem SN{e mid es}:JK σ e mid (some (.map es))=some ((e,.mit mid es.length [] es.length)::σ,.arr e):=rfl
theorem Rw{id}:Kb σ (.arr id)=Jk σ (lk σ id):=rfl
theorem SD{mid g e seen}:Jk σ (some (.mit mid g seen e))=Kc seen.getLast? e (lk σ mid):=rfl
theorem Tj{i e es}:Kc i e (some (.map es))=if e=es.length then i.bind λi=>(es[i]?).map λg=>.tup [g.1,g.2] else none:=rfl
theorem gC{e}:FT (.isnil e) [.nil]=some (.b (!e)):=rfl
theorem xW{e}:FT (.isnil e) [.sl []]=some .ub:=rfl
theorem eO{e x xs}:FT (.isnil e) [.sl (x::xs)]=some (.b e):=rfl
theorem Apr{t}:QV (.b t)=false:=rfl
theorem ArO{k n}:QV (.i k n)=false:=rfl
theorem Arx{s}:QV (.s s)=false:=rfl
theorem AaB{τ v}:JW P O ep live Q (some (τ,v)) l d env=J P O ep live Q l ((d,v)::env) τ:=by unfold JW;simp
theorem AcP{k e}:JM P O ep live Q k (some e) l d env σ=J P O ep live Q l ((d,iJ k (ep,d))::env) (((ep,d),e)::σ):=by unfold JM;simp
theorem AaC{k xs id}:rdV σ k xs (.arr id)=cH k xs (lk σ id):=rfl
theorem Abu{k xs id}:wrV σ k xs (.arr id)=wrO σ id k xs (lk σ id):=rfl
theorem yA{e z ok es k}:cH (.mget e z ok) [k] (some (.map es))=(Bp e k es 0).map λr=>match r with
  | some (_,v)=>if ok then .tup [v,.b true] else v
  | none=>if ok then .tup [z,.b false] else z:=rfl
theorem u9{es}:cH .mlen [] (some (.map es))=some (.i .i64 es.length):=rfl
theorem lP{g id es k v}:wrO σ id (.mput g) [k,v] (some (.map es))=(Bp g k es 0).map λr=>match r with
  | some (i,_)=>(upd σ id (.map (es.modify i λe=>(e.1,v))),.tup [])
  | none=>(upd σ id (.map (es++[(k,v)])),.tup []):=by
 simp only[wrO,kU,AzD,Option.map_map];congr 1;grind
theorem oB{id s e}:wrO σ id .next [] (some (.it s e))=if e<s.length then some (upd σ id (.it s (e+(Utf8.decode ⟨s.toArray⟩ e).2)),.tup [.b true,.i .i64 e,.i .i32 (Utf8.decode ⟨s.toArray⟩ e).1]) else some (upd σ id (.it s e),.tup [.b false]):=by simp only[wrO,kU,AzD];split<;>rfl
theorem AbZ{id}:iJ .mkmap id=.arr id:=rfl
theorem Alo{id}:iJ .strit id=.arr id:=rfl
theorem rV{t z id}:iJ (.tnew t z) id=.ref id 0:=rfl
theorem AbW{t id}:iJ (.tbx t) id=.ref id 0:=rfl
theorem pT{t z}:NE (.tnew t z) []=some (.tbox t z):=rfl
theorem Aa3{t x}:NE (.tbx t) [x]=if x.ok=true then some (.tbox t x) else none:=rfl
theorem Aaj:NE .mkmap []=some (.map []):=rfl
theorem Ah8{s}:NE .strit [.s s]=some (.it s 0):=rfl
theorem wL{k n}:FT .itos [.i k n]=some (.s (Utf8.encode n).data.toList):=rfl
theorem xI{es}:FT .btos [.sl es]=(CD es).map .s:=rfl
theorem ZD:FT .btos [.nil]=some (.s []):=rfl
theorem wE{n sz e id k i}:FT (.aidx n sz) [.ref id e,.i k i]=if 0<=i/\i<(n:Int) then some (.ref id (e+i.toNat*sz)) else none:=rfl
theorem Avi{d g s e ap}:J P O ep live Q (⟨d,g,some (s,e),ap⟩::l) env σ=T5 P O ep live Q (get env s) e d g ap l env σ:=by
 unfold J T5;simp only[J,Aw,C9,IP];cases get env s with
 | tup l=>cases l<;>rfl
 | _=>rfl
theorem sZ{d e ap}:T5 P O ep live Q (.b true) true d e ap l env σ=J P O ep live Q (⟨d,e,none,ap⟩::l) env σ:=by simp[T5,IP]
theorem oY{d e ap}:T5 P O ep live Q (.b false) false d e ap l env σ=J P O ep live Q (⟨d,e,none,ap⟩::l) env σ:=by simp[T5,IP]
theorem sO{d e ap}:T5 P O ep live Q (.b true) false d e ap l env σ=J P O ep live Q l (put env d (.tup [])) σ:=by simp[T5,IP]
theorem oC{d e ap}:T5 P O ep live Q (.b false) true d e ap l env σ=J P O ep live Q l (put env d (.tup [])) σ:=by simp[T5,IP]
theorem Ana{d e ap w}:T5 P O ep live Q (.tup []) w d e ap l env σ=J P O ep live Q l (put env d (.tup [])) σ:=by simp[T5,IP]
theorem Af{d e ap t}(g:t=true->J P O ep live Q (⟨d,e,none,ap⟩::l) env σ)(h:t=false->J P O ep live Q l (put env d (.tup [])) σ):T5 P O ep live Q (.b t) true d e ap l env σ:=by
 cases t
 .rw[oC];exact h rfl
 .rw[sZ];exact g rfl
theorem Ag{d e ap t}(g:t=false->J P O ep live Q (⟨d,e,none,ap⟩::l) env σ)(h:t=true->J P O ep live Q l (put env d (.tup [])) σ):T5 P O ep live Q (.b t) false d e ap l env σ:=by
 cases t
 .rw[oY];exact g rfl
 .rw[sO];exact h rfl
theorem Yg{g}{ys:List X}:∀{ap:List X},(∀x∈ap,∀y∈ys,∀id,Ci (ev g x)=some id->Ci (ev g y)≠some id)↔yN (ap.map (ev g)) (ys.map (ev g))
 | []=>by simp[yN]
 | x::ap=>by have:=Yg (g:=g) (ys:=ys) (ap:=ap);simp only[Am1,yN,<-this,Auy,forall_eq_or_imp,Awt,forall_exists_index,and_imp,forall_apply_eq_imp_iff₂]
theorem AnS{d e x ap}(g:e.cl=false):J P O ep live Q (⟨d,e,none,x::ap⟩::l) env σ=JP P O ep live Q (yN (DS env (x::ap)) (DS env e.cs)) (⟨d,e,none,[]⟩::l) env σ:=by unfold J JP;refine propext ((Av7 g).trans ?_);rw[show cF ⟨d,e,none,x::ap⟩ (get env)↔yN (DS env (x::ap)) (DS env e.cs) from Yg];rfl
theorem AjV{f args}:J P O ep live Q (⟨some d,.call f args,none,[]⟩::l) env σ=To P O ep live Q f (DS env args) l d env σ:=by unfold J To;refine propext (CE.trans ?_);simp only[E,put,DS];exact⟨λ⟨v,_,⟨e,rfl⟩,g⟩=>⟨v,e,g⟩,λ⟨v,e,g⟩=>⟨v,_,⟨e,rfl⟩,g⟩⟩
theorem Ab8{f args}:J P O ep live Q (⟨some d,.calls f args,none,[]⟩::l) env σ=G7 P O ep live Q f (DS env args) l d env σ:=by unfold J G7;refine propext (CE.trans ?_);simp only[E,put,DS];exact⟨λ⟨v,_,⟨σi,σo,e,h,rfl⟩,g⟩=>⟨v,σi,σo,e,h,g⟩,λ⟨v,σi,σo,e,h,g⟩=>⟨v,_,⟨σi,σo,e,h,rfl⟩,g⟩⟩
theorem AcA{f args}:J P O ep live Q (⟨some d,.callr f args,none,[]⟩::l) env σ=V5 P O ep live Q f (DS env args) l d env σ:=by unfold J V5;refine propext (CE.trans ?_);simp only[E,put,DS];exact⟨λ⟨v,_,⟨⟨σi,e,h⟩,rfl⟩,g⟩=>⟨v,σi,e,h,g⟩,λ⟨v,σi,e,h,g⟩=>⟨v,_,⟨⟨σi,e,h⟩,rfl⟩,g⟩⟩
theorem AbM{f args}:J P O ep live Q (⟨some d,.calln f args,none,[]⟩::l) env σ=TS P O ep live Q f (DS env args) l d env σ:=by unfold J TS;refine propext (CE.trans ?_);simp only[E,put,DS];exact⟨λ⟨v,_,⟨dd,σi,σo,x,hd,e,h,hv,rfl⟩,g⟩=>by cases hd;subst hv;exact⟨x,σi,σo,e,h,g⟩,λ⟨x,σi,σo,e,h,g⟩=>⟨_,_,⟨d,σi,σo,x,rfl,e,h,rfl,rfl⟩,g⟩⟩
theorem lR{x args}:J P O ep live Q (⟨some d,.callvs x args,none,[]⟩::l) env σ=L9 P O ep live Q (Bd env x) (DS env args) l d env σ:=by
 unfold J;refine propext (CE.trans ?_);simp only[E,put];constructor
 .rintro⟨v,_,⟨⟨f,first,e,σi,σo,o,g,j,rfl⟩,i⟩⟩;unfold L9 Bd;rw[o];exact⟨v,σi,σo,g,j,i⟩
 .intro h;unfold L9 Bd at h;split at h
  .rename_i f first e o
   have ⟨v,σi,σo,g,j,i⟩:=h;exact⟨v,_,⟨f,first,e,σi,σo,o,g,j,rfl⟩,i⟩
  .cases h
theorem U4{d x y n z ap}:J P O ep live Q (⟨d,.store x y n,none,z::ap⟩::l) env σ=JP P O ep live Q (yN (DS env (z::ap)) (DS env (AQ.store x y n).cs)) (⟨d,.store x y n,none,[]⟩::l) env σ:=AnS rfl
theorem aF{d x n b z ap}:J P O ep live Q (⟨d,.load x n b,none,z::ap⟩::l) env σ=JP P O ep live Q (yN (DS env (z::ap)) (DS env (AQ.load x n b).cs)) (⟨d,.load x n b,none,[]⟩::l) env σ:=AnS rfl
theorem U1{f first e vs g}:Aad P O ep live Q (.fn f first e) vs g l d env σ=Yl P O ep live Q f (first++vs++e) g l d env σ:=rfl
theorem ZK{f first e vs}:Aku P O ep live Q (.fn f first e) vs l d env σ=To P O ep live Q f (first++vs++e) l d env σ:=rfl
theorem V0{f first e vs}:L9 P O ep live Q (.fn f first e) vs l d env σ=G7 P O ep live Q f (first++vs++e) l d env σ:=rfl
theorem Ab{f vs v}(h:An P O f vs [] v [])(e:J P O ep live Q l ((d,v)::env) σ):To P O ep live Q f vs l d env σ:=⟨v,h,e⟩
theorem Wg{f vs v σi}(h:An P O f vs σi v σi)(i:∀id e,lk σi id=some e->lk σ id=some e)(g:J P O ep live Q l ((d,v)::env) σ):V5 P O ep live Q f vs l d env σ:=⟨v,σi,h,i,g⟩
theorem BJ{f vs v σi σo}(h:An P O f vs σi v σo)(i:∀id e,lk σi id=some e->lk σ id=some e)(g:J P O ep live Q l ((d,v)::env) (over σi σo σ)):G7 P O ep live Q f vs l d env σ:=⟨v,σi,σo,h,i,g⟩
theorem PX{f vs x σi σo}(h:HB P O f vs σi x σo)(i:∀id e,lk σi id=some e->lk σ id=some e)(g:J P O ep live Q l ((d,.arr (ep,d))::env) (((ep,d),x)::over σi σo σ)):TS P O ep live Q f vs l d env σ:=⟨x,σi,σo,h,i,g⟩
theorem AjE{f:FuncId}{vs:List V}{x:Be}(h:HB P O f vs [] x [])(e:J P O ep live Q l ((d,.arr (ep,d))::env) (((ep,d),x)::σ)):Afc P O ep live Q f vs l d env σ:=⟨x,h,e⟩
theorem p7{f:FuncId}{vs:List V}{v:V}(h:An P O f vs [] v [])(g:J P O ep live Q l ((d,v)::env) σ):G7 P O ep live Q f vs l d env σ:=by
 refine⟨v,[],[],h,λid e h=>by simp[lk] at h,?_⟩;have:over [] [] σ=σ:=by simp[over,lk]
 rw[this];exact g
end
@[irreducible] def Iq(P:Program)(O:World)(nt:Nat)(c:IC)(Q:Exit->St->Prop)(st:St):Prop:=G4 P O nt (.loop c) Q st
@[irreducible] def Ot(P:Program)(O:World)(nt:Nat)(e g:Nat)(x:X)(live:List Nat)(Q:Exit->St->Prop)(st:St):Prop:=G4 P O nt (.mnext e g x live) Q st
@[irreducible] def WkW(P:Program)(O:World)(nt:Nat)(c:IC)(Q:Exit->St->Prop)(st:St):Prop:=G4 P O nt c Q st
def Hy(P:Program)(O:World)(n:Nat)(d:Nat)(f:FuncId)(vs:List V)(l2:List I)(live:List Nat)(Q:Exit->St->Prop)(env:Bm)(σ:Au):Prop:=
 JI P O n d f vs env σ λe env σ=>J P O e live Q l2 env σ
def Nq(P:Program)(O:World)(d:Nat)(f:FuncId)(args:List X)(l2:List I)(live:List Nat)(Q:Exit->St->Prop):Exit->St->Prop
 | .normal,st=>Hy P O st.n d f (DS st.env args) l2 live Q st.env st.σ
 | _,_=>False
def Qg(P:Program)(O:World)(d g:Nat)(e:Bool)(f:FuncId)(args:List X)(l2:List I)(live:List Nat)(Q:Exit->St->Prop):Exit->St->Prop
 | .normal,st=>gdQ (get st.env g) e (Hy P O st.n d f (DS st.env args) l2 live Q st.env st.σ) (J P O st.n live Q l2 ((d,.tup [])::st.env) st.σ)
 | _,_=>False
def Kd(P:Program)(O:World)(n:Nat)(d:Nat)(h:V)(vs:List V)(l2:List I)(live:List Nat)(Q:Exit->St->Prop)(env:Bm)(σ:Au):Prop:=
 match h with
 | .fn f first e=>Hy P O n d f (first++vs++e) l2 live Q env σ
 | _=>False
def QB(P:Program)(O:World)(d:Nat)(x:X)(args:List X)(l2:List I)(live:List Nat)(Q:Exit->St->Prop):Exit->St->Prop
 | .normal,st=>Kd P O st.n d (Bd st.env x) (DS st.env args) l2 live Q st.env st.σ
 | _,_=>False
def aW(P:Program)(O:World)(nt:Nat):IC->(Exit->St->Prop)->St->Prop
 | .ops l live _,Q,st=>J P O st.n live Q l st.env st.σ
 | .seqr l live,Q,st=>J P O st.n live Q l st.env st.σ
 | .seq a b,Q,st=>aW P O nt a (λe s=>match e with|.normal=>aW P O nt b Q s|e=>Q e s) st
 | .cond c a b,Q,st=>match Bd st.env c with|.b true=>aW P O nt a Q st|.b false=>aW P O nt b Q st|.ub=>aW P O nt a Q st/\aW P O nt b Q st|_=>False
 | .mnext j o x live,Q,st=>Ot P O nt j o x live Q st
 | .block id a,Q,st=>aW P O nt a (Dy id Q) st
 | .loop c,Q,st=>Iq P O nt c Q st
 | .wk c,Q,st=>WkW P O nt c Q st
 | .opx l1 h d f args l2 live,Q,st=>J P O st.n h (Nq P O d f args l2 live Q) l1 st.env st.σ
 | .opxq l1 h d g i f args l2 live,Q,st=>J P O st.n h (Qg P O d g i f args l2 live Q) l1 st.env st.σ
 | .opxd l1 h d f args live _,Q,st=>J P O st.n h (Nq P O d f args [] live Q) l1 st.env st.σ
 | .opxv l1 h d x args l2 live,Q,st=>J P O st.n h (QB P O d x args l2 live Q) l1 st.env st.σ
 | .opxe ..,Q,st=>False
 | .anyr ..,Q,st=>False
 | .exit id,Q,st=>Q (.exit id) st
 | .ret,Q,st=>Q .ret st
 | .skip,Q,st=>Q .normal st
def Nv(P:Program)(O:World)(nt:Nat)(b:IC)(Q:Exit->St->Prop)(e:Exit)(s:St):Prop:=match e with|.normal=>aW P O nt b Q s|e=>Q e s
def Oy(P:Program)(O:World)(nt:Nat)(v:V)(a b:IC)(Q:Exit->St->Prop)(env:Bm)(σ:Au)(n:Nat):Prop:=match v with|.b true=>aW P O nt a Q ⟨env,σ,n⟩|.b false=>aW P O nt b Q ⟨env,σ,n⟩|.ub=>aW P O nt a Q ⟨env,σ,n⟩/\aW P O nt b Q ⟨env,σ,n⟩|_=>False
section
variable{P:Program}{O:World}{nt n:Nat}{Q Q':Exit→St→Prop}{env:Bm}{σ:Au}{a b c:IC}{st:St}
theorem Ai5{l live paths}:aW P O nt (.ops l live paths) Q ⟨env,σ,n⟩=J P O n live Q l env σ:=rfl
theorem Acl{l live}:aW P O nt (.seqr l live) Q ⟨env,σ,n⟩=J P O n live Q l env σ:=rfl
theorem AiR:aW P O nt (.seq a b) Q ⟨env,σ,n⟩=aW P O nt a (Nv P O nt b Q) ⟨env,σ,n⟩:=rfl
theorem Abz{x}:aW P O nt (.cond x a b) Q ⟨env,σ,n⟩=Oy P O nt (Bd env x) a b Q env σ n:=rfl
theorem dV{id}:aW P O nt (.block id a) Q ⟨env,σ,n⟩=aW P O nt a (Dy id Q) ⟨env,σ,n⟩:=rfl
theorem AaX:aW P O nt (.loop c) Q ⟨env,σ,n⟩=Iq P O nt c Q ⟨env,σ,n⟩:=rfl
theorem Arb:aW P O nt (.wk c) Q ⟨env,σ,n⟩=WkW P O nt c Q ⟨env,σ,n⟩:=rfl
theorem Add{id}:aW P O nt (.exit id) Q ⟨env,σ,n⟩=Q (.exit id) ⟨env,σ,n⟩:=rfl
theorem Ajp:aW P O nt .ret Q ⟨env,σ,n⟩=Q .ret ⟨env,σ,n⟩:=rfl
theorem AcZ:aW P O nt .skip Q ⟨env,σ,n⟩=Q .normal ⟨env,σ,n⟩:=rfl
theorem AbP:Oy P O nt (.b true) a b Q env σ n=aW P O nt a Q ⟨env,σ,n⟩:=rfl
theorem zK:Oy P O nt (.b false) a b Q env σ n=aW P O nt b Q ⟨env,σ,n⟩:=rfl
theorem jB:Oy P O nt .ub a b Q env σ n=(aW P O nt a Q ⟨env,σ,n⟩/\aW P O nt b Q ⟨env,σ,n⟩):=rfl
theorem r9{e g x live}:aW P O nt (.mnext e g x live) Q ⟨env,σ,n⟩=Ot P O nt e g x live Q ⟨env,σ,n⟩:=rfl
theorem Ac{t}(e:t=true->aW P O nt a Q ⟨env,σ,n⟩)(g:t=false->aW P O nt b Q ⟨env,σ,n⟩):Oy P O nt (.b t) a b Q env σ n:=by
 cases t
 .exact g rfl
 .exact e rfl
theorem Pm{d f args l2 live}:Nq P O d f args l2 live Q .normal ⟨env,σ,n⟩=Hy P O n d f (DS env args) l2 live Q env σ:=rfl
theorem It{d g e f args l2 live}:Qg P O d g e f args l2 live Q .normal ⟨env,σ,n⟩=gdQ (get env g) e (Hy P O n d f (DS env args) l2 live Q env σ) (J P O n live Q l2 ((d,.tup [])::env) σ):=rfl
theorem NI{d x args l2 live}:QB P O d x args l2 live Q .normal ⟨env,σ,n⟩=Kd P O n d (Bd env x) (DS env args) l2 live Q env σ:=rfl
theorem Uj{d f first e vs l2 live}:Kd P O n d (.fn f first e) vs l2 live Q env σ=Hy P O n d f (first++vs++e) l2 live Q env σ:=rfl
theorem AY{d f vs l2 live σi R}(h:FQ P O f vs σi R)(j:∀id e,lk σi id=some e->lk σ id=some e)
  (i:∀g v σo,n<=g->R n g v σo->J P O g live Q l2 ((d,v)::env) (over σi σo σ)):Hy P O n d f vs l2 live Q env σ:=⟨σi,R,h,j,i⟩
theorem PA:Nv P O nt b Q .normal st=aW P O nt b Q st:=rfl
theorem V3{k}:Nv P O nt b Q (.exit k) st=Q (.exit k) st:=rfl
theorem ZQ:Nv P O nt b Q .ret st=Q .ret st:=rfl
theorem C5:∀{ic Q st},aW P O nt ic Q st->G4 P O nt ic Q st
 | .ops l live paths,Q,st,h=>by
  refine Qx ?_;refine BQ (λenv σ y n' H=>?_) h;have:=y (n'-(st.n+1))
  rwa [AxP H] at this
 | .seqr l live,Q,st,h=>by
  refine wZ ?_;refine BQ (λenv σ y n' H=>?_) h;have:=y (n'-(st.n+1))
  rwa [AxP H] at this
 | .seq a b,Q,st,h=>by
  refine AcE (ST (C5 h) λe s M=>?_);cases e with
  | normal=>exact C5 (ic:=b) M
  | _=>exact M
 | .cond c a b,Q,st,h=>by
  simp only[aW] at h;split at h
  .rename_i F;exact Sn F (λ_=>C5 h) (λh=>by cases h)
  .rename_i F;exact Sn F (λh=>by cases h) (λ_=>C5 h)
  .rename_i F;exact Zh F (C5 h.1) (C5 h.2)
  .cases h
 | .mnext N S x live,Q,st,h=>by have h:Ot P O nt N S x live Q st:=h;unfold Ot at h;exact h
 | .block id a,Q,st,h=>Z9 (C5 (ic:=a) h)
 | .loop c,Q,st,h=>by have h:Iq P O nt c Q st:=h;unfold Iq at h;exact h
 | .wk c,Q,st,h=>by have h:WkW P O nt c Q st:=h;unfold WkW at h;exact Als h
 | .opx l1 i d f args l2 live,Q,st,h=>by
  refine Ado ?_;refine BQ (λenv σ y r q=>?_) (show J P O st.n i (Nq P O d f args l2 live Q) l1 st.env st.σ from h);have j:=y (r-(st.n+1));rw[AxP q] at j;obtain⟨σi,R,z,A,B⟩:=j;refine⟨σi,R,z,A,λu v σo p C=>?_⟩;refine BQ (λenv σ D w o=>?_) (B u v σo p C);have:=D (w-(u+1))
  rwa [AxP o] at this
 | .opxq l1 i d g G f args l2 live,Q,st,h=>by
  refine tH ?_;refine BQ (λenv σ y r q=>?_) (show J P O st.n i (Qg P O d g G f args l2 live Q) l1 st.env st.σ from h);have j:=y (r-(st.n+1));rw[AxP q] at j;rw[It] at j;unfold gdQ at j⊢;have tl:∀{env:Bm} {σ:Au},J P O r live Q l2 env σ->Aw P O r l2 env σ λenv σ=>∀w,r<w->Q .normal ⟨restrict live env,σ,w⟩:=λh=>BQ (λenv σ D w o=>by
   have:=D (w-(r+1))
   rwa [AxP o] at this) h
  split at j
  .rename_i t W;refine⟨λL=>?_,λL=>tl (j.2 L)⟩;obtain⟨σi,R,z,A,B⟩:=j.1 L;refine⟨σi,R,z,A,λu v σo p C=>?_⟩;refine BQ (λenv σ D w o=>?_) (B u v σo p C);have:=D (w-(u+1))
   rwa [AxP o] at this
  .exact tl j
  .exact j.elim
 | .opxd l1 i d f args live paths,Q,st,h=>by
  refine gZ ?_;refine BQ (λenv σ y r q=>?_) (show J P O st.n i (Nq P O d f args [] live Q) l1 st.env st.σ from h);have j:Hy P O (st.n+1+(r-(st.n+1))) d f (DS (restrict i env) args) [] live Q (restrict i env) σ:=y (r-(st.n+1));rw[AxP q] at j;obtain⟨σi,R,z,A,B⟩:=j;refine⟨σi,R,z,A,λu v σo p C w o=>?_⟩;have T:∀k,Q .normal ⟨restrict live ((d,v)::restrict i env),over σi σo σ,u+1+k⟩:=B u v σo p C;have:=T (w-(u+1))
  rwa [AxP o] at this
 | .opxv l1 i d x args l2 live,Q,st,h=>by
  refine sU ?_;refine BQ (λenv σ y r q=>?_) (show J P O st.n i (QB P O d x args l2 live Q) l1 st.env st.σ from h);have j:Kd P O (st.n+1+(r-(st.n+1))) d (Bd (restrict i env) x) (DS (restrict i env) args) l2 live Q (restrict i env) σ:=y (r-(st.n+1));rw[AxP q] at j;unfold Kd at j;split at j
  .rename_i f first E U
   obtain⟨σi,R,z,A,B⟩:=j;refine⟨f,first,E,U,σi,R,z,A,λu v σo p C=>?_⟩;refine BQ (λenv σ D w o=>?_) (B u v σo p C);have:=D (w-(u+1))
   rwa [AxP o] at this
  .exact j.elim
 | .opxe ..,Q,st,h=>False.elim h
 | .anyr ..,Q,st,h=>False.elim h
 | .exit id,Q,st,h=>jA h
 | .ret,Q,st,h=>AbL h
 | .skip,Q,st,h=>qV h
theorem W6{j h s:Nat}{live:List Nat}{id mid:Id}{es:List (V×V)}{seen:List Nat}(u:get env s=.arr id)(r:lk σ id=some (.mit mid es.length seen es.length))(p:lk σ mid=some (.map es))(o:j∉live)(q:j≠h)
  (e:∀i w,es[i]?=some w->i∉seen->Q .normal ⟨restrict live ((h,.b true)::env),upd σ id (.mit mid es.length (seen++[i]) es.length),n+1⟩)
  (g:(∀i,i<es.length->i∈seen)->Q .normal ⟨restrict live ((h,.b false)::env),σ,n+1⟩):Ot P O nt j h (.t s) live Q ⟨env,σ,n⟩:=by
 unfold Ot;exact ZB u r p e g o q
def Aj(O:World)(nt:Nat)(st e:St):Prop:=∀B a w,At O nt B st a w->At O nt B e a w
theorem Aj.refl:Aj O nt st st:=λ_ _ _ h=>h
theorem Aj.trans{e g i}(h:Aj O nt e g)(k:Aj O nt g i):Aj O nt e i:=λB a w x=>k B a w (h B a w x)
theorem cS{ic g}(h:Aj O nt st g)(k:G4 P O nt ic Q g):G4 P O nt ic Q st:=λe j B a w i=>k e j B a w (h B a w i)
def QW(O:World)(nt:Nat)(Q:Exit->St->Prop)(e:Exit)(st:St):Prop:=∃g,Aj O nt st g/\Q e g
theorem Qw{ic}(h:G4 P O nt ic (QW O nt Q) st):G4 P O nt ic Q st:=by intro g p B a w i;refine wp_mono (h g p B a w i) λe a w q=>?_;obtain⟨s,⟨u,j,r⟩,o⟩:=q;exact⟨u,r,j B a w o⟩
def Q0(O:World)(nt:Nat)(Inv:Nat->St->Prop)(m:Nat)(Q:Exit->St->Prop):Exit->St->Prop
 | .normal,st=>∃h g,h<m/\Aj O nt st g/\Inv h g
 | e,st=>Q e st
theorem NK{Inv m}:Q0 O nt Inv m Q .normal st=∃g e,g<m/\Aj O nt st e/\Inv g e:=rfl
theorem SE{Inv m k}:Q0 O nt Inv m Q (.exit k) st=Q (.exit k) st:=rfl
theorem TH{Inv m}:Q0 O nt Inv m Q .ret st=Q .ret st:=rfl
theorem Ak{Inv} m (h:∃i,Aj O nt st i/\Inv m i)(g:∀m st,Inv m st->aW P O nt c (Q0 O nt Inv m Q) st):Iq P O nt c Q st:=by
 unfold Iq;have ⟨i,hle,hinv⟩:=h;refine cS hle (qI (Inv:=Inv) (λm st o=>?_) m hinv);refine Qw (ST (C5 (g m st o)) λe s j=>?_);cases e with
 | normal=>have ⟨m',s',h1,h2,h3⟩:=j;exact⟨s',h2,m',h1,h3⟩
 | _=>exact⟨s,Aj.refl,j⟩
theorem GZ{e:St}(h:Aj O nt st e)(k:aW P O nt c Q e):WkW P O nt c Q st:=by unfold WkW;exact cS h (C5 k)
def NU(O:World)(nt:Nat)(e:List R)(vs:List V)(σ':Au):Exit->St->Prop:=QW O nt (Fin e vs σ')
def AfX(O:World)(nt s:Nat)(x:Be)(σ':Au):Exit->St->Prop:=QW O nt (ArJ s x σ')
theorem Ah{f ic o}(j:Ar P f nt ic o=true){args}(g:args.length<=nt){σ σ' vs}(i:∀id,lk σ' id≠none->lk σ id≠none)
  (h:∀n,(∀id e,lk σ id=some e->id.1<n)->aW P O nt ic (NU O nt o vs σ') ⟨params 0 args,σ,n⟩):An P O f args σ (IX vs) σ':=
 AhN j g i λn p=>Qw (C5 (h n p))
def Apl(O:World)(nt:Nat)(e:List R)(R:Nat->Nat->V->Au->Prop)(n0:Nat):Exit->St->Prop:=QW O nt (Asq e R n0)
theorem Ct{f ic j}(i:Ar P f nt ic j=true){args}(g:args.length<=nt){σ R}
  (h:∀n,(∀id e,lk σ id=some e->id.1<n)->aW P O nt ic (Apl O nt j R n) ⟨params 0 args,σ,n⟩):FQ P O f args σ R:=
 AcO i g λn o=>Qw (C5 (h n o))
theorem P2{f ic s}(j:Ar P f nt ic [.t s]=true){args}(g:args.length<=nt){σ σ' x}(i:∀id,lk σ' id≠none->lk σ id≠none)
  (h:∀n,(∀id e,lk σ id=some e->id.1<n)->aW P O nt ic (AfX O nt s x σ') ⟨params 0 args,σ,n⟩):HB P O f args σ x σ':=
 AjY j g i λn o=>Qw (C5 (h n o))
theorem Ae{s:Nat}{v:V}(h:get env s=v):NU O nt [.t s] [v] [] .ret ⟨env,σ,n⟩:=⟨_,Aj.refl,⟨h,trivial⟩,λid e h=>by simp[lk] at h⟩
theorem AC{s:Nat}{v:V}{σ':Au}(h:get env s=v)(g:∀id e,lk σ' id=some e->lk σ id=some e):NU O nt [.t s] [v] σ' .ret ⟨env,σ,n⟩:=⟨_,Aj.refl,⟨h,trivial⟩,g⟩
theorem Db σ:over σ σ σ=σ:=by
 have:∀(p:Id×Be),p∈σ->(lk σ p.1).isNone=false:=by
  intro p hp
  induction σ with
  | nil=>cases hp
  | cons q σ e=>grind[lk]
 unfold over;rw[A0z.2 (λp hp=>by simp[this p hp]),AmY]
theorem Aj.weak φ {env' σ' n'}
  (j:∀id es,φ id=some es->(∃e sz,lk σ id=some (.arr e sz es))/\lk σ' id=none)
  (g:∀s,LL φ (get env s) (get env' s))(i:∀id e',lk σ' id=some e'->∃e,lk σ id=some e/\M0 φ e e')(o:n<=n'):Aj O nt ⟨env,σ,n⟩ ⟨env',σ',n'⟩:=
 λB a w h=>h.weak φ j g i o
theorem Aj.own{s e sz k:Nat}(C:get env s=.nil):Aj O nt ⟨env,σ,n⟩ ⟨(s,.arr (n,k))::env,((n,k),.arr e sz [])::σ,n+1⟩:=by
 intro B a w y;obtain⟨μ,H,r,hp,A,q,o⟩:=y;have g:μ (n,k)=none:=hp.bd _ (AfJ _);have j:=BE (v:=.slice none 0 0) g;have i:=(hp.more (Aw0 n)).new_ (n':=n+1) (w':=w) (R:=λ_=>False) ⟨rfl,rfl,rfl,AfJ _,λ_ _ _=>rfl⟩ (λ_ h=>h.elim) (σ1:=σ) (λid e h=>⟨h,λ_ _ h=>h⟩) (id:=(n,k)) (e:=.arr e sz []) (val:=.slice none 0 0) g (Adx _) (AfJ _) (λF z=>by simp[Cc] at z)
  ⟨.slice none 0 0,[],Ax _ _ _,rfl,A0f w _ e sz,Aul _,(λx D=>by cases D),AO.nil_⟩
 refine⟨_,H,⟨r.size,r.defers,λE=>?_⟩,i.1,A.trans i.2,λid p u=>?_,AvD o (Aw0 _)⟩
 .simp only[get];split
  .rename_i u;subst u;have:=r.at_ s;simp only[C] at this;rw[this.nil_inv];exact .arr _ _ (Ax _ _ _) rfl
  .exact(r.at_ E).mono j (λ_ _ h=>h)
 .simp only at o;rw[Cd _ _ (by rintro rfl;simp at p;omega)];exact q id p u
theorem Aj.drop{σ':Au}{n':Nat}(h:∀id e,lk σ' id=some e->lk σ id=some e)(i:n<=n'):Aj O nt ⟨env,σ,n⟩ ⟨env,σ',n'⟩:=
 Aj.weak (λ_=>none) (λ_ _ h=>by cases h) (λ_=>.refl _) (λid e' g=>⟨e',h id e' g,.refl _⟩) i
end
end Go.Ir
end
section
namespace Go.Ir
theorem AbB{ys}:yN [] ys=True:=rfl
theorem eJ{x xs ys}:yN (x::xs) ys=((∀y∈ys,∀id,Ci x=some id->Ci y≠some id)/\yN xs ys):=rfl
def o1(d:Nat)(e:AQ):I:=⟨some d,e,none,[]⟩
def o0(e:AQ):I:=⟨none,e,none,[]⟩
def m1(d x:Nat):I:=⟨some d,.mv (.t x),none,[]⟩
def ci(z:Int):X:=.c (.i .i64 z)
def mZ(d:Nat)(z:Int):I:=⟨some d,.mv (.c (.i .i64 z)),none,[]⟩
def mC(d:Nat)(v:V):I:=⟨some d,.mv (.c v),none,[]⟩
def l1(d s:Nat):I:=⟨some d,.load (.t s) 1 false,none,[]⟩
def lA(d s n:Nat):I:=⟨some d,.load (.t s) n true,none,[]⟩
def fA(d s k:Nat):I:=⟨some d,.faddr (.t s) k,none,[]⟩
def xT(d s k:Nat):I:=⟨some d,.ext (.t s) k,none,[]⟩
def bT(d:Nat)(o:BinOp)(a b:Nat):I:=⟨some d,.bin o (.t a) (.t b),none,[]⟩
def bZ(d:Nat)(o:BinOp)(a:Nat)(z:Int):I:=⟨some d,.bin o (.t a) (.c (.i .i64 z)),none,[]⟩
def bC(d:Nat)(o:BinOp)(a:Nat)(v:V):I:=⟨some d,.bin o (.t a) (.c v),none,[]⟩
def q1(d f a:Nat):I:=⟨some d,.call f [.t a],none,[]⟩
def q2(d f a b:Nat):I:=⟨some d,.call f [.t a,.t b],none,[]⟩
def q3(d f a b c:Nat):I:=⟨some d,.call f [.t a,.t b,.t c],none,[]⟩
def pO(d a b:Nat):I:=⟨some d,.pick (.t a) (.c (.b true)) (.t b),none,[]⟩
def pA(d a b:Nat):I:=⟨some d,.pick (.t a) (.t b) (.c (.b false)),none,[]⟩
def nL(d s:Nat):I:=⟨some d,.lenL (.t s),none,[]⟩
def nS(d s:Nat):I:=⟨some d,.lenS (.t s),none,[]⟩
def nT(d s:Nat):I:=⟨some d,.not (.t s),none,[]⟩
def nC(d s:Nat):I:=⟨some d,.nilck (.t s),none,[]⟩
def bX(d s:Nat):I:=⟨some d,.box (.t s),none,[]⟩
def iA(d a b e z:Nat):I:=⟨some d,.iaddr (.t a) (.t b) e z,none,[]⟩
def sT(a b n:Nat):I:=⟨none,.store (.t a) (.t b) n,none,[]⟩
def gT(d g:Nat)(o:AQ):I:=⟨some d,o,some (g,true),[]⟩
def gF(d g:Nat)(o:AQ):I:=⟨some d,o,some (g,false),[]⟩
def B0(d g s:Nat):I:=⟨some d,.mv (.t s),some (g,true),[]⟩
def Bn(d g s:Nat):I:=⟨some d,.mv (.t s),some (g,false),[]⟩
def Dm(d g s:Nat):I:=⟨some d,.load (.t s) 1 false,some (g,true),[]⟩
def CM(d g s:Nat):I:=⟨some d,.load (.t s) 1 false,some (g,false),[]⟩
def D0(d g s k:Nat):I:=⟨some d,.faddr (.t s) k,some (g,true),[]⟩
def CG(d g s k:Nat):I:=⟨some d,.faddr (.t s) k,some (g,false),[]⟩
def Dn(d g:Nat)(o:BinOp)(a:Nat)(z:Int):I:=⟨some d,.bin o (.t a) (.c (.i .i64 z)),some (g,true),[]⟩
def Dv(d g:Nat)(o:BinOp)(a:Nat)(z:Int):I:=⟨some d,.bin o (.t a) (.c (.i .i64 z)),some (g,false),[]⟩
def oP(l:List I)(v:List Nat):IC:=.ops l v []
def oR(l:List I)(v:List Nat):IC:=.seq (.ops l v []) .ret
def oS(l:List I)(v:List Nat)(b:IC):IC:=.seq (.ops l v []) b
def rS(l:List I)(v:List Nat)(b:IC):IC:=.seq (.seqr l v) b
def sQ(a b:IC):IC:=.seq a b
def cD(n:Nat)(a b:IC):IC:=.cond (.t n) a b
theorem bq:(!true)=false/\(!false)=true/\(∀b,(true||b)=true)/\(∀b,(false||b)=b)/\(∀b,(b||true)=true)/\(∀b,(b||false)=b)/\(∀b,(true&&b)=b)/\(∀b,(false&&b)=false)/\(∀b,(b&&true)=b)/\(∀b,(b&&false)=false)/\((false=true)=False):=by simp
theorem AJ{c d:IC}(h:c=d)(P:Program)(O:World)(nt:Nat)(Q:Exit->St->Prop)(env:Bm)(σ:Au)(n:Nat):aW P O nt c Q ⟨env,σ,n⟩=aW P O nt d Q ⟨env,σ,n⟩:=by rw[h]
theorem Ao{c d p}(h:c=d)(q:p):(∀P O nt Q env σ n,aW P O nt c Q ⟨env,σ,n⟩=aW P O nt d Q ⟨env,σ,n⟩)/\p:=⟨AJ h,q⟩
section
variable{P:Program}{O:World}{nt n d f:Nat}{Q:Exit→St→Prop}{env:Bm}{σ:Au}{l1 l2:List I}{v1 v:List Nat}{x:X}{args:List X}{ps:List (List Nat)}
theorem Aka:aW P O nt (.opx l1 v1 d f args l2 v) Q ⟨env,σ,n⟩=J P O n v1 (Nq P O d f args l2 v Q) l1 env σ:=rfl
theorem zO{g e}:aW P O nt (.opxq l1 v1 d g e f args l2 v) Q ⟨env,σ,n⟩=J P O n v1 (Qg P O d g e f args l2 v Q) l1 env σ:=rfl
theorem AcB:aW P O nt (.opxv l1 v1 d x args l2 v) Q ⟨env,σ,n⟩=J P O n v1 (QB P O d x args l2 v Q) l1 env σ:=rfl
theorem Ac3:aW P O nt (.opxd l1 v1 d f args v ps) Q ⟨env,σ,n⟩=J P O n v1 (Nq P O d f args [] v Q) l1 env σ:=rfl
end
attribute [push_cast] put params Am1 Asz Agp AfT AxV AzG jP dA tC jS HA lk upd del EX DJ sub QZ AvN Option.getD_some AzD Ayx and_true Azz A0P Int.natCast_nonneg Int.zero_le_ofNat Azu AxR Aa8 Adu AzB A0c Agw Amo Ain Ace And A0l and_self and_false false_and AxJ Ax4 AwE AxO Aub AsT AmY AbT AtW AbY AvM AcC AuV cB Aje kV Apt Zb Aid Zd AlH bE AlW V4 AcX dB Apz xZ Aqc xV ApP rQ ArS kW AnL AbC Aqo Aof An1 Ar6 Aoq Ant Anc cP Uy Aan bR Tt l7 AbD YW AjU Alx ZP Vl Um ZO YR Uq UN YQ tF Vd TM Rk UJ Ajn gD Ajo z7 AjK Ac7 iD cQ oA iK Vv Rd S7 TO Aju AiN Ait AkK nD Sd Ak5 AmR Aqq AcN wR Acx jF aK UL YA aC Zl Un By AaV Q9 NN Nu Q4 QY QK U9 a7 AtD Aiw Anx Aor Aop Ap3 Adj AbJ Aq4 AlD AcD Ao5 Ab4 zW Alq Ajm AqZ Aon AhC Ajs Aok Aqp Alr At4 Abk Asn AcQ Acy AcK AaB AcP Avi sZ oY sO oC Ana U4 aF AjV Ab8 AcA AbM lR U1 ZK V0 Atm AoF Ap5 Adk Adr ArN Aiu Ard oN Vy aQ fR pJ AaC Abu yA u9 lP oB Aaj Ah8 AbZ Alo rV AbW pT Aa3 wL xI ZD wE gC xW eO Apr ArO Arx An9 AkH Aqk vQ cN jI zY ZU aZ cG aA YG ZI Abl dH tL nB gN Rt SN Rw SD Tj jB r9 Ax5 Az0 Bool.and_self AmS Ai5 AiR Abz dV AaX Arb Add Ajp AcZ AbP zK Pm NI Uj PA V3 ZQ NK SE TH Ai9 AQ.cs AbB eJ o1 o0 m1 ci mZ mC l1 lA fA xT bT bZ bC q1 q2 q3 pO pA nL nS nT nC bX iA sT gT gF B0 Bn Dm CM D0 CG Dn Dv oP oR oS rS sQ cD Aka zO It AcB Ac3 Acl decide_true decide_false
end Go.Ir
end
section
namespace Go.Ir
open Go.Proofs Go.RowKit
section
variable{P:Program}{O:World}
theorem NH{f0 T u u' id off}(hcal:callable P f0=true)(hc:(cells u)[off]?=some .np)(hset:DJ u off 1 (.ref id off)=some u')
  (fresh:∀(b) (w),w.cell? ⟨b,off,none⟩=some (.pointer none)->w.shape? b=some (T,(cells u).length)->w.frozen? ⟨b,off,none⟩=false->off<(cells u).length->
   Calls P f0 #[.pointer (some ⟨b,off,none⟩)] w fun e w'=>e=.returned (.tuple #[])/\w'=w.setCell ⟨b,off,none⟩ (.pointer (some ⟨b,off,none⟩))) :
  An P O f0 [.ref id off] [(id,.tbox T u)] (.tup []) [(id,.tbox T u')] where
 callable:=hcal
 dom:=fun i hi=>by
  simp only[lk] at hi⊢
  grind
 run:=by
  intro n w μ H vals hp hargs
  have hl:lk [(id,Be.tbox T u)] id=some (.tbox T u):=by simp[lk]
  obtain⟨hl1,hfit,hcells⟩:=GH hset
  have hoff:off<(cells u).length:=by omega
  have hund:∀{μ:Id->Option Value} {H:Addr->Option Value},Aq μ H (.tup []) (.tuple #[]):=.tup [] [] rfl (fun k c v hk=>by simp at hk)
  obtain⟨x,rfl,hx⟩:=hargs.one_
  obtain⟨bk,hm,rfl⟩:=hx.ref_inv
  obtain⟨bk',cv,hm',hB,hg,hrel⟩:=hp.ents _ _ hl
  rw[hm] at hm'
  cases hm'
  obtain⟨x0,hx0,hr0⟩:=hrel.toVRels.get hc
  rw[hr0.np_inv'] at hx0
  have hlen:(cells u).length=cv.size:=by rw[hrel.len];simp
  have hk0:off<cv.size:=by omega
  have hcv:cv[off]=.pointer none:=by
   grind
  refine Ayu (fresh bk w (by simp[World.cell?,hg,hk0,hcv]) (by simp[World.shape?,hg,hlen]) (by simp[World.frozen?,hg]) hoff) ?_
  rintro e w' ⟨rfl,rfl⟩
  have hset':w.setCell ⟨bk,off,none⟩ (.pointer (some ⟨bk,off,none⟩))=w.setRow bk (cv.setIfInBounds off (.pointer (some ⟨bk,off,none⟩))):=setCell_eq_setRow w bk off cv T (0,0) _ hg
  rw[hset']
  have hrel':AO μ H (cells u') (cv.setIfInBounds off (.pointer (some ⟨bk,off,none⟩))).toList:=by
   have h1:AO μ H (cells (V.ref id off)) [.pointer (some ⟨bk,off,none⟩)]:=⟨VRels.nil_.cons (.ref id off bk hm),fun v hv=>by simp at hv;subst hv;rfl⟩
   have:=DG hrel h1 off (off+1)
   rw[hcells,A0k,AzO,Aiv (by simpa using hk0)]
   simpa using this
  have hnew:=hp.set_ (e:=.tbox T u') hl ((Bj.setRow w bk _).to (fun k hk=>by subst hk;simp[hm,Cc])) ⟨bk,_,hm,hB,setRow_heap w bk cv _ T (0,0) hg,hrel'⟩
  have hup:upd [(id,Be.tbox T u)] id (.tbox T u')=[(id,.tbox T u')]:=by simp[upd]
  grind
theorem Pz{f0 T u id off}(hcal:callable P f0=true)(hc:(cells u)[off]?=some (.ref id off))
  (used:∀(b) (w),w.cell? ⟨b,off,none⟩=some (.pointer (some ⟨b,off,none⟩))->Calls P f0 #[.pointer (some ⟨b,off,none⟩)] w fun e w'=>e=.returned (.tuple #[])/\w'=w) :
  An P O f0 [.ref id off] [(id,.tbox T u)] (.tup []) [(id,.tbox T u)] where
 callable:=hcal
 dom:=fun i hi=>hi
 run:=by
  intro n w μ H vals hp hargs
  have hl:lk [(id,Be.tbox T u)] id=some (.tbox T u):=by simp[lk]
  have hund:∀{μ:Id->Option Value} {H:Addr->Option Value},Aq μ H (.tup []) (.tuple #[]):=.tup [] [] rfl (fun k c v hk=>by simp at hk)
  obtain⟨x,rfl,hx⟩:=hargs.one_
  obtain⟨bk,hm,rfl⟩:=hx.ref_inv
  obtain⟨bk',cv,hm',hB,hg,hrel⟩:=hp.ents _ _ hl
  rw[hm] at hm'
  cases hm'
  obtain⟨x0,hx0,hr0⟩:=hrel.toVRels.get hc
  obtain⟨bk2,hm2,rfl⟩:=hr0.ref_inv
  rw[hm] at hm2
  cases hm2
  have hk0:off<cv.size:=by
   grind
  have hcv:cv[off]=.pointer (some ⟨bk,off,none⟩):=by
   grind
  refine Ayu (used bk w (by simp[World.cell?,hg,hk0,hcv])) ?_
  rintro e w' ⟨rfl,rfl⟩
  exact⟨_,μ,H,n,rfl,hund,hp,AfJ _,Fr.refl _ _ _ _,fun _ _ h=>h⟩
theorem R7{f0 e T u id bid off l}(hcal:callable P f0=true)(hc:(cells u)[Nat.succ off]?=some (.arr bid))(hne:bid≠id)(hlim:l.length<=Am)
  (hrun:∀(b) (v) (B) (w),w.cell? ⟨b,Nat.succ off,none⟩=some v->w.ownsRow B e 1 v l.length (Lib.byteCells l)->
   Calls P f0 #[.pointer (some ⟨b,off,none⟩)] w fun e w'=>e=.returned (.string ⟨l.toArray⟩)/\w.grownBy w' v.ownBlock) :
  An P O f0 [.ref id off] [(id,.tbox T u),(bid,.arr e 1 (Az l))] (.s l) [(id,.tbox T u)] where
 callable:=hcal
 dom:=fun i hi=>by
  simp only[lk] at hi⊢
  grind
 run:=by
  intro n w μ H vals hp hargs
  have hl:lk [(id,Be.tbox T u),(bid,.arr e 1 (Az l))] id=some (.tbox T u):=by simp[lk]
  have hlb:lk [(id,Be.tbox T u),(bid,.arr e 1 (Az l))] bid=some (.arr e 1 (Az l)):=by simp[lk,AsR hne]
  obtain⟨y,rfl,hy⟩:=hargs.one_
  obtain⟨bk,hm,rfl⟩:=hy.ref_inv
  obtain⟨bk',cv,hm',hB,hg,hrel⟩:=hp.ents _ _ hl
  rw[hm] at hm'
  cases hm'
  obtain⟨val,hx0,hr⟩:=hrel.toVRels.get hc
  have hcell:w.cell? ⟨bk,Nat.succ off,none⟩=some val:=by
   have hk0:=(Ath.1 hx0).1
   have hk0:Nat.succ off<cv.size:=by simpa using hk0
   rw[AwV,AwM hk0] at hx0
   simp only[World.cell?,hg,AwM hk0]
   exact hx0
  obtain⟨hmb,h1c⟩:=hr.arr_inv
  obtain⟨bvals,_,hown,hlim',hsz,hrel2⟩:=Dx hp hlb hmb
  rw[IZ hrel2,show(Az l).length=l.length by simp[Az]] at hown
  refine Ayu (hrun bk val O.heap.size w hcell hown) ?_
  rintro e'' w' ⟨rfl,hgr⟩
  have hob:∀k,some k=val.ownBlock->Cc (μ bid)=some k:=by
   intro k hk
   rw[hmb]
   obtain⟨A',cap',hv'⟩:=BS hown
   rw[hv'] at hk⊢
   cases A' with
   | none=>simp[Value.ownBlock] at hk
   | some A'=>simpa[Value.ownBlock,Cc] using hk.symm
  have hd:del [(id,Be.tbox T u),(bid,.arr e 1 (Az l))] bid=[(id,.tbox T u)]:=by simp[del,AsR hne]
  have:=hp.lose (σ1:=del [(id,Be.tbox T u),(bid,.arr e 1 (Az l))] bid) (Bj.of_grown hgr) (fun k hk=>⟨bid,_,hlb,hob k hk⟩) (fun id' e' h=>by
   rw[Dk] at h
   split at h
   .cases h
   .rename_i hne
    exact⟨h,fun b hb hb'=>hne (hp.sep _ _ _ _ b hlb h (hob b hb') hb)⟩)
  rw[hd] at this
  exact⟨_,μ,H,n,rfl,.s l hlim,this.1,AfJ _,this.2,fun _ _ h=>h⟩
end
variable(O:World)
theorem XX{T id r}(hlies:liesAt π π.depth T ((r.length+1) / π.cellsOf T) 0 81 1=true) :
  An π O 53 [.ref id 0] [(id,.tbox T (.agg (.np::r)))] (.tup []) [(id,.tbox T (.agg (.ref id 0::r)))]:=
 NH (by kernel_rfl) rfl (by simp[DJ,cells,QZ,QV,V.one]) fun b w h0 hsh hfz hoff=>MN T (r.length+1) 0 hlies b w h0 hsh hfz hoff
theorem Xs{T id r}:An π O 53 [.ref id 0] [(id,.tbox T (.agg (.ref id 0::r)))] (.tup []) [(id,.tbox T (.agg (.ref id 0::r)))]:=
 Pz (by kernel_rfl) rfl λb w e=>O4 b 0 w e
theorem O3{T id bid l a r}(hne:bid≠id)(hl:l.length<=Am) :
  An π O 33 [.ref id 0] [(id,.tbox T (.agg (a :: .arr bid::r))),(bid,.arr 5 1 (Az l))] (.s l) [(id,.tbox T (.agg (a :: .arr bid::r)))]:=
 R7 (by kernel_rfl) rfl hne hl fun b v B w h0 ho=>Lb b 0 l v B w h0 ho
end Go.Ir
end
section
namespace Go.Ir
abbrev Ad:=List UInt8
structure Al where
 kind:Int
 text:Ad
 name:Ad
 style:Ad
 cases:List (Ad×List Al)
 parts:List Al
abbrev AR:=Ad×List Al
mutual
def Al.enc:Al->V
 | ⟨k,t,n,s,cs,ps⟩=>.agg [.i .i64 k,.s t,.s n,.s s,.sl (Jo cs),.sl (Ho ps)]
def Ho:List Al->List V
 | []=>[]
 | p::ps=>p.enc::Ho ps
def Jo:List (Ad×List Al)->List V
 | []=>[]
 | (k,ps)::cs=>.agg [.s k,.sl (Ho ps)]::Jo cs
end
mutual
def Al.wt:Al->Nat
 | ⟨_,t,n,s,cs,ps⟩=>1+t.length+n.length+s.length+DY cs+AV ps
def AV:List Al->Nat
 | []=>0
 | p::ps=>p.wt+AV ps
def DY:List (Ad×List Al)->Nat
 | []=>0
 | (k,ps)::cs=>1+k.length+AV ps+DY cs
end
def AR.enc(c:AR):V:=.agg [.s c.1,.sl (Ho c.2)]
theorem Ig:∀ps,Ho ps=ps.map Al.enc
 | []=>by simp[Ho]
 | p::ps=>by simp[Ho,Ig ps]
theorem OR:∀cs,Jo cs=cs.map AR.enc
 | []=>by simp[Jo]
 | (k,ps)::cs=>by simp[Jo,OR cs,AR.enc]
theorem Al.enc_eq(p:Al):p.enc=.agg [.i .i64 p.kind,.s p.text,.s p.name,.s p.style,.sl (p.cases.map AR.enc),.sl (p.parts.map Al.enc)]:=by cases p;simp[Al.enc,Ig,OR]
theorem AR.enc_eq c:AR.enc c=.agg [.s c.1,.sl (c.2.map Al.enc)]:=by simp[AR.enc,Ig]
theorem Al.wt_eq(p:Al):p.wt=1+p.text.length+p.name.length+p.style.length+DY p.cases+AV p.parts:=by cases p;simp[Al.wt]
theorem Bw p ps:AV (p::ps)=p.wt+AV ps:=by simp[AV]
theorem B8(c:AR)(cs:List AR):DY (c::cs)=1+c.1.length+AV c.2+DY cs:=by have ⟨k,ps⟩:=c;simp[DY]
theorem wG:AV []=0:=by simp[AV]
theorem Rf:DY []=0:=by simp[DY]
theorem Gi{ps p}(h:p∈ps):p.wt<=AV ps:=by
 induction ps with
 | nil=>cases h
 | cons d ps e=>rw[Bw];grind
theorem DM{cs:List AR}{c}(h:c∈cs):1+c.1.length+AV c.2<=DY cs:=by
 induction cs with
 | nil=>cases h
 | cons d cs e=>rw[B8];grind
theorem Fp ps:ps.length<=AV ps:=by
 induction ps with
 | nil=>simp
 | cons p ps e=>rw[Bw,Aa8,p.wt_eq];omega
theorem Fn(cs:List AR):cs.length<=DY cs:=by
 induction cs with
 | nil=>simp
 | cons p ps e=>rw[B8,Aa8];omega
attribute[push_cast]Al.enc_eq AR.enc_eq
section zip
variable{α β:Type}{f:α→β}{dn rest:List α}{x:α}
theorem Aun:decide ((dn.length:Int)<((dn++x::rest).length:Int))=true:=by simp;omega
theorem Atf:(List.map f (dn++x::rest))[dn.length]?=some (f x):=by simp
theorem ApA:(dn++x::rest)[dn.length]?=some x:=by simp
theorem AsA(n:Int):decide (n<n)=false:=by simp
theorem Aa x {dn:List α}(h:dn.length<2^62):IntKind.i64.wrap ((dn.length:Int)+1)=((dn++[x]).length:Int):=by rw[wrap64 (by omega) (by omega)];simp
theorem Ay{xs}(h:xs=dn++x::rest):dn.length<xs.length:=by rw[h];simp
attribute[push_cast]Aun Atf ApA AsA
end zip
attribute [push_cast] AaT
theorem Am2{c}{r:List UInt8}:(c::r==[])=false:=rfl
theorem Amv:(([]:List UInt8)==[])=true:=rfl
theorem ep1 a k:(a+1+k=a)=False:=by simp;omega
theorem Az1 a k:(a=a+1+k)=False:=by simp;omega
theorem ep2 a k j:(a+1+k+1+j=a)=False:=by simp;omega
theorem Ayo a k j:(a=a+1+k+1+j)=False:=by simp;omega
theorem ep3 a k j i:(a+1+k+1+j+1+i=a)=False:=by simp;omega
theorem Ay6 a k j i:(a=a+1+k+1+j+1+i)=False:=by simp;omega
theorem ep4 a k j i h:(a+1+k+1+j+1+i+1+h=a)=False:=by simp;omega
theorem AxY a k j i h:(a=a+1+k+1+j+1+i+1+h)=False:=by simp;omega
theorem ep5 a k j i h g:(a+1+k+1+j+1+i+1+h+1+g=a)=False:=by simp;omega
theorem AyK a k j i h g:(a=a+1+k+1+j+1+i+1+h+1+g)=False:=by simp;omega
theorem Ar4 l:Ci (.sl l)=none:=rfl
theorem Am4:Ci .nil=none:=rfl
theorem AoO(v:V) k:Ci (v.ep k)=none:=rfl
theorem AsX(l:Ad):Ci (.s l)=none:=rfl
theorem AsD l:Ci (.b l)=none:=rfl
theorem AsB k l:Ci (.i k l)=none:=rfl
theorem Amu l:Ci (.agg l)=none:=rfl
theorem Amn id o:Ci (.ref id o)=some id:=rfl
theorem Amw id:Ci (.arr id)=some id:=rfl
attribute[push_cast]Am2 Amv ep1 Az1 ep2 Ayo ep3 Ay6 ep4 AxY ep5 AyK Ar4 Am4 AoO AsX AsD AsB Amu Amn Amw
attribute [push_cast] List.forall_mem_cons AxH false_imp_iff implies_true Arp forall_eq' ne_eq AzK
def Al.v(p:Al):V:=.agg [.i .i64 p.kind,.s p.text,.s p.name,.s p.style,.sl (p.cases.map AR.enc),.sl (p.parts.map Al.enc)]
def AR.v(c:AR):V:=.agg [.s c.1,.sl (c.2.map Al.enc)]
theorem AZ(x:UInt8){dn:List UInt8}(h:dn.length<Am):IntKind.i64.wrap ((dn.length:Int)+1)=((dn++[x]).length:Int):=Aa x (by unfold Am at h;omega)
theorem Avd(w r:Ad):(if 0<=w.length/\w.length<=(w++r).length then some (V.s (List.take w.length (w++r))) else none)=some (V.s w):=by grind
theorem Avt(w r:Ad):(if w.length<=(w++r).length/\(w++r).length<=(w++r).length then some (V.s (List.drop w.length (List.take (w++r).length (w++r)))) else none)=some (V.s r):=by grind
theorem AsQ(w r:Ad) c:(if(w++[c]).length<=(w++c::r).length/\(w++c::r).length<=(w++c::r).length then some (V.s (List.drop (w++[c]).length (List.take (w++c::r).length (w++c::r)))) else none)=some (V.s r):=by rw[Aiv ⟨by simp,AfJ _⟩,An6,show w++c::r=(w++[c])++r by simp];simp only[AzP]
theorem AsK(w:Ad):(if 0<=w.length/\w.length<=w.length then some (V.s (List.take w.length w)) else none)=some (V.s w):=by grind
theorem Av6{α:Type} f (w r:List α):(if 0<=w.length/\w.length<=(w++r).length then some (V.sl (List.take w.length (List.map f (w++r)))) else none)=some (V.sl (List.map f w)):=by grind
attribute[push_cast]Avd Avt AsQ AsK Av6
end Go.Ir
end
namespace Go.Ir
open Go.Proofs
variable{P:Program}{O:World}{nt n:Nat}{Q:Exit→St→Prop}{env:Bm}{σ:Au}
def uB:IC:=sQ (.block 3 (oP [m1 31 3,m1 32 0,m1 33 4,iA 34 32 33 74 6,fA 35 34 4,l1 36 35,m1 37 5,iA 38 36 37 76 2,fA 39 38 1,l1 40 39,q1 41 40 40,o1 42 (.bin .add (ci 1) (.t 41)),o1 43 (.mx false (.t 31) [.t 42]),m1 3 43] [0,3,4,5])) (oP [m1 29 5,bZ 30 .add 29 1,m1 5 30] [0,3,4,5])
def cZ:IC:=sQ (.block 1 (oS [m1 12 3,m1 13 0,m1 14 4,iA 15 13 14 74 6,fA 16 15 5,l1 17 16,q1 18 40 17,o1 19 (.bin .add (ci 1) (.t 18)),o1 20 (.mx false (.t 12) [ci 1,.t 19]),m1 3 20] [0,3,4] (oS [mZ 5 0] [0,3,4,5] (.block 2 (.loop (sQ (oS [m1 21 5,m1 22 0,m1 23 4,iA 24 22 23 74 6,fA 25 24 4,l1 26 25,nL 27 26,bT 28 .lss 21 27] [0,3,4,5,28] (cD 28 .skip (.exit 2))) uB)))))) (oP [m1 10 4,bZ 11 .add 10 1,m1 4 11] [0,3,4])
def Agm:IC:=sQ (oS [mZ 4 0] [0,3,4] (.block 0 (.loop (sQ (oS [m1 6 4,m1 7 0,nL 8 7,bT 9 .lss 6 8] [0,3,4,9] (cD 9 .skip (.exit 0))) cZ)))) (oR [m1 44 3,m1 2 44] [2])
def Aec:IC:=oS [mZ 2 0] [0] (oS [mZ 3 0] [0,3] Agm)
def Avk:List R:=[.t 2]
def Azw:=Ao uB.eq_1<|Ao cZ.eq_1<|Ao Agm.eq_1<|AJ Aec.eq_1
theorem Aqj:Ar π 40 45 Aec Avk=true:=by kernel_rfl
def n8:IC:=sQ (.block 3 (oP [m1 39 3,m1 40 0,m1 41 4,iA 42 40 41 74 6,fA 43 42 4,l1 44 43,m1 45 5,iA 46 44 45 76 2,fA 47 46 1,l1 48 47,q1 49 41 48,o1 50 (.bin .add (ci 1) (.t 49)),bT 51 .add 39 50,m1 3 51] [0,3,4,5])) (oP [m1 37 5,bZ 38 .add 37 1,m1 5 38] [0,3,4,5])
def vC:IC:=sQ (.block 1 (sQ (.ops [m1 12 3,m1 13 0,m1 14 4,iA 15 13 14 74 6,fA 16 15 5,l1 17 16,q1 18 41 17,o1 19 (.bin .add (ci 1) (.t 18)),m1 20 0,m1 21 4,iA 22 20 21 74 6,fA 23 22 1,l1 24 23,nS 25 24,bZ 26 .quo 25 20,bT 27 .add 19 26,bT 28 .add 12 27,m1 3 28] [0,3,4] [[1,3],[2,3],[3,4],[4,5],[5,6],[6,7],[8,10],[9,10],[10,11],[11,12],[12,13],[13,14],[7,15],[14,15],[0,16],[15,16],[0,17],[16,17]]) (oS [mZ 5 0] [0,3,4,5] (.block 2 (.loop (sQ (oS [m1 29 5,m1 30 0,m1 31 4,iA 32 30 31 74 6,fA 33 32 4,l1 34 33,nL 35 34,bT 36 .lss 29 35] [0,3,4,5,36] (cD 36 .skip (.exit 2))) n8)))))) (oP [m1 10 4,bZ 11 .add 10 1,m1 4 11] [0,3,4])
def Aeh:IC:=sQ (oS [mZ 4 0] [0,3,4] (.block 0 (.loop (sQ (oS [m1 6 4,m1 7 0,nL 8 7,bT 9 .lss 6 8] [0,3,4,9] (cD 9 .skip (.exit 0))) vC)))) (oR [m1 52 3,m1 2 52] [2])
def Ae5:IC:=oS [mZ 2 0] [0] (oS [mZ 3 0] [0,3] Aeh)
def AuK:List R:=[.t 2]
def AxW:=Ao n8.eq_1<|Ao vC.eq_1<|Ao Aeh.eq_1<|AJ Ae5.eq_1
theorem ArG:Ar π 41 53 Ae5 AuK=true:=by kernel_rfl
def kT:IC:=sQ (.block 3 (oS [m1 46 0,m1 47 3,iA 48 46 47 74 6,fA 49 48 4,l1 50 49,m1 51 4,iA 52 50 51 76 2,fA 53 52 0,l1 54 53,nS 55 54,bZ 56 .gtr 55 60,m1 57 56,Bn 58 57 0,Bn 59 57 3,gF 60 57 (.iaddr (.t 58) (.t 59) 74 6),CG 61 57 60 4,CM 62 57 61,Bn 63 57 4,gF 64 57 (.iaddr (.t 62) (.t 63) 76 2),CG 65 57 64 1,CM 66 57 65,gF 67 57 (.call 42 [.t 66]),gF 68 57 (.not (.t 67)),pO 69 57 68] [0,3,4,69] (cD 69 (oR [mC 2 (.b false)] [2]) .skip))) (oP [m1 44 4,bZ 45 .add 44 1,m1 4 45] [0,3,4])
def uW:IC:=sQ (.block 1 (sQ (oS [m1 11 0,m1 12 3,iA 13 11 12 74 6,fA 14 13 2,l1 15 14,nS 16 15,bZ 17 .gtr 16 60,m1 18 17,Bn 19 18 0,Bn 20 18 3,gF 21 18 (.iaddr (.t 19) (.t 20) 74 6),CG 22 18 21 3,CM 23 18 22,gF 24 18 (.lenS (.t 23)),Dv 25 18 .gtr 24 60,pO 26 18 25,m1 27 26,Bn 28 27 0,Bn 29 27 3,gF 30 27 (.iaddr (.t 28) (.t 29) 74 6),CG 31 27 30 5,CM 32 27 31,gF 33 27 (.call 42 [.t 32]),gF 34 27 (.not (.t 33)),pO 35 27 34] [0,3,35] (cD 35 (oR [mC 2 (.b false)] [2]) .skip)) (oS [mZ 4 0] [0,3,4] (.block 2 (.loop (sQ (oS [m1 36 4,m1 37 0,m1 38 3,iA 39 37 38 74 6,fA 40 39 4,l1 41 40,nL 42 41,bT 43 .lss 36 42] [0,3,4,43] (cD 43 .skip (.exit 2))) kT)))))) (oP [m1 9 3,bZ 10 .add 9 1,m1 3 10] [0,3])
def Ags:IC:=sQ (oS [mZ 3 0] [0,3] (.block 0 (.loop (sQ (oS [m1 5 3,m1 6 0,nL 7 6,bT 8 .lss 5 7] [0,3,8] (cD 8 .skip (.exit 0))) uW)))) (oR [mC 2 (.b true)] [2])
def Agf:IC:=oS [mC 2 (.b false)] [0] Ags
def AuY:List R:=[.t 2]
def Ayy:=Ao kT.eq_1<|Ao uW.eq_1<|Ao Ags.eq_1<|AJ Agf.eq_1
theorem Arv:Ar π 42 70 Agf AuY=true:=by kernel_rfl
def AfG:IC:=oR [m1 3 0,q1 4 40 3,bZ 5 .leq 4 12,m1 6 5,B0 7 6 0,gT 8 6 (.call 41 [.t 7]),Dn 9 6 .leq 8 300,pA 10 6 9,m1 11 10,B0 12 11 0,gT 13 11 (.call 42 [.t 12]),pA 14 11 13,m1 2 14] [2]
def Ahc:IC:=oS [mC 2 (.b false)] [0] AfG
def At3:List R:=[.t 2]
def Azp:=Ao AfG.eq_1<|AJ Ahc.eq_1
theorem AqU:Ar π 24 15 Ahc At3=true:=by kernel_rfl
def Afn:IC:=oS [mC 2 (.b false)] [0] (oR [m1 3 0,bZ 4 .eql 3 7,m1 5 4,Bn 6 5 0,Dv 7 5 .eql 6 8,pO 8 5 7,m1 9 8,Bn 10 9 0,Dv 11 9 .eql 10 9,pO 12 9 11,m1 2 12] [2])
def AvX:List R:=[.t 2]
def AyR:=AJ Afn.eq_1
theorem AnN:Ar π 30 13 Afn AvX=true:=by kernel_rfl
attribute[push_cast]Avk Azw AuK AxW AuY Ayy At3 Azp AvX AyR
end Go.Ir
section
namespace Go.Ir
open Go.Proofs
mutual
def Al.shortB:Al->Bool
 | ⟨_,_,n,s,cs,ps⟩=>!(decide ((n.length:Int)>60)||decide ((s.length:Int)>60)||!CI ps)&&F1 cs
def CI:List Al->Bool
 | []=>true
 | p::ps=>p.shortB&&CI ps
def F1:List (Ad×List Al)->Bool
 | []=>true
 | (k,ps)::cs=>!(decide ((k.length:Int)>60)||!CI ps)&&F1 cs
end
theorem Al.shortB_eq(p:Al):p.shortB=(!(decide ((p.name.length:Int)>60)||decide ((p.style.length:Int)>60)||!CI p.parts)&&F1 p.cases):=by cases p;simp only[Al.shortB]
theorem Po p ps:CI (p::ps)=(p.shortB&&CI ps):=by simp only[CI]
theorem QL(c:AR)(ps:List AR):F1 (c::ps)=(!(decide ((c.1.length:Int)>60)||!CI c.2)&&F1 ps):=by have ⟨k,q⟩:=c;simp only[F1]
theorem cE O:∀(N) (ps),AV ps<N->AV ps<=2^24->An π O 42 [.sl (ps.map Al.enc)] [] (.b (CI ps)) []:=by
 intro N
 induction N with
 | zero=>intro ps h;omega
 | succ N s=>
 intro ps B C;generalize hS:CI ps=S;refine Ah (vs:=[.b S]) Arv (by simp) (by simp) λn y=>?_;clear y;simp only[push_cast,seval,rq];intro _ _;refine Ak ps.length (Inv:=λm st=>∃dn rest n,ps=dn++rest/\m=rest.length/\CI rest=S/\st=⟨[(0,.sl (ps.map Al.enc)),(3,.i .i64 dn.length)],[],n⟩) ⟨_,Aj.refl,[],ps,_,rfl,rfl,hS,rfl⟩ ?_;clear hS;rintro m _ ⟨dn,rest,n,rfl,rfl,g,rfl⟩;have r:=Fp (dn++rest);cases rest with
 | nil=>simp only[push_cast,seval,rq];intro _ _;exact Ae (by rw[<-g];rfl)
 | cons p rest=>
  have z:=Gi (ps:=dn++p::rest) (p:=p) (by simp);rw[p.wt_eq] at z;rw[Po,p.shortB_eq] at g;simp only[push_cast,seval,rq]
  repeat' (first|(((first|apply Ac|apply Af|apply Ag)<;>intro _h)<;>(simp only[push_cast,seval,rq,_h];try (have _g:=_h;simp at _g)))|(refine Ab (by exact s p.parts (by omega) (by omega)) ?_;simp only[push_cast,seval,rq])|intro _)
  all_goals (try exact Ae (by simp[get,<-g, *];done))
  have q:(F1 p.cases&&CI rest)=S:=by rw[<-g];simp[*]
  refine Ak p.cases.length (Inv:=λm st=>∃j o n,p.cases=j++o/\m=o.length/\(F1 o&&CI rest)=S/\st=⟨[(0,.sl ((dn++p::rest).map Al.enc)),(3,.i .i64 dn.length),(4,.i .i64 j.length)],[],n⟩) ⟨_,Aj.refl,[],p.cases,_,rfl,rfl,q,rfl⟩ ?_;clear g q;rintro m _ ⟨j,o,n,e,rfl,g,rfl⟩;have w:=Fn p.cases;cases o with
  | nil=>simp only[push_cast,seval,rq,e,Aa p (dn:=dn) (by simp at r;omega)];intro _ _;exact⟨_,_,Adx _,Aj.refl,dn++[p],rest,_,by simp,rfl,by rw[<-g];rfl,rfl⟩
  | cons c o=>
   have A:=DM (cs:=p.cases) (c:=c) (by simp[e]);have u:=Ay e;rw[QL] at g;simp only[push_cast,seval,rq,e,Aa c (dn:=j) (by omega)]
   repeat' (first|(((first|apply Ac|apply Af|apply Ag)<;>intro _h)<;>(simp only[push_cast,seval,rq,_h,e,Aa c (dn:=j) (by omega)];try (have _g:=_h;simp at _g)))|(refine Ab (by exact s c.2 (by omega) (by omega)) ?_;simp only[push_cast,seval,rq,e,Aa c (dn:=j) (by omega)])|intro _)
   all_goals (try exact Ae (by simp[get,<-g, *];done))
   exact⟨_,_,Adx _,Aj.refl,j++[c],o,_,by simp[e],rfl,by rw[<-g];simp[*],rfl⟩
end Go.Ir
end
namespace Go.Ir
open Go.Proofs
variable{P:Program}{O:World}{nt n:Nat}{Q:Exit→St→Prop}{env:Bm}{σ:Au}
def uE:IC:=oR [m1 3 0,bC 4 .geq 3 (.i .u8 97),m1 5 4,B0 6 5 0,gT 7 5 (.bin .leq (.t 6) (.c (.i .u8 122))),pA 8 5 7,m1 9 8,Bn 10 9 0,gF 11 9 (.bin .geq (.t 10) (.c (.i .u8 65))),Bn 12 9 11,B0 13 12 0,gT 14 12 (.bin .leq (.t 13) (.c (.i .u8 90))),gF 15 9 (.pick (.t 12) (.t 14) (.c (.b false))),pO 16 9 15,m1 17 16,Bn 18 17 0,gF 19 17 (.bin .geq (.t 18) (.c (.i .u8 48))),Bn 20 17 19,B0 21 20 0,gT 22 20 (.bin .leq (.t 21) (.c (.i .u8 57))),gF 23 17 (.pick (.t 20) (.t 22) (.c (.b false))),pO 24 17 23,m1 2 24] [2]
def jH:IC:=oS [mC 2 (.b false)] [0] uE
def AnY:List R:=[.t 2]
def Axs:=Ao uE.eq_1<|AJ jH.eq_1
theorem AhM:Ar π 158 25 jH AnY=true:=by kernel_rfl
def VF:IC:=oS [m1 26 0,m1 27 3,o1 28 (.idx (.t 26) (.t 27)),q1 29 158 28,nT 30 29,m1 31 30,B0 32 31 0,B0 33 31 3,gT 34 31 (.idx (.t 32) (.t 33)),gT 35 31 (.bin .neq (.t 34) (.c (.i .u8 95))),pA 36 31 35,m1 37 36,B0 38 37 0,B0 39 37 3,gT 40 37 (.idx (.t 38) (.t 39)),gT 41 37 (.bin .neq (.t 40) (.c (.i .u8 45))),pA 42 37 41] [0,22,23,42] (cD 42 (oR [mC 2 (.b false)] [2]) .skip)
def X5:IC:=oS [bT 24 .lss 23 22] [0,22,23,24] (sQ (cD 24 .skip (.exit 0)) (sQ (.block 1 (oS [m1 25 23,m1 3 25] [0,3,22,23] VF)) (oP [bZ 43 .add 23 1,m1 23 43] [0,22,23])))
def eE:IC:=sQ (oS [m1 4 0,bC 5 .eql 4 (.s []),m1 6 5,Bn 7 6 0,gF 8 6 (.lenS (.t 7)),Dv 9 6 .gtr 8 40,pO 10 6 9,m1 11 10,Bn 12 11 0,gF 13 11 (.idx (.t 12) (ci 0)),gF 14 11 (.bin .lss (.t 13) (.c (.i .u8 97))),pO 15 11 14,m1 16 15,Bn 17 16 0,gF 18 16 (.idx (.t 17) (ci 0)),gF 19 16 (.bin .gtr (.t 18) (.c (.i .u8 122))),pO 20 16 19] [0,20] (cD 20 (oR [mC 2 (.b false)] [2]) .skip)) (sQ (oS [m1 21 0,nS 22 21,mZ 23 0] [0,22,23] (.block 0 (.loop X5))) (oR [mC 2 (.b true)] [2]))
def p8:IC:=oS [mC 2 (.b false)] [0] eE
def Asi:List R:=[.t 2]
def AwH:=Ao VF.eq_1<|Ao X5.eq_1<|Ao eE.eq_1<|AJ p8.eq_1
theorem Aiz:Ar π 124 44 p8 Asi=true:=by kernel_rfl
def XW:IC:=cD 4 .skip (oS [bC 8 .eql 3 (.s [102,101,119]),m1 4 8] [3,4] (cD 4 .skip (oS [bC 9 .eql 3 (.s [109,97,110,121]),m1 4 9] [3,4] (cD 4 .skip (oP [bC 10 .eql 3 (.s [111,116,104,101,114]),m1 4 10] [4])))))
def oM:IC:=.block 0 (sQ (oS [bC 5 .eql 3 (.s [122,101,114,111]),m1 4 5] [3,4] (cD 4 .skip (oS [bC 6 .eql 3 (.s [111,110,101]),m1 4 6] [3,4] (cD 4 .skip (oS [bC 7 .eql 3 (.s [116,119,111]),m1 4 7] [3,4] XW))))) (cD 4 (oR [mC 2 (.b true)] [2]) .skip))
def yQ:IC:=oS [mC 2 (.b false)] [0] (sQ (oS [m1 3 0] [3] oM) (oR [mC 2 (.b false)] [2]))
def AnW:List R:=[.t 2]
def AwD:=Ao XW.eq_1<|Ao oM.eq_1<|AJ yQ.eq_1
theorem AiV:Ar π 162 11 yQ AnW=true:=by kernel_rfl
def XZ:IC:=oS [m1 13 4,bC 14 .lss 13 (.i .u8 97),m1 15 14,Bn 16 15 4,gF 17 15 (.bin .gtr (.t 16) (.c (.i .u8 122))),pO 18 15 17,m1 19 18,B0 20 19 4,gT 21 19 (.bin .lss (.t 20) (.c (.i .u8 65))),B0 22 19 21,Bn 23 22 4,gF 24 22 (.bin .gtr (.t 23) (.c (.i .u8 90))),gT 25 19 (.pick (.t 22) (.c (.b true)) (.t 24)),pA 26 19 25] [0,6,7,26] (cD 26 (oR [mC 2 (.b false)] [2]) .skip)
def W9:IC:=sQ (.block 1 (oS [m1 9 7,m1 3 9] [0,3,6,7] (oS [m1 10 0,m1 11 3,o1 12 (.idx (.t 10) (.t 11)),m1 4 12] [0,4,6,7] XZ))) (oP [bZ 27 .add 7 1,m1 7 27] [0,6,7])
def kN:IC:=sQ (oS [m1 5 0,nS 6 5,mZ 7 0] [0,6,7] (.block 0 (.loop (oS [bT 8 .lss 7 6] [0,6,7,8] (sQ (cD 8 .skip (.exit 0)) W9))))) (oR [m1 28 0,bC 29 .neq 28 (.s []),m1 30 29,B0 31 30 0,gT 32 30 (.lenS (.t 31)),Dn 33 30 .leq 32 40,pA 34 30 33,m1 2 34] [2])
def w8:IC:=oS [mC 2 (.b false)] [0] kN
def AqH:List R:=[.t 2]
def AwZ:=Ao XZ.eq_1<|Ao W9.eq_1<|Ao kN.eq_1<|AJ w8.eq_1
theorem Ak7:Ar π 123 35 w8 AqH=true:=by kernel_rfl
def Afq:IC:=oS [mC 2 (.b false)] [0] (oR [m1 3 0,bZ 4 .geq 3 7,m1 5 4,B0 6 5 0,Dn 7 5 .leq 6 9,pA 8 5 7,m1 2 8] [2])
def Av4:List R:=[.t 2]
def Az3:=AJ Afq.eq_1
theorem Ar9:Ar π 89 9 Afq Av4=true:=by kernel_rfl
def AeW:IC:=oR [m1 3 0,bC 4 .eql 3 (.i .u8 123),m1 5 4,Bn 6 5 0,gF 7 5 (.bin .eql (.t 6) (.c (.i .u8 125))),pO 8 5 7,m1 9 8,Bn 10 9 0,gF 11 9 (.bin .eql (.t 10) (.c (.i .u8 60))),pO 12 9 11,m1 13 12,Bn 14 13 0,gF 15 13 (.bin .eql (.t 14) (.c (.i .u8 62))),pO 16 13 15,m1 17 16,Bn 18 17 0,gF 19 17 (.bin .eql (.t 18) (.c (.i .u8 35))),pO 20 17 19,m1 21 20,Bn 22 21 0,gF 23 21 (.bin .eql (.t 22) (.c (.i .u8 92))),pO 24 21 23,m1 2 24] [2]
def Af6:IC:=oS [mC 2 (.b false)] [0] AeW
def Avc:List R:=[.t 2]
def Azi:=Ao AeW.eq_1<|AJ Af6.eq_1
theorem An3:Ar π 50 25 Af6 Avc=true:=by kernel_rfl
attribute[push_cast]AnY Axs Asi AwH AnW AwD AqH AwZ Av4 Az3 Avc Azi
end Go.Ir
section
namespace Go.Ir
theorem Ai{O nt n g vs env σ}(h:DC ⟨env,σ,n⟩ g vs):NU O nt g vs [] .ret ⟨env,σ,n⟩:=
 ⟨_,Aj.refl,h,λid e h=>by simp[lk] at h⟩
section
variable{P:Program}{O:World}{nt n ep:Nat}{live:List Nat}{Q:Exit→St→Prop}{env:Bm}{σ:Au}{l:List I}{t:Bool}
class Spl (p:Prop) (A B:outParam Prop):Prop where
 go:A->B->p
instance splC{a b:IC}:Spl (Oy P O nt (.b t) a b Q env σ n) (t=true->aW P O nt a Q ⟨env,σ,n⟩) (t=false->aW P O nt b Q ⟨env,σ,n⟩):=⟨Ac⟩
instance splT{d:Option Nat}{e:AQ}{ap:List X}:Spl (T5 P O ep live Q (.b t) true d e ap l env σ) (t=true->J P O ep live Q (⟨d,e,none,ap⟩::l) env σ) (t=false->J P O ep live Q l (put env d (.tup [])) σ):=⟨Af⟩
instance splF{d:Option Nat}{e:AQ}{ap:List X}:Spl (T5 P O ep live Q (.b t) false d e ap l env σ) (t=false->J P O ep live Q (⟨d,e,none,ap⟩::l) env σ) (t=true->J P O ep live Q l (put env d (.tup [])) σ):=⟨Ag⟩
theorem spl{p A B}[h:Spl p A B](e:A)(g:B):p:=h.go e g
theorem fnV{f ic i}(g:Ar P f nt ic i=true){args vs}(h:∀n,aW P O nt ic (NU O nt i vs []) ⟨params 0 args,[],n⟩)(e:args.length<=nt:=by simp):An P O f args [] (IX vs) []:=
 Ah g e (λid h=>absurd rfl h) λn _=>h n
theorem fr1{s v}(h:get env s=v:=by simp[get]):NU O nt [.t s] [v] [] .ret ⟨env,σ,n⟩:=Ae h
theorem frs{e vs}(h:DC ⟨env,σ,n⟩ e vs:=by simp[push_cast,get]):NU O nt e vs [] .ret ⟨env,σ,n⟩:=Ai h
end
def Aaz(o:Option Be)(e k:Nat)(g:Bool)(v:V):Prop:=∃u,o=some (.box u)/\sub u e k g=some v
def Aia(x:V)(σ:Au)(k:Nat)(g:Bool)(v:V):Prop:=∃id e u,x=.ref id e/\lk σ id=some (.box u)/\sub u e k g=some v
theorem As6{u v e k g}:Aaz (some (.box u)) e k g v=(sub u e k g=some v):=by simp[Aaz]
theorem ApY{id e k σ g v}:Aia (.ref id e) σ k g v=Aaz (lk σ id) e k g v:=by unfold Aia Aaz;grind
theorem Aot{env σ n s k e g v vs}:DC ⟨env,σ,n⟩ (.c s k e::g) (v::vs)=(Aia (get env s) σ k e v/\DC ⟨env,σ,n⟩ g vs):=rfl
theorem ApN{env σ n s e v vs}:DC ⟨env,σ,n⟩ (.t s::e) (v::vs)=(get env s=v/\DC ⟨env,σ,n⟩ e vs):=rfl
theorem AkO{st}:DC st [] []=True:=rfl
theorem Aj.drop1{O nt n n' env σ id x}(h:lk σ id=none)(i:n<=n'):Aj O nt ⟨env,(id,x)::σ,n⟩ ⟨env,σ,n'⟩:=by
 refine Aj.drop (λj e g=>?_) i;simp only[lk];rw[Amt]
 .exact g
 grind
theorem C6{σ g x}(h:lk σ g=none):∀id e,lk σ id=some e->lk ((g,x)::σ) id=some e:=by
 intro id e i;simp only[lk];rw[Amt]
 .exact i
 grind
attribute[push_cast]As6 ApY Aot ApN AkO
end Go.Ir
end
section
namespace Go.Ir
theorem Aj.dropM{O:World}{nt n n':Nat}{env:Bm}{a m:Id×Be}{σ:Au}(h:lk σ m.1=none)(j:n<=n'):Aj O nt ⟨env,a::m::σ,n⟩ ⟨env,a::σ,n'⟩:=by have ⟨ai,ae⟩:=a;refine Aj.drop (λi e g=>?_) j;simp only[lk] at g⊢;grind
theorem As{P O ep live Q p l env σ}(h:p)(k:J P O ep live Q l env σ):JP P O ep live Q p l env σ:=⟨h,k⟩
section
variable{P:Program}{O:World}{ep d:Nat}{live:List Nat}{Q:Exit→St→Prop}{l:List I}{env:Bm}{σ:Au}
theorem If{id e e'}(h:∀p∈σ,p.1≠id):over [(id,e)] [(id,e')] ((id,e)::σ)=(id,e')::σ:=by
 have:List.filter (λp:Id×Be=>(lk [(id,e)] p.1).isNone) σ=σ:=by rw[A0o];intro p hp;have:=h p hp;simp[lk,AsR this]
 unfold over;rw[List.filter_cons_of_neg (by simp[lk]),this];rfl
theorem Nz{f:FuncId}{vs:List V}{v:V}{id:Id}{e e':Be}(h:An P O f vs [(id,e)] v [(id,e')])(g:∀p∈σ,p.1≠id)
  (j:J P O ep live Q l ((d,v)::env) ((id,e')::σ)):G7 P O ep live Q f vs l d env ((id,e)::σ):=by
 refine BJ h (λi y o=>?_) (by rw[If g];exact j);simp only[lk] at o⊢;grind
theorem YZ{f vs v id e e' a}(h:An P O f vs [(id,e)] v [(id,e')])(g:∀p∈a::σ,p.1≠id)
  (s:J P O ep live Q l ((d,v)::env) ((id,e')::a::σ)):G7 P O ep live Q f vs l d env (a::(id,e)::σ):=by
 have r:a.1≠id:=g a (by simp);refine BJ h (λi y u=>?_) ?_
 .obtain⟨j,x⟩:=a;simp only[lk] at u⊢;grind
 .have:over [(id,e)] [(id,e')] (a::(id,e)::σ)=(id,e')::a::σ:=by
   have o:=If (e:=e) (e':=e') (λp hp=>g p (Ae0 a hp));have q:(lk [(id,e)] a.1).isNone=true:=by simp[lk,AsR r]
   simp only[over,AyW,q,Agp,A05,List.cons.injEq,Azz] at o⊢;simpa[lk] using o
  rw[this];exact s
end
end Go.Ir
end
namespace Go.Ir
open Go.Proofs
variable(O:World)
def Kf(n:Int):Bool:=decide (n>=97)&&decide (n<=122)||decide (n>=65)&&decide (n<=90)||decide (n>=48)&&decide (n<=57)
theorem bQ n:An π O 158 [.i .u8 n] [] (.b (Kf n)) []:=by
 refine Ah (vs:=[.b (Kf n)]) AhM (by simp) (by simp) λn0 e=>?_;clear e;simp only[push_cast,seval,rq]
 repeat' (first|(((first|apply Ac|apply Af|apply Ag)<;>intro _h)<;>(simp only[push_cast,seval,rq,_h];try (have _g:=_h;simp at _g)))|intro _)
 all_goals (first|(refine Ae ?_;simp[get,Kf, *]<;>(intros;omega);done)|(refine Ai ?_;simp[push_cast,get,Kf, *];done)|skip)
def Bk(n:Int):Bool:=decide (n>=7)&&decide (n<=9)
theorem DQ n:An π O 89 [.i .i64 n] [] (.b (Bk n)) []:=by
 refine Ah (vs:=[.b (Bk n)]) Ar9 (by simp) (by simp) λn0 e=>?_;clear e;simp only[push_cast,seval,rq]
 repeat' (first|(((first|apply Ac|apply Af|apply Ag)<;>intro _h)<;>(simp only[push_cast,seval,rq,_h];try (have _g:=_h;simp at _g)))|intro _)
 all_goals (first|(refine Ae ?_;simp[get,Bk, *]<;>(intros;omega);done)|(refine Ai ?_;simp[push_cast,get,Bk, *];done)|skip)
def H7(n:Int):Bool:=n==123||n==125||n==60||n==62||n==35||n==92
def KB(s:Ad):Bool:=s==[122,101,114,111]||s==[111,110,101]||s==[116,119,111]||s==[102,101,119]||s==[109,97,110,121]||s==[111,116,104,101,114]
theorem mP(s:Ad):An π O 162 [.s s] [] (.b (KB s)) []:=by
 refine Ah (vs:=[.b (KB s)]) AiV (by simp) (by simp) λn0 e=>?_;clear e;simp only[push_cast,seval,rq]
 repeat' (first|(((first|apply Ac|apply Af|apply Ag)<;>intro _h)<;>(simp only[push_cast,seval,rq,_h];try (have _g:=_h;simp at _g)))|intro _)
 all_goals (first|(refine Ae ?_;simp[get,KB, *]<;>(intros;omega);done)|(refine Ai ?_;simp[push_cast,get,KB, *];done)|skip)
def Np(n:Int):Bool:=decide (n>=97)&&decide (n<=122)
theorem Vb(n:Int):An π O 50 [.i .u8 n] [] (.b (H7 n)) []:=by
 refine Ah (vs:=[.b (H7 n)]) An3 (by simp) (by simp) λn0 e=>?_;clear e;simp only[push_cast,seval,rq]
 repeat' (first|(((first|apply Ac|apply Af|apply Ag)<;>intro _h)<;>(simp only[push_cast,seval,rq,_h];try (have _g:=_h;simp at _g)))|intro _)
 all_goals (first|(refine Ae ?_;simp[get,H7, *]<;>(intros;omega);done)|(refine Ai ?_;simp[push_cast,get,H7, *];done)|skip)
def AhK(n:Int):Bool:=n==7||n==8
def MM(n:Int):Bool:=Kf n||n==95||n==45
def KC(f:Int->Bool):Ad->Bool
 | []=>true
 | c::r=>f c.toNat&&KC f r
def BN:Ad->Bool
 | []=>false
 | c::r=>decide (((c::r).length:Int)<=40)&&Np c.toNat&&KC MM (c::r)
theorem Dz(s:Ad)(r:s.length<Am):An π O 124 [.s s] [] (.b (BN s)) []:=by
 generalize hS:BN s=S;refine Ah (vs:=[.b S]) Aiz (by simp) (by simp) λn0 o=>?_;clear o;simp only[push_cast,seval,rq];cases s with
 | nil=>
  simp only[push_cast,seval,rq]
  repeat' (first|(((first|apply Ac|apply Af|apply Ag)<;>intro _h)<;>(simp only[push_cast,seval,rq,_h];try (have _g:=_h;simp at _g)))|intro _)
  all_goals exact Ae (by simp[get,<-hS,BN])
 | cons e j=>
  unfold BN at hS;simp only at hS;simp only[push_cast,seval,rq]
  repeat' (first|(((first|apply Ac|apply Af|apply Ag)<;>intro _h)<;>(simp only[push_cast,seval,rq,_h];try (have _g:=_h;simp at _g)))|intro _)
  all_goals (first|(refine Ae ?_;simp[get,<-hS,Np, *]<;>(intros;omega);done)|(refine Ai ?_;simp[push_cast,get,<-hS,Np, *];done)|skip)
  have p:(decide (((e::j).length:Int)<=40)&&Np e.toNat)=true:=by simp[Np];omega
  rw[p,Amq] at hS;refine Ak (e::j).length (Inv:=λm st=>∃dn rest n,e::j=dn++rest/\m=rest.length/\KC MM rest=S/\st=⟨[(0,.s (e::j)),(22,.i .i64 (e::j).length),(23,.i .i64 dn.length)],[],n⟩) ⟨_,Aj.refl,[],_,_,rfl,rfl,hS,by simp;rfl⟩ ?_;clear hS;rintro m _ ⟨dn,rest,n,h,rfl,g,rfl⟩;cases rest with
  | nil=>
   simp only[push_cast,seval,rq,h]
   repeat' (first|(((first|apply Ac|apply Af|apply Ag)<;>intro _h)<;>(simp only[push_cast,seval,rq,_h];try (have _g:=_h;simp at _g)))|intro _)
   all_goals (first|(refine Ae ?_;simp[get,<-g,KC, *]<;>(intros;omega);done)|(refine Ai ?_;simp[push_cast,get,<-g,KC, *];done)|skip)
  | cons c rest=>
   have q:=Ay h;simp only[push_cast,seval,rq,h,AZ c (dn:=dn) (by omega)]
   repeat' (first|(((first|apply Ac|apply Af|apply Ag)<;>intro _h)<;>(simp only[push_cast,seval,rq,_h,h,AZ c (dn:=dn) (by omega)];try (have _g:=_h;simp at _g)))|(refine Ab (by exact bQ O _) ?_;simp only[push_cast,seval,rq,h,AZ c (dn:=dn) (by omega)])|intro _)
   all_goals (first|(refine Ae ?_;simp[get,<-g,KC,MM, *]<;>(intros;omega);done)|(refine Ai ?_;simp[push_cast,get,<-g,KC,MM, *];done)|skip)
   all_goals (first|(refine⟨_,_,Adx _,Aj.refl,dn++[c],rest,_,?_,rfl,?_,rfl⟩<;>first|rfl|assumption|(simp[*];done)|(simp[<-g,KC,MM, *]<;>(intros;omega);done))|skip)
def Rz(n:Int):Bool:=decide (n>=97)&&decide (n<=122)||decide (n>=65)&&decide (n<=90)
def Fg(s:Ad):Bool:=KC Rz s&&(decide ((s.length:Int)>=1)&&decide ((s.length:Int)<=40))
theorem Sz(s:Ad)(q:s.length<Am):An π O 123 [.s s] [] (.b (Fg s)) []:=by
 generalize hS:Fg s=S;unfold Fg at hS;generalize h:(decide ((s.length:Int)>=1)&&decide ((s.length:Int)<=40))=T at hS;refine Ah (vs:=[.b S]) Ak7 (by simp) (by simp) λn0 j=>?_;clear j;simp only[push_cast,seval,rq];intro _ _;refine Ak s.length (Inv:=λm st=>∃dn rest n,s=dn++rest/\m=rest.length/\(KC Rz rest&&T)=S/\st=⟨[(0,.s s),(6,.i .i64 s.length),(7,.i .i64 dn.length)],[],n⟩) ⟨_,Aj.refl,[],_,_,rfl,rfl,hS,rfl⟩ ?_;clear hS;rintro m _ ⟨dn,rest,n,g,rfl,e,rfl⟩;cases rest with
 | nil=>
  have e:T=S:=by rw[<-e];rfl
  rw[AmY] at g;subst g;cases s with
  | nil=>
   simp only[push_cast,seval,rq]
   repeat' (first|(((first|apply Ac|apply Af|apply Ag)<;>intro _h)<;>(simp only[push_cast,seval,rq,_h];try (have _g:=_h;simp at _g)))|intro _)
   all_goals (first|(refine Ae ?_;simp[get,<-e,<-h, *]<;>(intros;omega);done)|(refine Ai ?_;simp[push_cast,get,<-e,<-h, *];done)|skip)
  | cons o r=>
   simp only[push_cast,seval,rq]
   repeat' (first|(((first|apply Ac|apply Af|apply Ag)<;>intro _h)<;>(simp only[push_cast,seval,rq,_h];try (have _g:=_h;simp at _g)))|intro _)
   all_goals (first|(refine Ae ?_;simp[get,<-e,<-h, *]<;>(intros;omega);done)|(refine Ai ?_;simp[push_cast,get,<-e,<-h, *];done)|skip)
 | cons c rest=>
  have p:=Ay g;simp only[push_cast,seval,rq,g,AZ c (dn:=dn) (by omega)]
  repeat' (first|(((first|apply Ac|apply Af|apply Ag)<;>intro _h)<;>(simp only[push_cast,seval,rq,_h,g,AZ c (dn:=dn) (by omega)];try (have _g:=_h;simp at _g)))|intro _)
  all_goals (first|(refine Ae ?_;simp[get,<-e,KC,Rz, *]<;>(intros;omega);done)|(refine Ai ?_;simp[push_cast,get,<-e,KC,Rz, *];done)|skip)
  all_goals (first|(refine⟨_,_,Adx _,Aj.refl,dn++[c],rest,_,?_,rfl,?_,rfl⟩<;>first|rfl|assumption|(simp[*];done)|(simp[<-e,KC,Rz, *]<;>(intros;omega);done))|skip)
end Go.Ir

namespace Go.Ir
variable{P:Program}{O:World}{nt n:Nat}{Q:Exit→St→Prop}{env:Bm}{σ:Au}
def Af8(e sz:Nat)(g:Bool):IC:=.ops [o1 4 (.mv (ci 0))] [0,1] []
def Ahe(e sz:Nat)(g:Bool):IC:=.ops [m1 6 0,o1 7 (.lenL (.t 6)),o1 8 (.mv (ci 0))] [0,1,7,8] []
def AgO(e sz:Nat)(g:Bool):IC:=.ops [o1 9 (.bin .lss (.t 8) (.t 7))] [0,1,7,8,9] []
def rT(e sz:Nat)(g:Bool):IC:=.cond (.t 9) .skip (.exit 0)
def iV(e sz:Nat)(g:Bool):IC:=.ops [m1 10 8,m1 5 10] [0,1,5,7,8] []
def oW(e sz:Nat)(g:Bool):IC:=.ops [m1 11 1,m1 12 0,m1 13 5,o1 14 (.iaddr (.t 12) (.t 13) e sz),o1 15 (.load (.t 14) sz g),o1 16 (.callvs (.t 11) [(.t 15)])] [0,1,5,7,8,16] []
def jM(e sz:Nat)(g:Bool):IC:=.ops [m1 17 5,m1 4 17] [4] []
def nZ(e sz:Nat)(g:Bool):IC:=.seq (jM e sz g) .ret
def kR(e sz:Nat)(g:Bool):IC:=.cond (.t 16) (nZ e sz g) .skip
def eD(e sz:Nat)(g:Bool):IC:=.seq (oW e sz g) (kR e sz g)
def p9(e sz:Nat)(g:Bool):IC:=.seq (iV e sz g) (eD e sz g)
def iE(e sz:Nat)(g:Bool):IC:=.block 1 (p9 e sz g)
def wP(e sz:Nat)(g:Bool):IC:=.ops [o1 18 (.bin .add (.t 8) (ci 1)),m1 8 18] [0,1,7,8] []
def dY(e sz:Nat)(g:Bool):IC:=.seq (iE e sz g) (wP e sz g)
def Ago(e sz:Nat)(g:Bool):IC:=.seq (rT e sz g) (dY e sz g)
def Afj(e sz:Nat)(g:Bool):IC:=.seq (AgO e sz g) (Ago e sz g)
def Aen(e sz:Nat)(g:Bool):IC:=.loop (Afj e sz g)
def AdD(e sz:Nat)(g:Bool):IC:=.block 0 (Aen e sz g)
def Aed(e sz:Nat)(g:Bool):IC:=.seq (Ahe e sz g) (AdD e sz g)
def kF(e sz:Nat)(g:Bool):IC:=.ops [o1 4 (.mv (ci (-1)))] [4] []
def eX(e sz:Nat)(g:Bool):IC:=.seq (kF e sz g) .ret
def AfB(e sz:Nat)(g:Bool):IC:=.seq (Aed e sz g) (eX e sz g)
def Me(e sz:Nat)(g:Bool):IC:=.seq (Af8 e sz g) (AfB e sz g)
def Z2:List R:=[.t 4]
def AvH(e sz:Nat)(g:Bool):=AJ (Af8.eq_1 e sz g)
def Avo(e sz:Nat)(g:Bool):=AJ (Ahe.eq_1 e sz g)
def At7(e sz:Nat)(g:Bool):=AJ (AgO.eq_1 e sz g)
def AsI(e sz:Nat)(g:Bool):=AJ (rT.eq_1 e sz g)
def AsF(e sz:Nat)(g:Bool):=AJ (iV.eq_1 e sz g)
def Ate(e sz:Nat)(g:Bool):=AJ (oW.eq_1 e sz g)
def Atb(e sz:Nat)(g:Bool):=AJ (jM.eq_1 e sz g)
def AsJ(e sz:Nat)(g:Bool):=AJ (nZ.eq_1 e sz g)
def AsG(e sz:Nat)(g:Bool):=AJ (kR.eq_1 e sz g)
def AsS(e sz:Nat)(g:Bool):=AJ (eD.eq_1 e sz g)
def AsY(e sz:Nat)(g:Bool):=AJ (p9.eq_1 e sz g)
def Atl(e sz:Nat)(g:Bool):=AJ (iE.eq_1 e sz g)
def AsE(e sz:Nat)(g:Bool):=AJ (wP.eq_1 e sz g)
def Ati(e sz:Nat)(g:Bool):=AJ (dY.eq_1 e sz g)
def Avp(e sz:Nat)(g:Bool):=AJ (Ago.eq_1 e sz g)
def Atq(e sz:Nat)(g:Bool):=AJ (Afj.eq_1 e sz g)
def Atn(e sz:Nat)(g:Bool):=AJ (Aen.eq_1 e sz g)
def Atv(e sz:Nat)(g:Bool):=AJ (AdD.eq_1 e sz g)
def At9(e sz:Nat)(g:Bool):=AJ (Aed.eq_1 e sz g)
def AsN(e sz:Nat)(g:Bool):=AJ (kF.eq_1 e sz g)
def AsV(e sz:Nat)(g:Bool):=AJ (eX.eq_1 e sz g)
def Aur(e sz:Nat)(g:Bool):=AJ (AfB.eq_1 e sz g)
def AuS(e sz:Nat)(g:Bool):=AJ (Me.eq_1 e sz g)
def Aev(g:Nat):IC:=.ops [o1 4 (.mv (.c (.b false)))] [0,1] []
def AgF(g:Nat):IC:=.ops [m1 5 0,m1 6 1,o1 7 (.calls g [(.t 5),(.t 6)]),o1 8 (.bin .geq (.t 7) (ci 0)),m1 4 8] [4] []
def AfC(g:Nat):IC:=.seq (AgF g) .ret
def Pa(g:Nat):IC:=.seq (Aev g) (AfC g)
def gJ:List R:=[.t 4]
def Auq(g:Nat):=AJ (Aev.eq_1 g)
def Ava(g:Nat):=AJ (AgF.eq_1 g)
def AtL(g:Nat):=AJ (AfC.eq_1 g)
def AtT(g:Nat):=AJ (Pa.eq_1 g)
def Aek(e:Nat):IC:=.ops [o1 4 (.mv (ci 0))] [0,1] []
def Ad0(e:Nat):IC:=.ops [m1 6 0,o1 7 (.lenL (.t 6)),o1 8 (.mv (ci 0))] [0,1,7,8] []
def AgN(e:Nat):IC:=.ops [o1 9 (.bin .lss (.t 8) (.t 7))] [0,1,7,8,9] []
def kC(e:Nat):IC:=.cond (.t 9) .skip (.exit 0)
def sN(e:Nat):IC:=.ops [m1 10 8,m1 5 10] [0,1,5,7,8] []
def jD(e:Nat):IC:=.ops [m1 11 1,m1 12 0,m1 13 5,o1 14 (.iaddr (.t 12) (.t 13) e 1),o1 15 (.load (.t 14) 1 false),o1 16 (.bin .eql (.t 11) (.t 15))] [0,1,5,7,8,16] []
def fC(e:Nat):IC:=.ops [m1 17 5,m1 4 17] [4] []
def nQ(e:Nat):IC:=.seq (fC e) .ret
def pU(e:Nat):IC:=.cond (.t 16) (nQ e) .skip
def uC(e:Nat):IC:=.seq (jD e) (pU e)
def qX(e:Nat):IC:=.seq (sN e) (uC e)
def eI(e:Nat):IC:=.block 1 (qX e)
def yB(e:Nat):IC:=.ops [o1 18 (.bin .add (.t 8) (ci 1)),m1 8 18] [0,1,7,8] []
def tZ(e:Nat):IC:=.seq (eI e) (yB e)
def Ae8(e:Nat):IC:=.seq (kC e) (tZ e)
def Afp(e:Nat):IC:=.seq (AgN e) (Ae8 e)
def AgB(e:Nat):IC:=.loop (Afp e)
def AgG(e:Nat):IC:=.block 0 (AgB e)
def Aem(e:Nat):IC:=.seq (Ad0 e) (AgG e)
def eR(e:Nat):IC:=.ops [o1 4 (.mv (ci (-1)))] [4] []
def eS(e:Nat):IC:=.seq (eR e) .ret
def Afs(e:Nat):IC:=.seq (Aem e) (eS e)
def RX(e:Nat):IC:=.seq (Aek e) (Afs e)
def AaL:List R:=[.t 4]
def At1(e:Nat):=AJ (Aek.eq_1 e)
def AvZ(e:Nat):=AJ (Ad0.eq_1 e)
def AtV(e:Nat):=AJ (AgN.eq_1 e)
def AsO(e:Nat):=AJ (kC.eq_1 e)
def Atg(e:Nat):=AJ (sN.eq_1 e)
def AsH(e:Nat):=AJ (jD.eq_1 e)
def Ata(e:Nat):=AJ (fC.eq_1 e)
def AsP(e:Nat):=AJ (nQ.eq_1 e)
def AsU(e:Nat):=AJ (pU.eq_1 e)
def Atk(e:Nat):=AJ (uC.eq_1 e)
def AsZ(e:Nat):=AJ (qX.eq_1 e)
def Atj(e:Nat):=AJ (eI.eq_1 e)
def AsW(e:Nat):=AJ (yB.eq_1 e)
def AsL(e:Nat):=AJ (tZ.eq_1 e)
def AuX(e:Nat):=AJ (Ae8.eq_1 e)
def Avm(e:Nat):=AJ (Afp.eq_1 e)
def AuJ(e:Nat):=AJ (AgB.eq_1 e)
def AvE(e:Nat):=AJ (AgG.eq_1 e)
def Awb(e:Nat):=AJ (Aem.eq_1 e)
def As9(e:Nat):=AJ (eR.eq_1 e)
def AsC(e:Nat):=AJ (eS.eq_1 e)
def Awd(e:Nat):=AJ (Afs.eq_1 e)
def Av9(e:Nat):=AJ (RX.eq_1 e)
def AeG(g:Nat):IC:=.ops [o1 4 (.mv (.c (.b false)))] [0,1] []
def Adz(g:Nat):IC:=.ops [m1 5 0,m1 6 1,o1 7 (.call g [(.t 5),(.t 6)]),o1 8 (.bin .geq (.t 7) (ci 0)),m1 4 8] [4] []
def Aft(g:Nat):IC:=.seq (Adz g) .ret
def W7(g:Nat):IC:=.seq (AeG g) (Aft g)
def Ajr:List R:=[.t 4]
def AuW(g:Nat):=AJ (AeG.eq_1 g)
def Avl(g:Nat):=AJ (Adz.eq_1 g)
def Aui(g:Nat):=AJ (Aft.eq_1 g)
def AvT(g:Nat):=AJ (W7.eq_1 g)
attribute[push_cast]AvH Avo At7 AsI AsF Ate Atb AsJ AsG AsS AsY Atl AsE Ati Avp Atq Atn Atv At9 AsN AsV Aur AuS Auq Ava AtL AtT At1 AvZ AtV AsO Atg AsH Ata AsP AsU Atk AsZ Atj AsW AsL AuX Avm AuJ AvE Awb As9 AsC Awd Av9 AuW Avl Aui AvT
end Go.Ir

namespace Go.Ir
open Go.Proofs
variable{P:Program}(O:World){α:Type}
def BT(p:α->Bool):List α->Int
 | []=>-1
 | x::xs=>bif p x then 0 else if BT p xs<0 then -1 else BT p xs+1
theorem G2(p:α->Bool):∀xs,decide (BT p xs>=0)=xs.any p
 | []=>by simp[BT]
 | x::xs=>by
  have e:=G2 p xs;rw[A00,<-e];rcases Ayd (p x) with hp|hp
  .simp[BT,hp]
  .simp only[BT,hp,A0c,Asc];grind
theorem GO(p:α->Bool):∀xs,-1<=BT p xs
 | []=>by simp[BT]
 | x::xs=>by have e:=GO p xs;simp only[BT];cases p x<;>simp;split<;>omega
def RC(e:Bool)(sz:Nat)(v:V):Prop:=(cells v).length=sz/\sub v 0 sz e=some v
theorem Jl{sz cs}(h:cs.length=sz):RC true sz (.agg cs):=by subst h;simp[RC,cells,sub,QZ]
theorem RC.get{e sz v}(h:RC e sz v):(if e=true then some (V.agg (cells v)) else(cells v)[0]?)=some v:=by have:=h.2;unfold sub at this;simpa[h.1,QZ] using this
theorem uU{v}(h:cells v=[v]):RC false 1 v:=by simp[RC,h,sub]
theorem Dr{f e sz:Nat}{ag}(hck:Ar P f 19 (Me e sz ag) Z2=true) enc xs (p:α->Bool) g first caps σ 
  (hc:∀x∈xs,RC ag sz (enc x))(hg:∀x∈xs,An P O g (first++[enc x]++caps) σ (.b (p x)) σ)(hlen:xs.length<2^62) :
  An P O f [.sl (xs.map enc),.fn g first caps] σ (.i .i64 (BT p xs)) σ:=by
 generalize hS:BT p xs=S
 refine Ah (vs:=[.i .i64 S]) hck (by simp) (fun _ h=>h) fun n0 hn0=>?_
 simp only[push_cast,rq]
 intro _ _
 refine Ak xs.length (Inv:=fun m st=>∃dn rest n,xs=dn++rest/\m=rest.length/\(if BT p rest<0 then -1 else BT p rest+dn.length)=S/\st=⟨[(0,.sl (xs.map enc)),(1,.fn g first caps),(7,.i .i64 xs.length),(8,.i .i64 dn.length)],σ,n⟩) ⟨_,Aj.refl,[],_,_,rfl,rfl,?_,rfl⟩ ?_
 .have:=GO p xs
  rw[<-hS];simp;omega
 clear hS
 rintro m _ ⟨dn,rest,n,hz,rfl,hd,rfl⟩
 cases rest with
 | nil=>
  simp only[push_cast,rq,hz]
  intro _ _
  refine AC ?_ (fun _ _ h=>h)
  rw[<-hd];simp[BT,get]
 | cons x rest=>
  have hb:=Ay hz
  have hx:x∈xs:=by rw[hz];simp
  have h1:=(hc x hx).1
  have h2:=(hc x hx).get
  simp only[push_cast,rq,hz,h1,h2]
  intro _ _
  refine BJ (σi:=σ) (σo:=σ) (hg x hx) (fun _ _ h=>h) ?_
  rw[Db]
  simp only[push_cast,rq]
  intro _
  (apply spl<;>intro hp)<;>simp only[push_cast,rq,Aa x (dn:=dn) (by omega)]
  .intro _
   refine AC ?_ (fun _ _ h=>h)
   rw[<-hd]
   simp[BT,hp,get]
  .intro _
   refine⟨_,_,Adx _,Aj.refl,dn++[x],rest,_,by simp ,rfl,?_,rfl⟩
   rw[<-hd]
   have hlo:=GO p rest
   simp only[BT,hp,A0c]
   grind
theorem Dd{f g:Nat}(e:Ar P f 9 (Pa g) gJ=true) v w i σ (h:An P O g [v,w] σ (.i .i64 i) σ):An P O f [v,w] σ (.b (decide (i>=0))) σ:=by refine Ah (vs:=[.b (decide (i>=0))]) e (by simp) (λ_ h=>h) λn0 j=>?_;simp only[push_cast];intro _;refine BJ (σi:=σ) (σo:=σ) h (λ_ _ h=>h) ?_;rw[Db];simp only[push_cast];intro _;exact AC (by simp[get]) (λ_ _ h=>h)
theorem jO{n d e x id σ}(g:id.1<n)(h:lk σ id=some e):lk (((n,d),x)::σ) id=some e:=by simp only[lk];grind
theorem Mr{f e:Nat}(g:Ar P f 19 (RX e) AaL=true)(xs:List Ad)(v:Ad)(o:xs.length<2^62):An P O f [.sl (xs.map V.s),.s v] [] (.i .i64 (BT (λx=>v==x) xs)) []:=by
 generalize hS:BT (λx=>v==x) xs=S;refine Ah (vs:=[.i .i64 S]) g (by simp) (by simp) λn0 q=>?_;simp only[push_cast,rq];intro _ _;refine Ak xs.length (Inv:=λm st=>∃dn rest n,xs=dn++rest/\m=rest.length/\(if BT (λx=>v==x) rest<0 then -1 else BT (λx=>v==x) rest+dn.length)=S/\st=⟨[(0,.sl (xs.map V.s)),(1,.s v),(7,.i .i64 xs.length),(8,.i .i64 dn.length)],[],n⟩) ⟨_,Aj.refl,[],_,_,rfl,rfl,?_,rfl⟩ ?_
 .have:=GO (λx=>v==x) xs;rw[<-hS];simp;omega
 clear hS;rintro m _ ⟨dn,rest,n,j,rfl,h,rfl⟩;cases rest with
 | nil=>simp only[push_cast,rq,j];intro _ _;refine Ae ?_;rw[<-h];simp[BT,get]
 | cons x rest=>
  have r:=Ay j;simp only[push_cast,rq,j];intro _ _ _
  (apply spl<;>intro hp)<;>simp only[push_cast,rq,Aa x (dn:=dn) (by omega)]
  .intro _;refine Ae ?_;rw[<-h];simp[BT,hp,get]
  .intro _;refine⟨_,_,Adx _,Aj.refl,dn++[x],rest,_,by simp ,rfl,?_,rfl⟩;rw[<-h];have p:=GO (λx=>v==x) rest;simp only[BT,hp,A0c];grind
theorem UV{f e:Nat}(g:Ar P f 19 (RX e) AaL=true)(xs:List Int)(v:Int)(o:xs.length<2^62):An P O f [.sl (xs.map (V.i .i64)),.i .i64 v] [] (.i .i64 (BT (λx=>v==x) xs)) []:=by
 generalize hS:BT (λx=>v==x) xs=S;refine Ah (vs:=[.i .i64 S]) g (by simp) (by simp) λn0 q=>?_;simp only[push_cast,rq];intro _ _;refine Ak xs.length (Inv:=λm st=>∃dn rest n,xs=dn++rest/\m=rest.length/\(if BT (λx=>v==x) rest<0 then -1 else BT (λx=>v==x) rest+dn.length)=S/\st=⟨[(0,.sl (xs.map (V.i .i64))),(1,.i .i64 v),(7,.i .i64 xs.length),(8,.i .i64 dn.length)],[],n⟩) ⟨_,Aj.refl,[],_,_,rfl,rfl,?_,rfl⟩ ?_
 .have:=GO (λx=>v==x) xs;rw[<-hS];simp;omega
 clear hS;rintro m _ ⟨dn,rest,n,j,rfl,h,rfl⟩;cases rest with
 | nil=>simp only[push_cast,rq,j];intro _ _;refine Ae ?_;rw[<-h];simp[BT,get]
 | cons x rest=>
  have r:=Ay j;simp only[push_cast,rq,j];intro _ _ _
  (apply spl<;>intro hp)<;>simp only[push_cast,rq,Aa x (dn:=dn) (by omega)]
  .intro _;refine Ae ?_;rw[<-h];simp[BT,hp,get]
  .intro _;refine⟨_,_,Adx _,Aj.refl,dn++[x],rest,_,by simp ,rfl,?_,rfl⟩;rw[<-h];have p:=GO (λx=>v==x) rest;simp only[BT,hp,A0c];grind
theorem I2{f g:Nat}(e:Ar P f 9 (W7 g) Ajr=true) v w i (h:An P O g [v,w] [] (.i .i64 i) []):An P O f [v,w] [] (.b (decide (i>=0))) []:=by
 refine Ah (vs:=[.b (decide (i>=0))]) e (by simp) (by simp) λn0 j=>?_;simp only[push_cast];repeat' (first|(first|(apply spl<;>intro _h)|refine Ab h ?_)<;>(simp only[push_cast];try (have _g:=_h;simp at _g))|intro _)
 all_goals (first|(refine Ae ?_;simp[get]<;>(intros;omega);done)|(exact frs;done)|skip)
end Go.Ir
section
namespace Go.Ir
open Go.Proofs
variable{P:Program}(O:World){α:Type}
section
variable{P:Program}{O:World}{nt n:Nat}{Q:Exit→St→Prop}{env:Bm}{σ:Au}
def AeF(g:Nat):List I:=[⟨some 4,.mv (.c (.b false)),none,[]⟩]
def fS(g:Nat):IC:=.ops (AeF g) [0,1] []
theorem Avb{g}:aW P O nt (fS g) Q ⟨env,σ,n⟩=J P O n [0,1] Q (AeF g) env σ:=rfl
def Agg(g:Nat):List I:=[⟨some 5,.mv (.t 0),none,[]⟩,
 ⟨some 6,.mv (.t 1),none,[]⟩,
 ⟨some 7,.calls g [(.t 5),(.t 6)],none,[]⟩,
 ⟨some 8,.bin .geq (.t 7) (.c (.i .i64 0)),none,[]⟩,
 ⟨some 4,.mv (.t 8),none,[]⟩]
def s8(g:Nat):IC:=.ops (Agg g) [4] []
theorem AvW{g}:aW P O nt (s8 g) Q ⟨env,σ,n⟩=J P O n [4] Q (Agg g) env σ:=rfl
def tB(g:Nat):IC:=.seq (s8 g) .ret
theorem AuT{g}:aW P O nt (tB g) Q ⟨env,σ,n⟩=aW P O nt (s8 g) (Nv P O nt .ret Q) ⟨env,σ,n⟩:=rfl
def Asj(g:Nat):IC:=.seq (fS g) (tB g)
theorem Avj{g}:aW P O nt (Asj g) Q ⟨env,σ,n⟩=aW P O nt (fS g) (Nv P O nt (tB g) Q) ⟨env,σ,n⟩:=rfl
attribute[push_cast]AeF Avb Agg AvW AuT Avj
end
end Go.Ir
end
namespace Go.Ir
open Go.Proofs
variable{P:Program}{O:World}{nt n:Nat}{Q:Exit→St→Prop}{env:Bm}{σ:Au}
def gX:IC:=sQ (.block 3 (oP [m1 21 3,m1 22 0,m1 23 4,iA 24 22 23 119 1,l1 25 24,m1 26 5,iA 27 25 26 122 4,fA 28 27 3,l1 29 28,nL 30 29,o1 31 (.bin .add (ci 1) (.t 30)),bT 32 .add 21 31,m1 3 32] [0,3,4,5])) (oP [m1 19 5,bZ 20 .add 19 1,m1 5 20] [0,3,4,5])
def yS:IC:=sQ (.block 1 (sQ (oS [mZ 5 0] [0,3,4,5] (.block 2 (.loop (sQ (oS [m1 12 5,m1 13 0,m1 14 4,iA 15 13 14 119 1,l1 16 15,nL 17 16,bT 18 .lss 12 17] [0,3,4,5,18] (cD 18 .skip (.exit 2))) gX)))) (oS [m1 33 3,bZ 34 .gtr 33 80] [0,3,4,34] (cD 34 (oR [mC 2 (.b false)] [2]) .skip)))) (oP [m1 10 4,bZ 11 .add 10 1,m1 4 11] [0,3,4])
def Aer:IC:=oS [mZ 3 0] [0,3] (sQ (oS [mZ 4 0] [0,3,4] (.block 0 (.loop (sQ (oS [m1 6 4,m1 7 0,nL 8 7,bT 9 .lss 6 8] [0,3,4,9] (cD 9 .skip (.exit 0))) yS)))) (oR [m1 35 0,nL 36 35,bZ 37 .leq 36 30,m1 2 37] [2]))
def Ael:IC:=oS [mC 2 (.b false)] [0] Aer
def Auv:List R:=[.t 2]
def Aza:=Ao gX.eq_1<|Ao yS.eq_1<|Ao Aer.eq_1<|AJ Ael.eq_1
theorem Aom:Ar π 38 38 Ael Auv=true:=by kernel_rfl
attribute[push_cast]Auv Aza
end Go.Ir
section
namespace Go.Ir
open Go.Proofs
variable(O:World)
mutual
def Al.solid:Al->Bool
 | ⟨k,_,_,_,cs,ps⟩=>!Bk k&&LC ps&&Wo cs
def LC:List Al->Bool
 | []=>true
 | p::ps=>p.solid&&LC ps
def Wo:List (Ad×List Al)->Bool
 | []=>true
 | (_,ps)::cs=>LC ps&&Wo cs
end
end Go.Ir
end
namespace Go.Ir
open Go.Proofs
variable(O:World)
def Sf(n:Int):Bool:=n==7||n==8||n==9
theorem lZ n:Sf n=Bk n:=by unfold Sf Bk;grind
theorem AjX(n:Int):An π O 30 [.i .i64 n] [] (.b (Bk n)) []:=by
 rw[<-lZ];refine Ah (vs:=[.b (Sf n)]) AnN (by simp) (by simp) λn0 e=>?_;clear e;simp only[push_cast,seval,rq]
 repeat' (first|(((first|apply Ac|apply Af|apply Ag)<;>intro _h)<;>(simp only[push_cast,seval,rq,_h];try (have _g:=_h;simp at _g)))|intro _)
 all_goals (first|(refine Ae ?_;simp[get,Sf, *]<;>(intros;omega);done)|(refine Ai ?_;simp[push_cast,get,Sf, *];done)|skip)
end Go.Ir
section
namespace Go.Ir
open Go.Proofs
variable(O:World)
mutual
def Al.depth:Al->Nat
 | ⟨_,_,_,_,cs,ps⟩=>max (max 1 (1+Bz ps)) (DU cs)
def Bz:List Al->Nat
 | []=>0
 | p::ps=>max p.depth (Bz ps)
def DU:List (Ad×List Al)->Nat
 | []=>0
 | (_,ps)::cs=>max (1+Bz ps) (DU cs)
end
theorem Al.depth_eq(p:Al):p.depth=max (max 1 (1+Bz p.parts)) (DU p.cases):=by cases p;simp[Al.depth]
theorem Fb p ps:Bz (p::ps)=max p.depth (Bz ps):=by simp[Bz]
theorem J1(c:AR)(ps:List AR):DU (c::ps)=max (1+Bz c.2) (DU ps):=by have ⟨k,q⟩:=c;simp[DU]
theorem yC:(∀p:Al,p.depth<=p.wt):=by
 have key:∀N:Nat,(∀ps:List Al,AV ps<N->Bz ps<=AV ps):=by
  intro N
  induction N with
  | zero=>intro ps h;omega
  | succ N i=>
   have g:∀cs:List AR,DY cs<N->DU cs<=DY cs:=by
    intro cs
    induction cs with
    | nil=>intro _;simp[DU]
    | cons c cs e=>intro h;rw[B8] at h;rw[J1,B8];grind
   intro ps
   induction ps with
   | nil=>intro _;simp[Bz]
   | cons p ps e=>intro h;rw[Bw] at h;rw[Fb,Bw];have:=e (by omega);rw[p.wt_eq] at *;rw[p.depth_eq];grind
 intro p;have:=key _ [p] (Adx _);rw[Fb,Bw,wG] at this;omega
theorem MT ps:Bz ps<=AV ps:=by
 induction ps with
 | nil=>simp[Bz]
 | cons p ps e=>rw[Fb,Bw];have:=yC p;omega
theorem AaD:∀(N) (ps),AV ps<N->AV ps<=2^24->An π O 40 [.sl (ps.map Al.enc)] [] (.i .i64 (Bz ps)) []:=by
 intro N
 induction N with
 | zero=>intro ps h;omega
 | succ N z=>
 intro ps J L;generalize hS:(Bz ps:Int)=S;refine Ah (vs:=[.i .i64 S]) Aqj (by simp) (by simp) λn0 w=>?_;clear w;simp only[push_cast,seval,rq];intros;have y:=Fp ps;refine Ak ps.length (Inv:=λm st=>∃dn rest n d,ps=dn++rest/\m=rest.length/\max d (Bz rest:Int)=S/\0<=d/\st=⟨[(0,.sl (ps.map Al.enc)),(3,.i .i64 d),(4,.i .i64 dn.length)],[],n⟩) ⟨_,Aj.refl,[],ps,_,0,rfl,rfl,by rw[<-hS];omega,by omega,rfl⟩ ?_;clear hS;rintro m _ ⟨dn,rest,n,d,g,rfl,r,q,rfl⟩;cases rest with
 | nil=>
  rw[Bz] at r;simp only[push_cast,seval,rq,g]
  repeat' (first|(((first|apply Ac|apply Af|apply Ag)<;>intro _h)<;>(simp only[push_cast,seval,rq,_h];try (have _g:=_h;simp at _g)))|intro _)
  have:d=S:=by omega
  subst this
  all_goals (first|(refine Ae ?_;simp[get]<;>(intros;omega);done)|(refine Ai ?_;simp[push_cast,get];done)|skip)
 | cons p rest=>
  have B:=Ay g;have G:=Gi (ps:=ps) (p:=p) (by rw[g];simp);rw[p.wt_eq] at G;have E:=Fn p.cases;have F:=MT p.parts;rw[Fb,p.depth_eq] at r;simp only[push_cast,seval,rq,g,Aa p (dn:=dn) (by omega)]
  repeat' (first|(((first|apply Ac|apply Af|apply Ag)<;>intro _h)<;>(simp only[push_cast,seval,rq,_h,g,Aa p (dn:=dn) (by omega)];try (have _g:=_h;simp at _g)))|(refine Ab (by exact z p.parts (by omega) (by omega)) ?_;simp only[push_cast,seval,rq,g,Aa p (dn:=dn) (by omega)])|intro _)
  have A:IntKind.i64.wrap (1+(Bz p.parts:Int))=1+(Bz p.parts:Int):=wrap64 (by omega) (by omega);simp only[push_cast,seval,rq,g,Aa p (dn:=dn) (by omega),A];have s:max (max (max (max d 1) (1+(Bz p.parts:Int))) (DU p.cases)) (Bz rest)=S:=by omega
  refine Ak p.cases.length (Inv:=λm st=>∃j o n d,p.cases=j++o/\m=o.length/\max (max d (DU o:Int)) (Bz rest:Int)=S/\0<=d/\st=⟨[(0,.sl (ps.map Al.enc)),(3,.i .i64 d),(4,.i .i64 dn.length),(5,.i .i64 j.length)],[],n⟩) ⟨_,Aj.refl,[],p.cases,_,_,rfl,rfl,s,by omega,by rw[g];rfl⟩ ?_;clear r s q d;rintro m _ ⟨j,o,n,d,e,rfl,r,q,rfl⟩;cases o with
  | nil=>rw[DU] at r;simp only[push_cast,seval,rq,g,Aa p (dn:=dn) (by omega),e];intros;exact⟨_,_,Adx _,Aj.refl,dn++[p],rest,_,d,by simp,rfl,by omega,q,rfl⟩
  | cons c o=>
   have H:=DM (cs:=p.cases) (c:=c) (by simp[e]);have C:=Ay e;have D:=MT c.2;rw[J1] at r;have u:IntKind.i64.wrap (1+(Bz c.2:Int))=1+(Bz c.2:Int):=wrap64 (by omega) (by omega);simp only[push_cast,seval,rq,g,e,Aa c (dn:=j) (by omega),u]
   repeat' (first|(((first|apply Ac|apply Af|apply Ag)<;>intro _h)<;>(simp only[push_cast,seval,rq,_h,g,e,Aa c (dn:=j) (by omega),u];try (have _g:=_h;simp at _g)))|(refine Ab (by exact z c.2 (by omega) (by omega)) ?_;simp only[push_cast,seval,rq,g,e,Aa c (dn:=j) (by omega),u])|intro _)
   exact⟨_,_,Adx _,Aj.refl,j++[c],o,_,_,by simp[e],rfl,by omega,by omega,rfl⟩
mutual
def Al.size:Al->Nat
 | ⟨_,t,_,_,cs,ps⟩=>1+B5 ps+t.length / 20+Fk cs
def B5:List Al->Nat
 | []=>0
 | p::ps=>p.size+B5 ps
def Fk:List (Ad×List Al)->Nat
 | []=>0
 | (_,ps)::cs=>1+B5 ps+Fk cs
end
theorem Al.size_eq(p:Al):p.size=1+B5 p.parts+p.text.length / 20+Fk p.cases:=by cases p;simp[Al.size]
theorem KU p ps:B5 (p::ps)=p.size+B5 ps:=by simp[B5]
theorem KY(c:AR)(ps:List AR):Fk (c::ps)=1+B5 c.2+Fk ps:=by have ⟨k,q⟩:=c;simp[Fk]
theorem zL:∀N:Nat,(∀ps:List Al,AV ps<N->B5 ps<=AV ps):=by
 intro N
 induction N with
 | zero=>intro ps h;omega
 | succ N i=>
  have g:∀cs:List AR,DY cs<N->Fk cs<=DY cs:=by
   intro cs
   induction cs with
   | nil=>intro _;simp[Fk]
   | cons c cs e=>intro h;rw[B8] at h;rw[KY,B8];grind
  intro ps
  induction ps with
  | nil=>intro _;simp[B5]
  | cons p ps e=>intro h;rw[Bw] at h;rw[KU,Bw];have:=e (by omega);rw[p.wt_eq] at *;rw[p.size_eq];grind
theorem Kt ps:B5 ps<=AV ps:=zL _ ps (Adx _)
theorem Ai1:∀(N) (ps),AV ps<N->AV ps<=2^24->An π O 41 [.sl (ps.map Al.enc)] [] (.i .i64 (B5 ps)) []:=by
 intro N
 induction N with
 | zero=>intro ps h;omega
 | succ N B=>
 intro ps U W;generalize hS:(B5 ps:Int)=S;refine Ah (vs:=[.i .i64 S]) ArG (by simp) (by simp) λn0 y=>?_;clear y;simp only[push_cast,seval,rq];intros;have A:=Fp ps;have T:=Kt ps;have E:S<=2^24:=by omega
 refine Ak ps.length (Inv:=λm st=>∃dn rest n d,ps=dn++rest/\m=rest.length/\d+(B5 rest:Int)=S/\0<=d/\st=⟨[(0,.sl (ps.map Al.enc)),(3,.i .i64 d),(4,.i .i64 dn.length)],[],n⟩) ⟨_,Aj.refl,[],ps,_,0,rfl,rfl,by rw[<-hS];omega,by omega,rfl⟩ ?_;clear hS;rintro m _ ⟨dn,rest,n,d,g,rfl,r,q,rfl⟩;cases rest with
 | nil=>
  rw[B5] at r;simp only[push_cast,seval,rq,g]
  repeat' (first|(((first|apply Ac|apply Af|apply Ag)<;>intro _h)<;>(simp only[push_cast,seval,rq,_h];try (have _g:=_h;simp at _g)))|intro _)
  have:d=S:=by omega
  subst this
  all_goals (first|(refine Ae ?_;simp[get]<;>(intros;omega);done)|(refine Ai ?_;simp[push_cast,get];done)|skip)
 | cons p rest=>
  have F:=Ay g;have M:=Gi (ps:=ps) (p:=p) (by rw[g];simp);rw[p.wt_eq] at M;have J:=Fn p.cases;have L:=Kt p.parts;rw[KU,p.size_eq] at r;simp only[push_cast,seval,rq,g,Aa p (dn:=dn) (by omega)]
  repeat' (first|(((first|apply Ac|apply Af|apply Ag)<;>intro _h)<;>(simp only[push_cast,seval,rq,_h,g,Aa p (dn:=dn) (by omega)];try (have _g:=_h;simp at _g)))|(refine Ab (by exact B p.parts (by omega) (by omega)) ?_;simp only[push_cast,seval,rq,g,Aa p (dn:=dn) (by omega)])|intro _)
  have e0:IntKind.i64.wrap ((p.text.length:Int).tdiv 20)=(p.text.length:Int) / 20:=by rw[AzJ (by omega),wrap64 (by omega) (by omega)]
  have C:IntKind.i64.wrap (1+(B5 p.parts:Int))=1+(B5 p.parts:Int):=wrap64 (by omega) (by omega);have D:IntKind.i64.wrap (1+(B5 p.parts:Int)+(p.text.length:Int) / 20)=1+(B5 p.parts:Int)+(p.text.length:Int) / 20:=wrap64 (by omega) (by omega);have z:IntKind.i64.wrap (d+(1+(B5 p.parts:Int)+(p.text.length:Int) / 20))=d+(1+(B5 p.parts:Int)+(p.text.length:Int) / 20):=wrap64 (by omega) (by omega);simp only[push_cast,seval,rq,g,Aa p (dn:=dn) (by omega),e0,C,D,z];have s:d+(1+(B5 p.parts:Int)+(p.text.length:Int) / 20)+Fk p.cases+B5 rest=S:=by omega
  refine Ak p.cases.length (Inv:=λm st=>∃j o n d,p.cases=j++o/\m=o.length/\d+(Fk o:Int)+(B5 rest:Int)=S/\0<=d/\st=⟨[(0,.sl (ps.map Al.enc)),(3,.i .i64 d),(4,.i .i64 dn.length),(5,.i .i64 j.length)],[],n⟩) ⟨_,Aj.refl,[],p.cases,_,_,rfl,rfl,s,by omega,by rw[g];rfl⟩ ?_;clear r s q z d;rintro m _ ⟨j,o,n,d,e,rfl,r,q,rfl⟩;cases o with
  | nil=>rw[Fk] at r;simp only[push_cast,seval,rq,g,Aa p (dn:=dn) (by omega),e];intros;exact⟨_,_,Adx _,Aj.refl,dn++[p],rest,_,d,by simp,rfl,by omega,q,rfl⟩
  | cons c o=>
   have R:=DM (cs:=p.cases) (c:=c) (by simp[e]);have G:=Ay e;have H:=Kt c.2;rw[KY] at r;have u:IntKind.i64.wrap (1+(B5 c.2:Int))=1+(B5 c.2:Int):=wrap64 (by omega) (by omega);have w:IntKind.i64.wrap (d+(1+(B5 c.2:Int)))=d+(1+(B5 c.2:Int)):=wrap64 (by omega) (by omega);simp only[push_cast,seval,rq,g,e,Aa c (dn:=j) (by omega),u,w]
   repeat' (first|(((first|apply Ac|apply Af|apply Ag)<;>intro _h)<;>(simp only[push_cast,seval,rq,_h,g,e,Aa c (dn:=j) (by omega),u,w];try (have _g:=_h;simp at _g)))|(refine Ab (by exact B c.2 (by omega) (by omega)) ?_;simp only[push_cast,seval,rq,g,e,Aa c (dn:=j) (by omega),u,w])|intro _)
   exact⟨_,_,Adx _,Aj.refl,j++[c],o,_,_,by simp[e],rfl,by omega,by omega,rfl⟩
def JN(ps:List Al):Bool:=decide ((Bz ps:Int)<=12)&&decide ((B5 ps:Int)<=300)&&CI ps
theorem An8 ps (e:AV ps<=2^24):An π O 24 [.sl (ps.map Al.enc)] [] (.b (JN ps)) []:=by
 refine Ah (vs:=[.b (JN ps)]) AqU (by simp) (by simp) λn0 g=>?_;clear g;simp only[push_cast,seval,rq]
 repeat' (first|(((first|apply Ac|apply Af|apply Ag)<;>intro _h)<;>(simp only[push_cast,seval,rq,_h];try (have _g:=_h;simp at _g)))|((first|refine Ab (by exact AaD O _ ps (Adx _) e) ?_|refine Ab (by exact Ai1 O _ ps (Adx _) e) ?_|refine Ab (by exact cE O _ ps (Adx _) e) ?_);simp only[push_cast,seval,rq])|intro _)
 all_goals (first|(refine Ae ?_;simp[get,JN, *]<;>(intros;omega);done)|(refine Ai ?_;simp[push_cast,get,JN, *];done)|skip)
end Go.Ir
end
namespace Go.Ir
open Go.Proofs
variable(O:World)
end Go.Ir

namespace Go.Ir
structure Hi where
 lo:Int
 hi:Int
structure Fq where
 op:Int
 mod:Int
 neg:Bool
 spans:List Hi
structure AH where
 cls:Ad
 cond:List (List Fq)
def Hi.enc(s:Hi):V:=.agg [.i .i64 s.lo,.i .i64 s.hi]
def Fq.enc(r:Fq):V:=.agg [.i .i64 r.op,.i .i64 r.mod,.b r.neg,.sl (r.spans.map Hi.enc)]
def Ei(l:List Fq):V:=.sl (l.map Fq.enc)
def AH.enc(r:AH):V:=.agg [.s r.cls,.sl (r.cond.map Ei)]
theorem Hi.enc_eq(s:Hi):s.enc=.agg [.i .i64 s.lo,.i .i64 s.hi]:=rfl
theorem Fq.enc_eq(r:Fq):r.enc=.agg [.i .i64 r.op,.i .i64 r.mod,.b r.neg,.sl (r.spans.map Hi.enc)]:=rfl
theorem T2 l:Ei l=.sl (l.map Fq.enc):=rfl
theorem AH.enc_eq(r:AH):r.enc=.agg [.s r.cls,.sl (r.cond.map Ei)]:=rfl
def Fq.wt(r:Fq):Nat:=1+r.spans.length
def CN:List Fq->Nat
 | []=>1
 | r::e=>r.wt+CN e
def D8:List (List Fq)->Nat
 | []=>0
 | r::e=>CN r+D8 e
def AH.wt(r:AH):Nat:=1+r.cls.length+D8 r.cond
def A9:List AH->Nat
 | []=>0
 | r::e=>r.wt+A9 e
theorem GM{l r}(h:r∈l):r.wt<=CN l:=by
 induction l with
 | nil=>cases h
 | cons d l e=>rw[CN];grind
theorem GP{l r}(h:r∈l):CN r<=D8 l:=by
 induction l with
 | nil=>cases h
 | cons d l e=>rw[D8];grind
theorem E9{l r}(h:r∈l):r.wt<=A9 l:=by
 induction l with
 | nil=>cases h
 | cons d l e=>rw[A9];grind
theorem Eq l:l.length<CN l:=by
 induction l with
 | nil=>simp[CN]
 | cons d l e=>rw[CN,Aa8,Fq.wt];omega
theorem GS l:l.length<=D8 l:=by
 induction l with
 | nil=>simp
 | cons d l e=>rw[D8,Aa8];have:=Eq d;omega
theorem ED l:l.length<=A9 l:=by
 induction l with
 | nil=>simp
 | cons d l e=>rw[A9,Aa8,AH.wt];omega
structure Loc where
 tag:Ad
 parent:Ad
 dir:Ad
 card:List AH
 ord:List AH
 rest:List V
def Loc.enc(l:Loc):V:=.agg (.s l.tag :: .s l.parent :: .s l.dir :: .sl (l.card.map AH.enc) :: .sl (l.ord.map AH.enc)::l.rest)
theorem Loc.enc_eq(l:Loc):l.enc=.agg (.s l.tag :: .s l.parent :: .s l.dir :: .sl (l.card.map AH.enc) :: .sl (l.ord.map AH.enc)::l.rest):=rfl
attribute[push_cast]Hi.enc_eq Fq.enc_eq T2 AH.enc_eq Loc.enc_eq
end Go.Ir
section
namespace Go.Ir
structure Cp where
 style:Ad
 two:Ad
 start:Ad
 mid:Ad
 fin:Ad
structure De where
 unit:Ad
 cls:Ad
 pat:Ad
structure CJ where
 skel:Ad
 pat:Ad
structure Ce where
 tag:Ad
 parent:Ad
 dir:Ad
 card:List AH
 ord:List AH
 dec:Ad
 grp:Ad
 minus:Ad
 perc:Ad
 prim:Int
 sec:Int
 lists:List Cp
 units:List De
 dates:List CJ
 months:List Ad
 days:List Ad
def Cp.enc(x:Cp):V:=.agg [.s x.style,.s x.two,.s x.start,.s x.mid,.s x.fin]
def De.enc(x:De):V:=.agg [.s x.unit,.s x.cls,.s x.pat]
def CJ.enc(x:CJ):V:=.agg [.s x.skel,.s x.pat]
theorem Cp.enc_eq(x:Cp):x.enc=.agg [.s x.style,.s x.two,.s x.start,.s x.mid,.s x.fin]:=rfl
theorem De.enc_eq(x:De):x.enc=.agg [.s x.unit,.s x.cls,.s x.pat]:=rfl
theorem CJ.enc_eq(x:CJ):x.enc=.agg [.s x.skel,.s x.pat]:=rfl
def Ce.enc(l:Ce):V:=.agg [.s l.tag,.s l.parent,.s l.dir,.sl (l.card.map AH.enc),.sl (l.ord.map AH.enc),.s l.dec,.s l.grp,.s l.minus,.s l.perc,.i .i64 l.prim,.i .i64 l.sec,.sl (l.lists.map Cp.enc),.sl (l.units.map De.enc),.sl (l.dates.map CJ.enc),.sl (l.months.map V.s),.sl (l.days.map V.s)]
theorem Ce.enc_eq(l:Ce):l.enc=.agg [.s l.tag,.s l.parent,.s l.dir,.sl (l.card.map AH.enc),.sl (l.ord.map AH.enc),.s l.dec,.s l.grp,.s l.minus,.s l.perc,.i .i64 l.prim,.i .i64 l.sec,.sl (l.lists.map Cp.enc),.sl (l.units.map De.enc),.sl (l.dates.map CJ.enc),.sl (l.months.map V.s),.sl (l.days.map V.s)]:=rfl
def Cp.wt(x:Cp):Nat:=1+x.style.length+x.two.length+x.start.length+x.mid.length+x.fin.length
def De.wt(x:De):Nat:=1+x.unit.length+x.cls.length+x.pat.length
def CJ.wt(x:CJ):Nat:=1+x.skel.length+x.pat.length
def Bt{α:Type}(f:α->Nat):List α->Nat
 | []=>0
 | x::l=>f x+Bt f l
theorem Jj{α f x}{l:List α}(h:x∈l):f x<=Bt f l:=by
 induction l with
 | nil=>cases h
 | cons d l e=>rw[Bt];grind
theorem CX{α f}(e:∀x,1<=f x)(l:List α):l.length<=Bt f l:=by
 induction l with
 | nil=>simp
 | cons d l g=>rw[Bt,Aa8];have:=e d;omega
def swt(s:Ad):Nat:=1+s.length
def Ce.wt(l:Ce):Nat:=1+l.tag.length+l.parent.length+l.dir.length+A9 l.card+A9 l.ord+l.dec.length+l.grp.length+l.minus.length+l.perc.length+Bt Cp.wt l.lists+Bt De.wt l.units+Bt CJ.wt l.dates+Bt swt l.months+Bt swt l.days
attribute[push_cast]Cp.enc_eq De.enc_eq CJ.enc_eq Ce.enc_eq
mutual
def Al.bare:Al->Bool
 | ⟨k,_,_,_,_,ps⟩=>(k==1||k==11)&&cO ps
def cO:List Al->Bool
 | []=>true
 | p::ps=>p.bare&&cO ps
end
mutual
def Al.out:Al->Ad
 | ⟨k,t,e,_,_,ps⟩=>if k==1 then t else([60]++e++[62])++AfI ps++([60,47]++e++[62])
def AfI:List Al->Ad
 | []=>[]
 | p::ps=>p.out++AfI ps
end
end Go.Ir
end
namespace Go.Ir
def B4(s:Ad):Bool:=s.all λc=>!(decide (c<48)||decide (c>57))
def Ef(s:Ad):Bool:=s.all λc=>c==48
def Jw(s:Ad):Bool:=match s with
 | 45::_=>true
 | _=>false
def Fi(s:Ad):Ad:=if Jw s then s.tail else s
def AI(s:Ad):Ad:=(Fi s).takeWhile (· != 46)
def NW(s:Ad):Ad:=(Fi s).dropWhile (· != 46)
def Ba(s:Ad):Ad:=(NW s).tail
def lB(s:Ad):Bool:=match s[0]? with
 | some c=>(c.toNat:Int)==48
 | none=>false
def DA(s:Ad):Bool:=
 !(decide (((AI s).length:Int)<1)||decide (((AI s).length:Int)>15)||!B4 (AI s)||decide (((AI s).length:Int)>1)&&lB (AI s))
  && !((!(NW s).isEmpty&&((Ba s).length:Int)==0)||decide (((Ba s).length:Int)>6)||!B4 (Ba s))&&(!Jw s||!(Ef (AI s)&&Ef (Ba s)))
theorem Gh s:Fi s=AI s++NW s:=(AzW).symm
theorem Tq s:(Fi s).length<=s.length:=by unfold Fi;split<;>simp
theorem K1 s:(AI s).length<=s.length:=by have:=Tq s;rw[Gh,Aaf] at this;omega
theorem Sl s:(AI s).length+(Ba s).length<=s.length:=by have:=Tq s;rw[Gh,Aaf] at this;unfold Ba;grind
theorem VK{w t:Ad}{c}(h:∀x∈w,(x !=c)=true):Lib.indexByte (w++c::t) c=w.length:=by
 induction w with
 | nil=>simp[Lib.indexByte]
 | cons x w g=>have i:=h x (by simp);have:=g (λy e=>h y (by simp[e]));simp only[AsT,Lib.indexByte,this];grind
theorem SZ{w:Ad}{c}(h:∀x∈w,(x !=c)=true):Lib.indexByte w c=-1:=by
 induction w with
 | nil=>simp[Lib.indexByte]
 | cons x w g=>have i:=h x (by simp);have:=g (λy e=>h y (by simp[e]));simp only[Lib.indexByte,this];grind
theorem NX{α:Type}{p}(l:List α):∀x∈l.takeWhile p,p x=true:=by intro x e;exact As7.1 List.all_takeWhile x e
theorem HJ{α:Type}{p}{l t:List α}{c}(h:l.dropWhile p=c::t):p c=false:=by
 induction l with
 | nil=>simp at h
 | cons x l e=>rw[List.dropWhile_cons] at h;grind
theorem Sq{α:Type}{p}{w r:List α}(h:∀x∈w,p x=true)(e:∀x∈r.head?,p x=false):(w++r).takeWhile p=w/\(w++r).dropWhile p=r:=by
 induction w with
 | nil=>
  cases r with
  | nil=>simp
  | cons x r=>simp_all
 | cons x w g=>simp_all
def AoY(d:Nat)(c:UInt8):Nat:=10*d+(c.toNat-48)
def MV(d:Nat)(s:Ad):Nat:=s.foldl AoY d
theorem kI d:MV d []=d:=rfl
theorem Oh d c (s:Ad):MV d (c::s)=MV (10*d+(c.toNat-48)) s:=AzY ..
theorem Te s:∀d,B4 s=true->Lib.decFrom d s=some (MV d s):=by
 induction s with
 | nil=>intro d _;rw[kI,Lib.decFrom]
 | cons c s i=>
  intro d h;simp only[B4,Ax5,AcR] at h;have e:=h.1;simp[UInt8.lt_iff_toNat_lt] at e;have g:Lib.digitVal c=some (c.toNat-48):=by unfold Lib.digitVal;simp;omega
  rw[Lib.decFrom,g];simp only[Oh];rw[Nat.mul_comm 10 d];exact i _ h.2
theorem dU s (h:B4 s=true):Lib.atoi (48::s)=some (MV 0 s:Int):=by have:=Te (48::s) 0 (by simpa[B4] using h);simp[Lib.atoi,Lib.decNat,this,Oh]
def Jy(s:Ad):Ad:=Lib.trimRightS s [48]
theorem FL{α:Type}{p}{l:List α}:l.dropWhile p=[]↔∀x∈l,p x=true:=by
 induction l with
 | nil=>simp
 | cons x l e=>rw[List.dropWhile_cons];grind
theorem Pd(s cs:Ad):(Lib.trimS s cs==[])=s.all (λc=>cs.contains c):=by
 rcases Ayd (s.all (λc=>cs.contains c)) with h|h
 .rw[h];have:s.reverse.dropWhile (λc=>cs.contains c)=[]:=by rw[FL];grind
  unfold Lib.trimS Lib.trimLeftS Lib.trimRightS;rw[this];rfl
 .rw[h];rw[List.all_eq_false] at h;have ⟨x,hx,hp⟩:=h;rw[Ayq];intro e;unfold Lib.trimS Lib.trimLeftS Lib.trimRightS at e;rw[FL] at e;cases g:s.reverse.dropWhile (λc=>cs.contains c) with
  | nil=>rw[FL] at g;grind
  | cons d t=>have i:=HJ g;grind
theorem Ju(s:Ad):(Lib.trimS s [48,49,50,51,52,53,54,55,56,57]==[])=B4 s:=by rw[Pd];unfold B4;congr 1;funext c;rw[Axn];simp[UInt8.lt_iff_toNat_lt,<-A0E];omega
theorem MH(s:Ad):(Lib.trimS s [48]==[])=Ef s:=by rw[Pd];unfold Ef;grind
theorem CA(s:Ad):Lib.hasPrefix s [45]=Jw s:=by
 unfold Lib.hasPrefix Jw;split
 .simp 
 .rename_i h;cases s with
  | nil=>simp 
  | cons c s=>simp only[List.isPrefixOf,AmS,Ayq];intro e;exact h s (by rw[<-e])
theorem CT(s:Ad):Lib.trimPrefix s [45]=Fi s:=by unfold Lib.trimPrefix Fi;rw[CA];split<;>simp
theorem vU s:∀x∈(NW s).head?,(x !=46)=false:=by
 intro x e;cases h:NW s with
 | nil=>rw[h] at e;simp at e
 | cons c t=>rw[h] at e;simp at e;subst e;exact HJ (p:=(· != 46)) h
theorem Pt{s}(h:B4 s=true):B4 (Jy s)=true:=by unfold B4 at *;rw[As7] at *;intro x e;refine h x ?_;unfold Jy Lib.trimRightS at e;have:=(AzE (l:=s.reverse) (λc=>List.contains [48] c)).mem (by simpa using e);simpa using this
theorem yH s:(Jy s).length<=s.length:=by unfold Jy Lib.trimRightS;rw[A0p];exact AvD (AzE _).length_le (by simp)
def opV(s:Ad)(e:Int):Int×Int:=
 if DA s then
  if e=1 then(if Jy (Ba s)==[] then(MV 0 (AI s),0) else(0,8))
  else if e=2 then(MV 0 (AI s),0)
  else if e=3 then((Ba s).length,0)
  else if e=4 then((Jy (Ba s)).length,0)
  else if e=5 then(MV 0 (Ba s),0)
  else if e=6 then(MV 0 (Jy (Ba s)),0)
  else(0,1)
 else(0,1)
theorem GN{s}(h:DA s=true):B4 (AI s)=true/\B4 (Ba s)=true/\(AI s).length<=15/\(Ba s).length<=6:=by unfold DA at h;grind
abbrev T9:=List (Ad×Int)
def DE:T9->Ad->Option Int
 | [],_=>none
 | e::m,n=>if e.1==n then some e.2 else DE m n
def Lz:T9->Ad->Int->T9
 | [],n,k=>[(n,k)]
 | e::m,n,k=>if e.1==n then(e.1,k)::m else e::Lz m n k
def F6(e:Bool)(w f:Ad):Ad:=
 if e&&!(Ef w&&Ef f) then 45::(if f==[] then w else w++46::f) else(if f==[] then w else w++46::f)
def E0(e:Bool)(w f:Ad):Ad×Int:=if decide ((w.length:Int)>15)||decide ((f.length:Int)>6) then([],2) else(F6 e w f,0)
def Ds(w:Ad):Ad:=if Lib.trimLeftS w [48]==[] then[48] else Lib.trimLeftS w [48]
def CZ(s:Ad):Ad×Int:=if DA s then E0 (Jw s) (Ds (AI s++(Ba s++[48,48]).take 2)) ((Ba s).drop (min 2 (Ba s).length)) else([],1)
def Ja:List UInt8->List UInt8
 | []=>[49]
 | c::r=>if c==57 then 48::Ja r else(c+1)::r
def Hj(s:Ad):Ad:=(Ja s.reverse).reverse
def AfS:Ad->Bool
 | c::_=>decide ((c.toNat:Int)>=53)
 | []=>false
def CU(s:Ad):Ad×Int:=if DA s then E0 (Jw s) (if Ba s==[] then AI s else if AfS (Ba s) then Hj (AI s) else AI s) [] else([],1)
def Bf(e:Nat):Nat->Ad->List Ad
 | 0,_=>[]
 | n+1,r=>if r==[] then[] else r.drop (r.length-e)::Bf e n (r.take (r.length-e))
def EO(e g:Int)(h d:Ad):Ad:=
 if decide (e<1)||decide ((d.length:Int)<=e) then d
 else Lib.join (d.drop (d.length-e.toNat)::Bf (if g<1 then e else g).toNat d.length (d.take (d.length-e.toNat))).reverse h
def Ek(L:Ce)(n:Ad):Ad:=
 let a:=EO L.prim L.sec L.grp (AI n);let b:=if(NW n).isEmpty then a else a++(L.dec++Ba n)
 if Jw n then L.minus++b else b
def Mw:Ad:=[105,110,116,101,103,101,114]
def MZ:Ad:=[112,101,114,99,101,110,116]
def Cw(L:Ce)(n st:Ad):Ad×Int:=
 if !DA n||(!(st==[])&&!(st==Mw)&&!(st==MZ)) then([],1)
 else if L.dec==[] then([],18)
 else if st==Mw then(if(CU n).2==0 then(Ek L (CU n).1,0) else([],(CU n).2))
 else if st==MZ then(if(CZ n).2==0 then(Ek L (CZ n).1++L.perc,0) else([],(CZ n).2))
 else(Ek L n,0)
def fieldNames:List Ad:=[[121],[77],[77,77],[77,77,77],[69],[100],[100,100]]
def FO(s:Ad):Bool:=fieldNames.contains s
def C4:List Ad->Ad->List Ad->Option (List Ad)
 | [],rest,out=>if !(rest==[])||out.length==0 then none else some out
 | k::e,rest,out=>
  if rest.take (rest.length-(Lib.trimLeftS rest k).length)==[] then C4 e rest out
  else if FO (rest.take (rest.length-(Lib.trimLeftS rest k).length)) then C4 e (Lib.trimLeftS rest k) (out++[rest.take (rest.length-(Lib.trimLeftS rest k).length)]) else none
def kinds4:List Ad:=[[121],[77],[69],[100]]
def Cx(s:Ad):Option (List Ad):=C4 kinds4 s []
def letters52:Ad:=[65,66,67,68,69,70,71,72,73,74,75,76,77,78,79,80,81,82,83,84,85,86,87,88,89,90,97,98,99,100,101,102,103,104,105,106,107,108,109,110,111,112,113,114,115,116,117,118,119,120,121,122]
def CF:Nat->Ad->List Ad->Option (List Ad)
 | 0,_,_=>none
 | n+1,p,out=>if p==[] then some out
  else if p.take (p.length-(Lib.trimLeftS p letters52).length)==[] then CF n (p.drop 1) out
  else if FO (p.take (p.length-(Lib.trimLeftS p letters52).length)) then CF n (Lib.trimLeftS p letters52) (out++[p.take (p.length-(Lib.trimLeftS p letters52).length)]) else none
def H4(p:Ad):Option (List Ad):=CF (p.length+1) p []
def Lr(l:List Ad):List Ad:=l.mergeSort λx y=>decide (x<=y)
def G5(l:List Ad):Ad×Bool:=(Lib.join (Lib.compact (Lr (l.map λf=>f.take 1))) [],(Lib.compact (Lr (l.map λf=>f.take 1))).length==l.length)
def Ec(e p:Ad):Bool:=match Cx e,H4 p with
 | some w,some g=>!(g.length==0)&&((G5 g).2&&(G5 w).1==(G5 g).1)
 | _,_=>false
def AN(i:Nat):Ad:=123::(Lib.decDigits i++[125])
def FH(s:Ad):Bool:=s.any λc=>c==123||c==125
def T4:Nat->Nat->Ad->Bool
 | 0,_,s=>!FH s
 | k+1,i,s=>if Lib.count s (AN i)==1 then T4 k (i+1) (Lib.replace s (AN i) [0] 1) else false
def Pu(s:Ad)(n:Nat):Bool:=T4 n 0 s
def Ki(y:Int):Bool:=(y.tmod 4==0&&y.tmod 100 !=0)||y.tmod 400==0
def Ee(y:Int):Int:=if Ki y then 366 else 365
def monL:List Int:=[31,28,31,30,31,30,31,31,30,31,30,31]
def Ii(y:Int)(m:Nat):Int:=if m==2&&Ki y then 29 else monL.getD (m-1) 0
def FY:Nat->Int->Int->Int×Int
 | 0,y,d=>(y,d)
 | n+1,y,d=>if d>=Ee y then FY n (y+1) (d-Ee y) else(y,d)
def NR(y:Int):Nat->Nat->Int->Nat×Int
 | 0,m,d=>(m,d)
 | n+1,m,d=>if d>=Ii y m then NR y n (m+1) (d-Ii y m) else(m,d)
def Et(d:Int):Bool:=!(decide (d < -25567)||decide (d>84005))
def HC(d:Int):Int×Int:=FY (d+25567).toNat 1900 (d+25567)
def FP(d:Int):Nat×Int:=NR (HC d).1 12 1 (HC d).2
def HF(n:Nat):Ad:=if n<10 then 48::Lib.decDigits n else Lib.decDigits n
def CR(d:Int):Ad:=if Et d then Lib.decDigits (HC d).1.toNat++[45]++HF (FP d).1++[45]++HF ((FP d).2+1).toNat else[]
def Fm(l:List Ad):T9:=l.foldl (λm f=>Lz m (f.take 1) f.length) []
def KV(a b:T9):Int×Bool:=if a.all (λe=>(DE b e.1).isSome) then((a.map λe=>max (e.2-(DE b e.1).getD 0) ((DE b e.1).getD 0-e.2)).sum,(a.length:Int)==(b.length:Int)) else(0,false)
def D9(e:T9):List CJ->Int->Int->Int->Int
 | [],_,g,_=>g
 | p::ps,i,g,h=>match Cx p.skel with
  | none=>D9 e ps (i+1) g h
  | some l=>if(KV e (Fm l)).2&&(decide (g<0)||decide ((KV e (Fm l)).1<h)) then D9 e ps (i+1) i (KV e (Fm l)).1 else D9 e ps (i+1) g h
def EE(l:List CJ)(e:Ad):Int×Int:=match Cx e with
 | none=>(0,3)
 | some w=>if D9 (Fm w) l 0 (-1) 0<0 then(0,8) else(D9 (Fm w) l 0 (-1) 0,0)
def b9(p:Ad):Bool:=[[],[121]].any λy=>[[],[77]].any λm=>[[],[69]].any λe=>[[],[100]].any λd=>Ec (y++m++e++d) p
def Dj(c:UInt8):Bool:=(decide ((c.toNat:Int)>=65)&&decide ((c.toNat:Int)<=90))||(decide ((c.toNat:Int)>=97)&&decide ((c.toNat:Int)<=122))
structure QH where
 L:Ce
 y:Nat
 m:Nat
 d:Nat
 wd:Nat
def ES(x:QH)(f:Ad):Ad×Int:=
 if f==[121] then(Lib.decDigits x.y,0) else if f==[77] then(Lib.decDigits x.m,0) else if f==[77,77] then(HF x.m,0)
 else if f==[77,77,77] then(if(x.L.months.length:Int) !=12 then([],18) else(x.L.months.getD (x.m-1) [],0))
 else if f==[69] then(if(x.L.days.length:Int) !=7 then([],18) else(x.L.days.getD x.wd [],0))
 else if f==[100] then(Lib.decDigits x.d,0) else(HF x.d,0)
def BK(x:QH):Nat->Ad->Ad->Ad×Int
 | 0,_,out=>(out,0)
 | n+1,p,out=>if p==[] then(out,0)
  else if(p.takeWhile Dj).length==0 then BK x n (p.drop 1) (out++p.take 1)
  else if(ES x (p.take (p.takeWhile Dj).length)).2==0 then BK x n (p.drop (p.takeWhile Dj).length) (out++(ES x (p.take (p.takeWhile Dj).length)).1)
  else([],(ES x (p.take (p.takeWhile Dj).length)).2)
def H8(x:QH)(p:Ad):Ad×Int:=BK x (p.length+1) p []
def Je(L:Ce)(d:Int):QH:=⟨L,(HC d).1.toNat,(FP d).1,((FP d).2+1).toNat,((d+25567).tmod 7).toNat⟩
def DP(L:Ce)(e:Ad)(d:Int):Ad×Int:=
 if Et d then
  if(EE L.dates e).2==8 then([],18) else if(EE L.dates e).2==0 then
   match L.dates[(EE L.dates e).1.toNat]? with
   | some p=>if b9 p.pat then H8 (Je L d) p.pat else([],4)
   | none=>([],4)
  else([],(EE L.dates e).2)
 else([],2)
def Ea(p a b:Ad):Ad:=
 if(Lib.cut (Lib.cut p (AN 0)).1 (AN 1)).2.2 then(Lib.cut (Lib.cut p (AN 0)).1 (AN 1)).1++b++(Lib.cut (Lib.cut p (AN 0)).1 (AN 1)).2.1++a++(Lib.cut p (AN 0)).2.1
 else(Lib.cut p (AN 0)).1++a++(Lib.cut (Lib.cut p (AN 0)).2.1 (AN 1)).1++b++(Lib.cut (Lib.cut p (AN 0)).2.1 (AN 1)).2.1
def Gr(s:Ad):List Cp->Option Cp
 | []=>none
 | x::l=>if x.style==s then some x else Gr s l
def joinR(p:Cp):List Ad->Ad->Ad
 | [],rest=>rest
 | s::r,rest=>if(rest.length:Int)>20000 then rest else joinR p r (Ea (if r.isEmpty then p.start else p.mid) s rest)
def Lu(p:Cp)(l:List Ad):Ad:=match l with
 | []=>[]
 | [a]=>a
 | [a,b]=>Ea p.two a b
 | l=>joinR p (l.take (l.length-2)).reverse (Ea p.fin (l.getD (l.length-2) []) (l.getD (l.length-1) []))
def wH(p:Cp):Bool:=[p.two,p.start,p.mid,p.fin].all λs=>Pu s 2
def E3(L:Ce)(st:Ad)(l:List Ad):Ad×Int:=match Gr st L.lists with
 | none=>([],18)
 | some p=>if wH p then(if(l.length:Int)>1000 then([],6) else if((Lu p l).length:Int)>20000 then([],6) else(Lu p l,0)) else([],4)
def I0(u c:Ad):List De->Option Ad
 | []=>none
 | x::l=>if x.unit==u&&x.cls==c then some x.pat else I0 u c l
def HL(L:Ce)(u c:Ad):Option Ad:=match I0 u c L.units with
 | some p=>some p
 | none=>I0 u [111,116,104,101,114] L.units
end Go.Ir

namespace Go.Ir
open Go.Proofs
variable{P:Program}{O:World}{nt n:Nat}{Q:Exit→St→Prop}{env:Bm}{σ:Au}
def tN:IC:=sQ (.block 1 (oP [m1 11 3,m1 12 0,m1 13 4,iA 14 12 13 9 1,l1 15 14,nS 16 15,bZ 17 .add 16 30,bT 18 .add 11 17,m1 3 18] [0,3,4])) (oP [m1 9 4,bZ 10 .add 9 1,m1 4 10] [0,3,4])
def Ad9:IC:=sQ (oS [mZ 4 0] [0,3,4] (.block 0 (.loop (sQ (oS [m1 5 4,m1 6 0,nL 7 6,bT 8 .lss 5 7] [0,3,4,8] (cD 8 .skip (.exit 0))) tN)))) (oR [m1 19 3,m1 2 19] [2])
def Aet:IC:=oS [mZ 2 0] [0] (oS [mZ 3 0] [0,3] Ad9)
def Auz:List R:=[.t 2]
def Azy:=Ao tN.eq_1<|Ao Ad9.eq_1<|AJ Aet.eq_1
theorem Asg:Ar π 60 20 Aet Auz=true:=by kernel_rfl
def mM:IC:=sQ (.block 3 (.ops [m1 69 3,fA 70 5 11,l1 71 70,m1 72 6,iA 73 71 72 125 5,fA 74 73 0,l1 75 74,fA 76 5 11,l1 77 76,m1 78 6,iA 79 77 78 125 5,fA 80 79 1,l1 81 80,fA 82 5 11,l1 83 82,m1 84 6,iA 85 83 84 125 5,fA 86 85 2,l1 87 86,fA 88 5 11,l1 89 88,m1 90 6,iA 91 89 90 125 5,fA 92 91 3,l1 93 92,fA 94 5 11,l1 95 94,m1 96 6,iA 97 95 96 125 5,fA 98 97 4,l1 99 98,o1 100 (.msl false 9 1 [.t 75,.t 81,.t 87,.t 93,.t 99]),q1 101 60 100,bT 102 .add 69 101,m1 3 102] [1,3,4,5,6] [[1,2],[2,4],[3,4],[4,5],[5,6],[7,8],[8,10],[9,10],[10,11],[11,12],[13,14],[14,16],[15,16],[16,17],[17,18],[19,20],[20,22],[21,22],[22,23],[23,24],[25,26],[26,28],[27,28],[28,29],[29,30],[6,31],[12,31],[18,31],[24,31],[30,31],[31,32],[0,33],[32,33],[0,34],[33,34]])) (oP [m1 67 6,bZ 68 .add 67 1,m1 6 68] [1,3,4,5,6])
def s7:IC:=sQ (.block 5 (.ops [m1 110 3,fA 111 5 12,l1 112 111,m1 113 7,iA 114 112 113 127 3,fA 115 114 0,l1 116 115,fA 117 5 12,l1 118 117,m1 119 7,iA 120 118 119 127 3,fA 121 120 1,l1 122 121,fA 123 5 12,l1 124 123,m1 125 7,iA 126 124 125 127 3,fA 127 126 2,l1 128 127,o1 129 (.msl false 9 1 [.t 116,.t 122,.t 128]),q1 130 60 129,bT 131 .add 110 130,m1 3 131] [1,3,4,5,7] [[1,2],[2,4],[3,4],[4,5],[5,6],[7,8],[8,10],[9,10],[10,11],[11,12],[13,14],[14,16],[15,16],[16,17],[17,18],[6,19],[12,19],[18,19],[19,20],[0,21],[20,21],[0,22],[21,22]])) (oP [m1 108 7,bZ 109 .add 108 1,m1 7 109] [1,3,4,5,7])
def tK:IC:=sQ (.block 7 (.ops [m1 139 3,fA 140 5 13,l1 141 140,m1 142 8,iA 143 141 142 129 2,fA 144 143 0,l1 145 144,fA 146 5 13,l1 147 146,m1 148 8,iA 149 147 148 129 2,fA 150 149 1,l1 151 150,o1 152 (.msl false 9 1 [.t 145,.t 151]),q1 153 60 152,bT 154 .add 139 153,m1 3 154] [1,3,4,5,8] [[1,2],[2,4],[3,4],[4,5],[5,6],[7,8],[8,10],[9,10],[10,11],[11,12],[6,13],[12,13],[13,14],[0,15],[14,15],[0,16],[15,16]])) (oP [m1 137 8,bZ 138 .add 137 1,m1 8 138] [1,3,4,5,8])
def y9:IC:=sQ (oS [mZ 7 0] [1,3,4,5,7] (.block 4 (.loop (sQ (oS [m1 103 7,fA 104 5 12,l1 105 104,nL 106 105,bT 107 .lss 103 106] [1,3,4,5,7,107] (cD 107 .skip (.exit 4))) s7)))) (oS [mZ 8 0] [1,3,4,5,8] (.block 6 (.loop (sQ (oS [m1 132 8,fA 133 5 13,l1 134 133,nL 135 134,bT 136 .lss 132 135] [1,3,4,5,8,136] (cD 136 .skip (.exit 6))) tK))))
def o9:IC:=sQ (.ops [m1 23 3,fA 24 5 0,l1 25 24,fA 26 5 1,l1 27 26,fA 28 5 2,l1 29 28,fA 30 5 5,fA 31 30 0,l1 32 31,fA 33 5 5,fA 34 33 1,l1 35 34,fA 36 5 5,fA 37 36 2,l1 38 37,fA 39 5 5,fA 40 39 3,l1 41 40,o1 42 (.msl false 9 1 [.t 25,.t 27,.t 29,.t 32,.t 35,.t 38,.t 41]),q1 43 60 42,fA 44 5 14,l1 45 44,q1 46 60 45,bT 47 .add 43 46,fA 48 5 15,l1 49 48,q1 50 60 49,bT 51 .add 47 50,fA 52 5 3,l1 53 52,nL 54 53,fA 55 5 4,l1 56 55,nL 57 56,bT 58 .add 54 57,o1 59 (.bin .mul (ci 100) (.t 58)),bT 60 .add 51 59,bT 61 .add 23 60,m1 3 61] [1,3,4,5] [[1,2],[3,4],[5,6],[7,8],[8,9],[10,11],[11,12],[13,14],[14,15],[16,17],[17,18],[2,19],[4,19],[6,19],[9,19],[12,19],[15,19],[18,19],[19,20],[21,22],[22,23],[20,24],[23,24],[25,26],[26,27],[24,28],[27,28],[29,30],[30,31],[32,33],[33,34],[31,35],[34,35],[35,36],[28,37],[36,37],[0,38],[37,38],[0,39],[38,39]]) (sQ (oS [mZ 6 0] [1,3,4,5,6] (.block 2 (.loop (sQ (oS [m1 62 6,fA 63 5 11,l1 64 63,nL 65 64,bT 66 .lss 62 65] [1,3,4,5,6,66] (cD 66 .skip (.exit 2))) mM)))) y9)
def lX:IC:=sQ (.block 1 (oS [fA 18 1 0,l1 19 18,m1 20 4,iA 21 19 20 30 16,lA 22 21 16,o1 5 (.alloc (.agg [.s [],.s [],.s [],.nil,.nil,.s [],.s [],.s [],.s [],.i .i64 0,.i .i64 0,.nil,.nil,.nil,.nil,.nil])),sT 5 22 16] [1,3,4,5] o9)) (oP [m1 16 4,bZ 17 .add 16 1,m1 4 17] [1,3,4])
def yX:IC:=sQ (.block 9 (.ops [m1 162 3,fA 163 1 1,l1 164 163,m1 165 9,iA 166 164 165 69 2,fA 167 166 0,l1 168 167,fA 169 1 1,l1 170 169,m1 171 9,iA 172 170 171 69 2,fA 173 172 1,l1 174 173,o1 175 (.msl false 9 1 [.t 168,.t 174]),q1 176 60 175,bT 177 .add 162 176,m1 3 177] [1,3,9] [[1,2],[2,4],[3,4],[4,5],[5,6],[7,8],[8,10],[9,10],[10,11],[11,12],[6,13],[12,13],[13,14],[0,15],[14,15],[0,16],[15,16]])) (oP [m1 160 9,bZ 161 .add 160 1,m1 9 161] [1,3,9])
def kK:IC:=sQ (.block 11 (.ops [m1 185 3,fA 186 1 2,l1 187 186,m1 188 10,iA 189 187 188 71 3,fA 190 189 0,l1 191 190,fA 192 1 2,l1 193 192,m1 194 10,iA 195 193 194 71 3,fA 196 195 1,l1 197 196,o1 198 (.msl false 9 1 [.t 191,.t 197]),q1 199 60 198,bT 200 .add 185 199,m1 3 200] [1,3,10] [[1,2],[2,4],[3,4],[4,5],[5,6],[7,8],[8,10],[9,10],[10,11],[11,12],[6,13],[12,13],[13,14],[0,15],[14,15],[0,16],[15,16]])) (oP [m1 183 10,bZ 184 .add 183 1,m1 10 184] [1,3,10])
def qS:IC:=sQ (oS [mZ 10 0] [1,3,10] (.block 10 (.loop (sQ (oS [m1 178 10,fA 179 1 2,l1 180 179,nL 181 180,bT 182 .lss 178 181] [1,3,10,182] (cD 182 .skip (.exit 10))) kK)))) (oR [m1 201 3,m1 2 201] [2])
def AeY:IC:=sQ (oS [mZ 4 0] [1,3,4] (.block 0 (.loop (sQ (oS [m1 11 4,fA 12 1 0,l1 13 12,nL 14 13,bT 15 .lss 11 14] [1,3,4,15] (cD 15 .skip (.exit 0))) lX)))) (sQ (oS [mZ 9 0] [1,3,9] (.block 8 (.loop (sQ (oS [m1 155 9,fA 156 1 1,l1 157 156,nL 158 157,bT 159 .lss 155 158] [1,3,9,159] (cD 159 .skip (.exit 8))) yX)))) qS)
def AgL:IC:=oS [bX 1 0,mZ 2 0] [1] (oS [mZ 3 0] [1,3] AeY)
def AtR:List R:=[.t 2]
def Ay4:=Ao mM.eq_1<|Ao s7.eq_1<|Ao tK.eq_1<|Ao y9.eq_1<|Ao o9.eq_1<|Ao lX.eq_1<|Ao yX.eq_1<|Ao kK.eq_1<|Ao qS.eq_1<|Ao AeY.eq_1<|AJ AgL.eq_1
theorem Ari:Ar π 39 202 AgL AtR=true:=by kernel_rfl
def nU:IC:=sQ (.block 3 (sQ (.ops [o1 70 (.msl true 96 2 []),fA 71 4 3,l1 72 71,o1 73 (.app (.t 70) (.t 72) 96 2),fA 74 4 4,⟨some 75,.load (.t 74) 1 false,none,[.t 70]⟩,o1 76 (.app (.t 73) (.t 75) 96 2),m1 77 5,iA 78 76 77 96 2,lA 79 78 2,o1 6 (.alloc (.agg [.s [],.nil])),sT 6 79 2] [1,3,4,5,6] [[1,2],[0,3],[2,3],[4,5],[2,3,6],[3,6],[5,6],[3,6,8],[6,8],[7,8],[3,6,8,9],[6,8,9],[8,9],[2,11],[3,11],[5,11],[6,11],[8,11],[9,11],[10,11]]) (oS [fA 80 6 1,l1 81 80,q1 82 38 81,nT 83 82] [1,3,4,5,83] (cD 83 (oR [mC 2 (.b false)] [2]) .skip)))) (oP [m1 68 5,bZ 69 .add 68 1,m1 5 69] [1,3,4,5])
def lF:IC:=sQ (oS [m1 59 5,fA 60 4 3,l1 61 60,nL 62 61,fA 63 4 4,l1 64 63,nL 65 64,bT 66 .add 62 65,bT 67 .lss 59 66] [1,3,4,5,67] (cD 67 .skip (.exit 2))) nU
def pI:IC:=sQ (oS [fA 19 4 3,l1 20 19,nL 21 20,bZ 22 .gtr 21 12,m1 23 22,CG 24 23 4 4,CM 25 23 24,gF 26 23 (.lenL (.t 25)),Dv 27 23 .gtr 26 12,pO 28 23 27,m1 29 28,CG 30 29 4 11,CM 31 29 30,gF 32 29 (.lenL (.t 31)),Dv 33 29 .gtr 32 12,pO 34 29 33,m1 35 34,CG 36 35 4 12,CM 37 35 36,gF 38 35 (.lenL (.t 37)),Dv 39 35 .gtr 38 110,pO 40 35 39,m1 41 40,CG 42 41 4 13,CM 43 41 42,gF 44 41 (.lenL (.t 43)),Dv 45 41 .gtr 44 40,pO 46 41 45,m1 47 46,CG 48 47 4 14,CM 49 47 48,gF 50 47 (.lenL (.t 49)),Dv 51 47 .gtr 50 20,pO 52 47 51,m1 53 52,CG 54 53 4 15,CM 55 53 54,gF 56 53 (.lenL (.t 55)),Dv 57 53 .gtr 56 20,pO 58 53 57] [1,3,4,58] (cD 58 (oR [mC 2 (.b false)] [2]) .skip)) (oS [mZ 5 0] [1,3,4,5] (.block 2 (.loop lF)))
def vT:IC:=sQ (.block 1 (oS [fA 14 1 0,l1 15 14,m1 16 3,iA 17 15 16 30 16,lA 18 17 16,o1 4 (.alloc (.agg [.s [],.s [],.s [],.nil,.nil,.s [],.s [],.s [],.s [],.i .i64 0,.i .i64 0,.nil,.nil,.nil,.nil,.nil])),sT 4 18 16] [1,3,4] pI)) (oP [m1 12 3,bZ 13 .add 12 1,m1 3 13] [1,3])
def uA:IC:=oR [fA 84 1 0,l1 85 84,nL 86 85,bZ 87 .leq 86 62,m1 88 87,D0 89 88 1 1,Dm 90 88 89,gT 91 88 (.lenL (.t 90)),Dn 92 88 .leq 91 205,pA 93 88 92,m1 94 93,D0 95 94 1 2,Dm 96 94 95,gT 97 94 (.lenL (.t 96)),Dn 98 94 .leq 97 205,pA 99 94 98,m1 100 99,gT 101 100 (.load (.t 1) 3 true),gT 102 100 (.call 39 [.t 101]),Dn 103 100 .leq 102 40000,pA 104 100 103,m1 2 104] [2]
def Agu:IC:=oS [bX 1 0,mC 2 (.b false)] [1] (sQ (oS [mZ 3 0] [1,3] (.block 0 (.loop (sQ (oS [m1 7 3,fA 8 1 0,l1 9 8,nL 10 9,bT 11 .lss 7 10] [1,3,11] (cD 11 .skip (.exit 0))) vT)))) uA)
def Au5:List R:=[.t 2]
def Azd:=Ao nU.eq_1<|Ao lF.eq_1<|Ao pI.eq_1<|Ao vT.eq_1<|Ao uA.eq_1<|AJ Agu.eq_1
theorem Arz:Ar π 23 105 Agu Au5=true:=by kernel_rfl
def Ae7:IC:=oR [lA 7 3 16,o1 8 (.msl false 30 16 [.t 7]),o1 9 (.build [.nil,.nil,.nil] [(0,1,.t 8)]),q1 10 23 9,m1 11 10,B0 12 11 1,gT 13 11 (.call 24 [.t 12]),pA 14 11 13,m1 15 14,B0 16 15 2,gT 17 15 (.call 25 [.t 16]),pA 18 15 17,m1 6 18] [6]
def AfF:IC:=oS [bX 3 0,mC 6 (.b false)] [1,2,3] Ae7
def AtG:List R:=[.t 6]
def Ayj:=Ao Ae7.eq_1<|AJ AfF.eq_1
theorem As4:Ar π 11 19 AfF AtG=true:=by kernel_rfl
def AoW:IC:=oS [bX 1 0,mC 2 (.b false)] [1] (oR [fA 3 1 0,lA 4 3 16,fA 5 1 16,l1 6 5,fA 7 1 17,l1 8 7,q3 9 11 4 6 8,m1 2 9] [2])
def f5R:List R:=[.t 2]
def f5e:=AJ AoW.eq_1
theorem Auh:Ar π 5 10 AoW f5R=true:=by kernel_rfl
def Apq:IC:=oR [fA 6 2 0,lA 7 6 16,m1 8 1,fA 9 2 17,l1 10 9,fA 11 2 18,l1 12 11,o1 13 (.call 15 [.t 7,.t 8,.t 10,.t 12]),xT 14 13 0,xT 15 13 1,m1 4 14,m1 5 15] [4,5]
def AqJ:IC:=oS [bX 2 0,mC 4 (.s []),mZ 5 0] [1,2] Apq
def f7R:List R:=[.t 4,.t 5]
def f7e:=Ao Apq.eq_1<|AJ AqJ.eq_1
theorem AtK:Ar π 7 16 AqJ f7R=true:=by kernel_rfl
def AgP:IC:=oS [m1 9 0,nC 10 9,fA 11 10 0,o1 12 (.calls 95 [.t 11]),bZ 13 .gtr 12 20000] [0,13] (cD 13 (oP [m1 14 0,nC 15 14,fA 16 15 20,o0 (.store (.t 16) (ci 6) 1)] []) .skip)
def Aej:IC:=sQ (.opx [m1 4 0,nC 5 4,fA 6 5 0,m1 7 1] [0,6,7] 8 94 [.t 6,.t 7] [] [0]) AgP
def Awi:List R:=[]
def AyH:=Ao AgP.eq_1<|AJ Aej.eq_1
theorem ArV:Ar π 68 17 Aej Awi=true:=by kernel_rfl
def Afk:IC:=oS [m1 17 0,nC 18 17,fA 19 18 19,l1 20 19,m1 16 20] [0,1,16] (cD 16 (.opx [m1 21 0,m1 22 1,q1 23 96 22] [21,23] 24 68 [.t 21,.t 23] [] []) (.opx [m1 6 0,m1 7 1] [6,7] 8 68 [.t 6,.t 7] [] []))
def AeR:IC:=.block 0 (oS [m1 10 2,bZ 11 .neq 10 0,m1 9 11] [0,1,2,9] (cD 9 (oP [m1 12 0,m1 13 2,nC 14 12,fA 15 14 20,sT 15 13 1] []) Afk))
def Avz:List R:=[]
def Azv:=Ao Afk.eq_1<|AJ AeR.eq_1
theorem Ar1:Ar π 69 25 AeR Avz=true:=by kernel_rfl
def jT:IC:=sQ (oS [m1 14 0,nC 15 14,fA 16 15 20,l1 17 16,bZ 18 .neq 17 0] [0,2,7,8,9,10,18] (cD 18 .ret .skip)) (.opx [m1 19 0,lA 20 7 6,m1 21 2] [0,2,8,9,10,19,20,21] 22 52 [.t 19,.t 20,.t 21] [] [0,2,8,9,10])
def AdI:IC:=sQ (.block 1 (oS [iA 12 8 10 74 6,lA 13 12 6,o1 7 (.alloc (.agg [.i .i64 0,.s [],.s [],.s [],.nil,.nil])),sT 7 13 6] [0,2,7,8,9,10] jT)) (oP [bZ 23 .add 10 1,m1 10 23] [0,2,8,9,10])
def Ae3:IC:=oS [m1 8 1,nL 9 8,mZ 10 0] [0,2,8,9,10] (.block 0 (.loop (oS [bT 11 .lss 10 9] [0,2,8,9,10,11] (sQ (cD 11 .skip (.exit 0)) AdI))))
def Aus:List R:=[]
def AxN:=Ao jT.eq_1<|Ao AdI.eq_1<|AJ Ae3.eq_1
theorem AqO:Ar π 32 24 Ae3 Aus=true:=by kernel_rfl
def uY:IC:=.opx [m1 48 0,m1 49 0,nC 50 49,fA 51 50 2,lA 52 51 16,m1 53 2,o1 54 (.call 70 [.t 52,.t 53,.c (.s [])]),xT 55 54 0,xT 56 54 1] [48,55,56] 57 69 [.t 48,.t 55,.t 56] [] []
def uN:IC:=sQ (.ops [m1 91 0,nC 92 91,fA 93 92 18,l1 94 93,fA 95 4 2,l1 96 95,q2 97 73 94 96,m1 90 97,xT 98 90 0,xT 99 90 1,o1 8 (.alloc (.agg [.s [],.i .i64 0,.s [],.i .i64 0,.nil])),sT 8 98 5,m1 9 99] [0,4,6,8] [[0,1],[1,2],[2,3],[4,5],[3,6],[5,6],[6,7],[7,8],[7,9],[3,11],[5,11],[8,11],[10,11],[9,12]]) (oP [fA 100 8 2,l1 101 100,m1 2 101] [0,2,4,6])
def tS:IC:=.opx [m1 102 0,fA 103 4 4,l1 104 103,m1 105 6,iA 106 104 105 76 2,fA 107 106 1,l1 108 107,m1 109 2] [102,108,109] 110 32 [.t 102,.t 108,.t 109] [] []
def vY:IC:=sQ (oS [m1 81 7,bZ 82 .neq 81 0] [0,2,4,6,7,82] (cD 82 (oR [m1 83 0,m1 84 7,nC 85 83,fA 86 85 20,sT 86 84 1] []) .skip)) (sQ (oS [fA 87 4 0,l1 88 87,bZ 89 .neq 88 9] [0,2,4,6,89] (cD 89 uN .skip)) tS)
def uQ:IC:=sQ (.ops [m1 69 0,nC 70 69,fA 71 70 2,lA 72 71 16,lA 73 4 6,m1 74 0,nC 75 74,fA 76 75 18,l1 77 76,q3 78 72 72 73 77,m1 68 78,xT 79 68 0,xT 80 68 1,m1 6 79,m1 7 80] [0,2,4,6,7] [[0,1],[1,2],[2,3],[5,6],[6,7],[7,8],[3,9],[4,9],[8,9],[9,10],[10,11],[10,12],[11,13],[12,14]]) vY
def kS:IC:=.opxd [m1 29 0,m1 30 0,nC 31 30,fA 32 31 2,lA 33 32 16,lA 34 4 6,lA 35 10 5,q3 36 74 33 34 35,xT 37 36 0,xT 38 36 1] [29,37,38] 39 69 [.t 29,.t 37,.t 38] [] [[1,2],[2,3],[3,4],[4,7],[5,7],[6,7],[7,8],[7,9],[0,10],[1,2,3,4,7,10],[2,3,4,7,10],[3,4,7,10],[4,7,10],[5,7,10],[6,7,10],[7,10],[8,10],[9,10]]
def rF:IC:=sQ (.ops [m1 15 0,nC 16 15,fA 17 16 18,l1 18 17,fA 19 4 2,l1 20 19,q2 21 73 18 20,m1 14 21,xT 22 14 0,xT 23 14 1,o1 10 (.alloc (.agg [.s [],.i .i64 0,.s [],.i .i64 0,.nil])),sT 10 22 5,m1 11 23] [0,4,10,11] [[0,1],[1,2],[2,3],[4,5],[3,6],[5,6],[6,7],[7,8],[7,9],[3,11],[5,11],[8,11],[10,11],[9,12]]) (sQ (oS [m1 24 11,nT 25 24] [0,4,10,25] (cD 25 (oR [m1 26 0,nC 27 26,fA 28 27 20,o0 (.store (.t 28) (ci 12) 1)] []) .skip)) kS)
def nO:IC:=sQ (oS [bZ 65 .eql 13 7,m1 64 65] [0,2,4,13,64] (cD 64 .skip (oS [bZ 66 .eql 13 8,m1 64 66] [0,2,4,13,64] (cD 64 .skip (oP [bZ 67 .eql 13 9,m1 64 67] [0,2,4,64]))))) (cD 64 uQ rF)
def Ad8:IC:=oS [bZ 47 .eql 13 10,m1 46 47] [0,2,4,13,46] (cD 46 uY (oS [bZ 59 .eql 13 11,m1 58 59] [0,2,4,13,58] (cD 58 (.opx [m1 60 0,lA 61 4 6,m1 62 2] [60,61,62] 63 71 [.t 60,.t 61,.t 62] [] []) nO)))
def AfM:IC:=oS [bX 4 1] [0,2,4] (oS [fA 12 4 0,l1 13 12] [0,2,4,13] (.block 0 (oS [bZ 41 .eql 13 1,m1 40 41] [0,2,4,13,40] (cD 40 (.opx [m1 42 0,fA 43 4 1,l1 44 43] [42,44] 45 68 [.t 42,.t 44] [] []) Ad8))))
def Aug:List R:=[]
def Aym:=Ao uY.eq_1<|Ao uN.eq_1<|Ao tS.eq_1<|Ao vY.eq_1<|Ao uQ.eq_1<|Ao kS.eq_1<|Ao rF.eq_1<|Ao nO.eq_1<|Ao Ad8.eq_1<|AJ AfM.eq_1
theorem Apa:Ar π 52 111 AfM Aug=true:=by kernel_rfl
def AfW:IC:=oS [m1 17 0,nC 18 17,fA 19 18 20,l1 20 19,bZ 21 .eql 20 0] [0,4,21] (cD 21 (.opx [m1 22 0,fA 23 4 2,l1 24 23,o1 25 (.bin .add (.c (.s [60,47])) (.t 24)),bC 26 .add 25 (.s [62])] [22,26] 27 68 [.t 22,.t 26] [] []) .skip)
def Afl:IC:=sQ (.opx [m1 6 0,fA 7 4 2,l1 8 7,o1 9 (.bin .add (.c (.s [60])) (.t 8)),bC 10 .add 9 (.s [62])] [0,2,4,6,10] 11 68 [.t 6,.t 10] [] [0,2,4]) (sQ (.opx [m1 12 0,fA 13 4 5,l1 14 13,m1 15 2] [0,4,12,14,15] 16 32 [.t 12,.t 14,.t 15] [] [0,4]) AfW)
def Agl:IC:=oS [bX 4 1] [0,2,4] Afl
def AuZ:List R:=[]
def AxU:=Ao AfW.eq_1<|Ao Afl.eq_1<|AJ Agl.eq_1
theorem AmN:Ar π 71 28 Agl AuZ=true:=by kernel_rfl
def p5:IC:=sQ (oS [m1 22 10,nC 23 22,fA 24 23 20,l1 25 24,bZ 26 .neq 25 0] [10,26] (cD 26 (sQ (.ops [m1 27 10,nC 28 27,fA 29 28 20,l1 30 29,mC 8 (.s []),m1 9 30] [8,9] [[0,1],[1,2],[2,3],[3,5]]) .ret) .skip)) (oR [m1 31 10,nC 32 31,fA 33 32 0,o1 34 (.calls 33 [.t 33]),m1 8 34,mZ 9 0] [8,9])
def AgY:IC:=oS [lA 14 4 16,m1 15 2,m1 16 3,o1 17 (.build [.np,.nil,.s [],.s [],.s [],.nil,.nil,.s [],.s [],.s [],.s [],.i .i64 0,.i .i64 0,.nil,.nil,.nil,.nil,.nil,.nil,.b false,.i .i64 0] [(2,16,.t 14),(18,1,.t 15),(19,1,.t 16)]),o1 18 (.mkm (.tbx 83) [.t 17]),m1 10 18] [1,10] (sQ (.wk (.opx [m1 19 10,m1 20 1] [10,19,20] 21 32 [.t 19,.t 20,.c (.s [])] [] [10])) p5)
def Ag7:IC:=oS [bX 4 0,mC 8 (.s []),mZ 9 0] [1,2,3,4] (sQ (oS [m1 11 1,q1 12 31 11,nT 13 12] [1,2,3,4,13] (cD 13 (oR [mC 8 (.s []),mZ 9 1] [8,9]) .skip)) AgY)
def AvV:List R:=[.t 8,.t 9]
def AyY:=Ao p5.eq_1<|Ao AgY.eq_1<|AJ Ag7.eq_1
theorem AmE:Ar π 15 35 Ag7 AvV=true:=by kernel_rfl
def Afv:IC:=oS [m1 8 0,m1 9 0,nC 10 9,fA 11 10 1,l1 12 11,m1 13 1,o1 14 (.apps (.t 12) (.t 13) 5),nC 15 8,fA 16 15 1,sT 16 14 1] [1] (oR [m1 17 1,nS 18 17,m1 4 18,mC 5 .ni] [4,5])
def AeU:IC:=oS [mZ 4 0,mC 5 .ni] [0,1] (oS [m1 6 0,o1 7 (.calls 53 [.t 6])] [0,1] Afv)
def AuN:List R:=[.t 4,.t 5]
def AxD:=Ao Afv.eq_1<|AJ AeU.eq_1
theorem Agq:Ar π 94 19 AeU AuN=true:=by kernel_rfl
def AdK:IC:=oS [mZ 2 0] [0] (oR [m1 3 0,nC 4 3,fA 5 4 1,l1 6 5,nL 7 6,m1 2 7] [2])
def AtB:List R:=[.t 2]
def Ayn:=AJ AdK.eq_1
theorem Ao0:Ar π 95 8 AdK AtB=true:=by kernel_rfl
attribute[push_cast]Auz Azy AtR Ay4 Au5 Azd AtG Ayj f5R f5e f7R f7e Awi AyH Avz Azv Aus AxN Aug Aym AuZ AxU AvV AyY AuN AxD AtB Ayn
end Go.Ir
section
namespace Go.Ir
structure GW where
 kind:Int
 name:Ad
 keys:List Ad
def SH(k:Int)(n:Ad)(s:GW):Bool:=s.kind==k&&s.name==n
def Iz(l:List GW)(k:Int)(n:Ad):Int:=BT (SH k n) l
def G6(key:Ad)(s:GW):GW:=if s.keys.contains key then s else{ s with keys:=s.keys++[key] }
def ArF(l:List GW)(k:Int)(n:Ad):Nat:=if Iz l k n<0 then l.length else(Iz l k n).toNat
def Vt(l:List GW)(k:Int)(n:Ad):List GW:=if Iz l k n<0 then l++[⟨k,n,[]⟩] else l
mutual
def Al.coll:Al->List GW->List GW
 | ⟨k,_,e,_,cs,ps⟩,l=>
  if Bk k then yJ cs (ArF (K6 ps l) k e) (Vt (K6 ps l) k e) else K6 ps l
def K6:List Al->List GW->List GW
 | [],l=>l
 | p::ps,l=>K6 ps (p.coll l)
def yJ:List (Ad×List Al)->Nat->List GW->List GW
 | [],_,l=>l
 | (key,ps)::cs,j,l=>yJ cs j (K6 ps (l.modify j (G6 key)))
end
def Ez(l g:List GW):Prop:=l.length<=g.length/\∀(i:Nat) (s e:GW),l[i]?=some s->g[i]?=some e->s.kind=e.kind/\s.name=e.name
theorem Ez.refl l:Ez l l:=⟨AfJ _,λi s g h e=>by grind⟩
theorem Ez.trans{a b c}(h:Ez a b)(k:Ez b c):Ez a c:=by refine⟨AvD h.1 k.1,λi s p j e=>?_⟩;have o:i<b.length:=Awa (Ath.1 j).1 h.1;have g:b[i]?=some b[i]:=Aqa o;have q:=h.2 i s _ j g;have r:=k.2 i _ p g e;grind
theorem Ez.app l m:Ez l (l++m):=by refine⟨by simp,λi s g h e=>?_⟩;grind
theorem Tf key s:(G6 key s).kind=s.kind/\(G6 key s).name=s.name:=by unfold G6;split<;>exact⟨rfl,rfl⟩
theorem Ez.mod l j key:Ez l (l.modify j (G6 key)):=by
 refine⟨by simp,λi s p h e=>?_⟩;rw[AzL,h] at e;by_cases o:j=i
 .have g:G6 key s=p:=by simpa[o] using e
  rw[<-g];have:=Tf key s;grind
 grind
theorem Zt{l e}(h:Ez l e) k n (j:¬Iz l k n<0):Iz e k n=Iz l k n:=by
 induction l generalizing e with
 | nil=>exact absurd (by simp[Iz,BT]) j
 | cons s l w=>
  cases e with
  | nil=>have:=h.1;simp at this
  | cons o e=>
   have g:=h.2 0 s o rfl rfl;have u:Ez l e:=⟨by have:=h.1;simpa using this,λi a b p q=>h.2 (i+1) a b (by simpa using p) (by simpa using q)⟩
   have r:SH k n o=SH k n s:=by unfold SH;rw[g.1,g.2]
   unfold Iz at *;simp only[BT,r] at j⊢;grind
end Go.Ir
end
section
namespace Go.Ir
def CQ(l:List Ad):List (V×V):=l.map λk=>(.s k,.b true)
theorem So l:(CQ l).length=l.length:=by simp[CQ]
def cA(k:Ad)(l:List Ad):List Ad:=if l.contains k then l else l++[k]
theorem l8 k (l:List Ad):∀n,(l.contains k=true/\∃i,Bp .str (.s k) (CQ l) n=some (some (n+i,.b true))/\(CQ l).modify i (λe=>(e.1,.b true))=CQ l)\/(l.contains k=false/\Bp .str (.s k) (CQ l) n=some none):=by
 induction l with
 | nil=>intro n;exact .inr ⟨rfl,rfl⟩
 | cons x l p=>
  intro n;have o:Bp .str (.s k) (CQ (x::l)) n=(match EH .str (.s k) (.s x) with
   | some true=>some (some (n,.b true))
   | some false=>Bp .str (.s k) (CQ l) (n+1)
   | none=>none):=rfl
  have j:EH .str (.s k) (.s x)=some (k==x):=rfl;rw[o,j,A0w];by_cases h:k=x
  .subst h;refine .inl ⟨by simp,0,?_,?_⟩
   .simp
   .simp[CQ]
  .have g:(k==x)=false:=by simpa using h
   rw[g,Asc];rcases p (n+1) with⟨h1,i,h2,h3⟩|⟨h1,h2⟩
   .refine .inl ⟨h1,i+1,?_,?_⟩
    .grind
    .show(CQ (x::l)).modify (i+1) _=_;simp only[CQ,Am1,List.modify_succ_cons] at h3⊢;rw[h3]
   grind
theorem Gq(k:Ad)(l:List Ad):(l.contains k=true/\cA k l=l/\∃i,Bp .str (.s k) (CQ l) 0=some (some (i,.b true))/\(CQ l).modify i (λe=>(e.1,.b true))=CQ l)\/(l.contains k=false/\cA k l=l++[k]/\Bp .str (.s k) (CQ l) 0=some none):=by
 rcases l8 k l 0 with⟨h1,i,h2,h3⟩|⟨h1,h2⟩
 .exact .inl ⟨h1,by unfold cA;rw[h1];rfl,i,by simpa using h2,h3⟩
 .exact .inr ⟨h1,by unfold cA;rw[h1];rfl,h2⟩
theorem Bg(k:Ad) l:CQ l++[(V.s k,V.b true)]=CQ (l++[k]):=by simp[CQ]
theorem pK{a}{σ:Au}(h:∀p∈σ,p.1≠a.1):∀i e,lk (a::σ) i=some e->lk (σ++[a]) i=some e:=by
 have ⟨ai,ae⟩:=a
 induction σ with
 | nil=>intro i e h;exact h
 | cons b σ o=>
  have ⟨bi,be⟩:=b;intro i e g;simp only[lk] at g;show(if bi=i then some be else lk (σ++[(ai,ae)]) i)=some e;split at g
  .rename_i j;subst j;have:bi≠ai:=h (bi,be) (by simp);rw[Amt this];exact o (λp hp=>h p (Ae0 _ hp)) ai e (by simp[lk];exact A0C g)
  .rename_i j;split at g
   .grind
   .rename_i q;rw[Amt q];exact o (λp hp=>h p (Ae0 _ hp)) i e (by simp only[lk];rw[Amt j];exact g)
theorem Cm{id x}{σ:Au}:∀i e,lk [(id,x)] i=some e->lk ((id,x)::σ) i=some e:=by intro i e h;simp only[lk] at h⊢;grind
theorem Ed{id x a}{σ:Au}(g:(a.1=id)=False):∀i e,lk [(id,x)] i=some e->lk (a::(id,x)::σ) i=some e:=by intro i e h;have ⟨ai,ae⟩:=a;simp only[lk] at h⊢;grind
section
variable{P:Program}{O:World}{ep d:Nat}{live:List Nat}{Q:Exit→St→Prop}{l:List I}{env:Bm}{σ:Au}
theorem El{f:FuncId}{vs:List V}{v:V}{id:Id}{e e':Be}{pre:Au}(h:An P O f vs [(id,e)] v [(id,e')])(g:∀p∈pre++σ,p.1≠id)
  (u:J P O ep live Q l ((d,v)::env) ((id,e')::(pre++σ))):G7 P O ep live Q f vs l d env (pre++(id,e)::σ):=by
 have o:∀(τ:Au),(∀p∈τ,p.1≠id)->lk (τ++(id,e)::σ) id=some e:=by
  intro τ q
  induction τ with
  | nil=>simp[lk]
  | cons a τ w=>have ⟨ai,ae⟩:=a;have:ai≠id:=q (ai,ae) (by simp);show(if ai=id then some ae else lk (τ++(id,e)::σ) id)=some e;grind
 refine BJ h (λi y j=>?_) ?_
 .simp only[lk] at j;split at j
  .rename_i r;subst r;cases j;exact o pre λp hp=>g p (AxM _ hp)
  .cases j
 .have s:List.filter (λp:Id×Be=>(lk [(id,e)] p.1).isNone) (pre++(id,e)::σ)=pre++σ:=by
   rw[Aze,List.filter_cons_of_neg (by simp[lk]),<-Aze,A0o];intro p hp;simp[lk,AsR (g p hp)]
  unfold over;rw[s];exact u
end
end Go.Ir
end
namespace Go.Ir
open Go.Proofs
variable{P:Program}{O:World}{nt n:Nat}{Q:Exit→St→Prop}{env:Bm}{σ:Au}
end Go.Ir

namespace Go.Ir
open Go.Proofs
theorem OF{σ i e}(h:lk σ i=some e):(i,e)∈σ:=by
 induction σ with
 | nil=>cases h
 | cons p σ g=>have ⟨k,x⟩:=p;simp only[lk] at h;grind
theorem bH{σ i e}(g:(σ.map (·.1)).Nodup)(h:(i,e)∈σ):lk σ i=some e:=by
 induction σ with
 | nil=>cases h
 | cons p σ j=>have ⟨k,x⟩:=p;rw[Am1,Ayl] at g;simp only[lk];grind
theorem UX{σ i}(h:∀p∈σ,p.1≠i):lk σ i=none:=by
 cases g:lk σ i with
 | none=>rfl
 | some e=>exact absurd rfl (h _ (OF g))
theorem BA{σ τ i e}(h:lk σ i=some e):lk (σ++τ) i=some e:=by
 induction σ with
 | nil=>cases h
 | cons p σ g=>have ⟨k,x⟩:=p;rw[AsT];simp only[lk] at h⊢;grind
theorem Jz{σi σo pre post}(j:∀p∈pre,∀q∈σi,p.1≠q.1)(o:∀p∈post,∀q∈σi,p.1≠q.1):over σi σo (pre++σi++post)=σo++(pre++post):=by
 have keep:∀τ:Au,(∀p∈τ,∀q∈σi,p.1≠q.1)->List.filter (λp:Id×Be=>(lk σi p.1).isNone) τ=τ:=by intro τ h;rw[A0o];intro p hp;rw[UX λq r=>AsR (h p hp q r)];rfl
 have g:List.filter (λp:Id×Be=>(lk σi p.1).isNone) σi=[]:=by
  rw[A0z];intro p hp s;cases i:lk σi p.1 with
  | none=>
   clear keep
   revert hp i
   generalize σi=τ;intro hp i
   induction τ with
   | nil=>cases hp
   | cons q τ u=>have ⟨k,x⟩:=q;simp only[lk] at i;grind
  | some e=>grind
 unfold over;rw[Aze,Aze,keep pre j,g,keep post o,AmY]
theorem Aj.sub{O:World}{nt n n':Nat}{env:Bm}{σ σ':Au}(g:(σ.map (·.1)).Nodup)(h:∀p∈σ',p∈σ)(o:n<=n'):Aj O nt ⟨env,σ,n⟩ ⟨env,σ',n'⟩:=
 Aj.drop (λi e j=>bH g (h _ (OF j))) o
theorem Aj.pre{O nt n n' env σ τ}(h:n<=n'):Aj O nt ⟨env,σ++τ,n⟩ ⟨env,σ,n'⟩:=
 Aj.drop (λi e g=>BA g) h
abbrev OS:=GW×Option Id
def sv(o:Option Id):V:=match o with
 | none=>.nil
 | some id=>.arr id
def osV(x:OS):V:=.agg [.i .i64 x.1.kind,.s x.1.name,sv x.2]
def osE(x:OS):Au:=match x.2 with
 | none=>[]
 | some id=>[(id,.arr 9 1 (x.1.keys.map V.s))]
def D7(L:List OS):Au:=L.flatMap osE
def slE(e:Nat)(g:Option Id)(L:List OS):Au:=match g with
 | none=>[]
 | some id=>[(id,.arr e 3 (L.map osV))]
def YX(e:Nat)(g:Option Id)(L:List OS):Au:=slE e g L++D7 L
theorem LZ A B:D7 (A++B)=D7 A++D7 B:=by simp[D7]
theorem Pb x B:D7 (x::B)=osE x++D7 B:=by simp[D7]
structure Axa (e:Nat) (hd:Au) (lo:Option Id) (L:List OS) (n:Nat):Prop where
 nd:((hd++YX e lo L).map (·.1)).Nodup
 lt:∀p∈hd++YX e lo L,p.1.1<n
 ne:lo=none->L=[]
 kn:∀x∈L,x.2=none->x.1.keys=[]
end Go.Ir

namespace Go.Ir
open Go.Proofs
variable(O:World)
theorem AhY{id:Id}{a j}(h:id.1<a):((a,j)=id)=False:=by grind
end Go.Ir

namespace Go.Ir
open Go.Proofs
structure LW (T:Nat) (lo:Option Id) (L:List OS) (n:Nat):Prop where
 nd:((YX T lo L).map (·.1)).Nodup
 lt:∀p∈YX T lo L,p.1.1<n
 ne:lo=none->L=[]
 kn:∀x∈L,x.2=none->x.1.keys=[]
theorem LW.more{T e L n n'}(h:LW T e L n)(g:n<=n'):LW T e L n':=⟨h.nd,λp hp=>Awa (h.lt p hp) g,h.ne,h.kn⟩
theorem Fh{T id L}:YX T (some id) L=(id,.arr T 3 (L.map osV))::D7 L:=rfl
theorem QE{a}{σ:Au}(h:(σ.map (·.1)).Nodup)(e:∀p∈σ,p.1≠a.1):((a::σ).map (·.1)).Nodup:=by grind
theorem AhQ{a}{σ:Au}(h:((a::σ).map (·.1)).Nodup):(σ.map (·.1)).Nodup/\∀p∈σ,p.1≠a.1:=by grind
theorem Ama{σ τ:Au}(h:(σ.map (·.1)).Nodup)(k:(τ.map (·.1)).Nodup)(e:∀p∈σ,∀q∈τ,p.1≠q.1):((σ++τ).map (·.1)).Nodup:=by grind
theorem Uo{σ τ:Au}(h:((σ++τ).map (·.1)).Nodup):(σ.map (·.1)).Nodup/\(τ.map (·.1)).Nodup/\∀p∈σ,∀q∈τ,p.1≠q.1:=by rw[A0r,List.nodup_append] at h;exact⟨h.1,h.2.1,λp hp q e=>h.2.2 _ (Awt.2 ⟨p,hp,rfl⟩) _ (Awt.2 ⟨q,e,rfl⟩)⟩
theorem uK{σ τ:Au}(h:(σ.map (·.1)).Nodup)(e:List.Sublist τ σ):(τ.map (·.1)).Nodup:=h.sublist (e.map _)
theorem LW.arr{T:Nat}{e:Id}{L:List OS}{n:Nat}(h:LW T (some e) L n):e.1<n/\(∀p∈D7 L,p.1≠e)/\(∀p∈D7 L,p.1.1<n)/\((D7 L).map (·.1)).Nodup:=by have g:((D7 L).map (·.1)).Nodup/\∀p∈D7 L,p.1≠e:=AhQ (a:=(e,.arr T 3 (L.map osV))) h.nd;exact⟨h.lt (e,.arr T 3 (L.map osV)) (by simp[Fh]),g.2,λp hp=>h.lt p (by simp[Fh,hp]),g.1⟩
theorem LW.add{T:Nat}{q:Option Id}{L:List OS}{n n':Nat}{id:Id}(h:LW T q L n)(w:n<=id.1)(i:id.1<n')(k:Int)(r:Ad):LW T (some id) (L++[(⟨k,r,[]⟩,none)]) n':=by
 have o:D7 (L++[(⟨k,r,[]⟩,none)])=D7 L:=by rw[LZ];simp[D7,osE]
 have e:∀p∈D7 L,p∈YX T q L:=λp hp=>Az8 _ hp;have j:((D7 L).map (·.1)).Nodup:=uK h.nd (A0s _ _);refine⟨?_,?_,(by simp),?_⟩
 .rw[Fh,o];refine QE j λp hp u=>?_;have:=h.lt p (e p hp);grind
 .rw[Fh,o];intro p hp;rcases Auy.1 hp with rfl|hp
  .exact i
  .have:=h.lt p (e p hp);omega
 .intro x g s;rcases Am5.1 g with g|g
  .exact h.kn x g s
  grind
theorem LW.key{T:Nat}{g:Id}{A B:List OS}{x:OS}{n n':Nat}{id:Id}(h:LW T (some g) (A++x::B) n)(D:n<=id.1)(z:id.1<n')(s:GW):LW T (some g) (A++(s,some id)::B) n':=by
 have ⟨h1,h2,h3,h4⟩:=h.arr;have w:D7 (A++x::B)=D7 A++(osE x++D7 B):=by rw[LZ,Pb]
 have i:D7 (A++(s,some id)::B)=D7 A++((id,.arr 9 1 (s.keys.map V.s))::D7 B):=by rw[LZ,Pb];rfl
 rw[w] at h2 h3 h4;have u:∀p∈D7 A++D7 B,p.1≠g/\p.1.1<n:=by
  intro p hp;have:p∈D7 A++(osE x++D7 B):=by grind
  grind
 have o:((D7 A++D7 B).map (·.1)).Nodup:=uK h4 ((List.Sublist.refl _).append (A0s _ _));have ⟨n1,n2,n3⟩:=Uo o;refine⟨?_,?_,(by simp),?_⟩
 .rw[Fh,i];refine QE (Ama n1 (QE n2 λp hp C=>?_) λp hp q r=>?_) λp hp=>?_
  .grind
  .rcases Auy.1 r with rfl|r
   .grind
   .exact n3 p hp q r
  grind
 .rw[Fh,i];intro p hp;rcases Auy.1 hp with rfl|hp
  .simp only;omega
  grind
 .intro y e j;rcases Am5.1 e with e|e
  .exact h.kn y (AxM _ e) j
  .rcases Auy.1 e with rfl|e
   .cases j
   .exact h.kn y (Az8 _ (Ae0 _ e)) j
theorem Fl{σi σo pre}(e:∀p∈pre,∀q∈σi,p.1≠q.1):over σi σo (pre++σi)=σo++pre:=by have:=Jz (σi:=σi) (σo:=σo) (pre:=pre) (post:=[]) e (by simp);simpa using this
end Go.Ir
