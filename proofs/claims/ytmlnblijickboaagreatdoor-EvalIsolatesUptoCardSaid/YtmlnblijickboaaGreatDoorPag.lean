/- A part of the proof that the law EvalIsolates answers true at every input of a bulk of at most 2^20. -/
import Derived.Test.YtmlnblijickboaaGreatDoorPaf
import Derived.Carry
import Derived.ChangeSame
import Derived.OpenShut
import Derived.Test.YtmlnblijickboaaGreatDoorChecked
set_option linter.all false
set_option maxHeartbeats 8000000
set_option maxRecDepth 20000
open Nat renaming reduceEqDiff→rq
section
namespace Go.Ir
open Go.RowKit Go.ChangeShapes Go.WideShapes
section
variable{H:Type}{enc:TypeId×Value→H}{P:Program}{W W':World}
theorem I1(m:laidOutB P=true)(l:Below W.heap.size W W'){o:Nat->Bool}:∀(f:List TypeId) (vs:List Value) (g:List (DataW H)) (ps:List MemPlace),(∀t∈f,P.readableRec t=true/\t<P.types.size)->
  DataW.TrodAll enc P W 0 (λ_=>true) true f vs g ps->(∀x∈ps,x.block<W.heap.size)->(∀x∈ps,o x.block=true)->DataW.TrodAll enc P W' 0 o true f vs g ps
 | [],vs,g,ps,_,h,_,_=>by obtain⟨rfl,rfl,rfl⟩:=trodAll_nil h;exact trodAll_mk0
 | t::f,vs,g,ps,e,h,b,c=>by obtain⟨v,k,d,i,p,q,rfl,rfl,rfl,r,u⟩:=trodAll_cons h;have ⟨hr,hrow⟩:=e t (by simp);refine trodAll_cons_mk (WideElems.Trod_stays m hr hrow r (λx a=>l.same (b x (by simp[a]))) (λx a=>c x (by simp[a]))) (I1 m l f k i q (λw j=>e w (by simp[j])) u (λx a=>b x (by simp[a])) (λx a=>c x (by simp[a])))
theorem YT{f:Func}{s:ChangeSpec}{c g d e:Bool}{args:Array Value}{l D:List (DataW H)}{a:List MemPlace}{tb:TypeId}
  (M:laidOutB P=true)(C:∀t∈f.params.toList,P.readableRec t=true/\t<P.types.size)(j:f.resultTypes=#[tb])(k:P.underlying tb=some .bool)(hv:s.vars=[])
  (z:s.fn H (l++D)={ results:=[.lit (.bool true)],args:=l })
  (u:DataW.Whole enc P f.params.toList s.vars c W args.toList l D a)(y:Below W.heap.size W W'):s.post enc P f c g d e W args (.bool true) W':=by
 have i:∀p∈a,p.block<W.heap.size:=λp hp=>u.lt p hp;have w:=u;obtain⟨p,q,J,E,rfl,R,N⟩:=u;rw[hv] at E;obtain⟨rfl,rfl⟩:=trodVars_none E;simp only[AmY] at *;have G:∀x∈p,(λb=>decide (b<W.heap.size)) x.block=true:=λx m=>by simpa using i x m
 have h:∀o:Nat->Bool,(∀x∈p,o x.block=true)->DataW.TrodAll enc P W' 0 o true f.params.toList args.toList l p:=λo B=>I1 M y _ _ _ _ C J i B;have I:∀(b:Nat) (o:Nat->Bool) (F:Bool),DataW.TrodAll enc P W' b o F f.resultTypes.toList ((Value.bool true).resultList f.resultTypes.size) [.lit (.bool true)] []:=by intro b o F;rw[j];exact trodAll_cons_mk (p:=[]) (p':=[]) (shut_bool k _) trodAll_mk0
 refine⟨l,[],p,[],p,[],w,?_,?_,?_,World.keptBut_mono (λx m=>⟨m,.inr (.inl m)⟩) (y.frame _),λ_=>?_⟩
 .grind
 .grind
 .rw[hv,AmY,z];rfl
 .refine⟨ok_one j rfl (okWide_bool_mk k _),.lit (.bool true)::l,[],p,⟨p,[],?_,by rw[hv];rfl,by simp,?_,?_⟩,λx m _=>m⟩
  .rw[j];exact trodAll_cons_mk (p:=[]) (shut_bool k _) (h _ (λ_ _=>rfl))
  .intro b r hp;have:=i _ hp;have A:=y.frozen (p:=⟨b,r,none⟩) this;rw[A];exact R b r (by simpa using hp)
  .intro K;exact N K
theorem Hp.start(W:World)(n:Nat):Hp W [] n (λ_=>none) (λa=>W.cell? a) W where
 base:=AxE _ _
 pins _ _ h:=h
 ents _ _ h:=by simp[lk] at h
 unp bk ho:=by have ⟨id,e,h,_⟩:=ho;simp[lk] at h
 sep _ _ _ _ _ h:=by simp[lk] at h
 bd _ _:=rfl
theorem Ua{f:FuncId}{args:List V}{a:List Value}(h:An P W f args [] (.b true) [])(hv:VRels (λ_=>none) (λc=>W.cell? c) args a) :
  Calls P f a.toArray W λe W'=>e=.returned (.bool true)/\Below W.heap.size W W':=
 (h.run 0 W _ _ a (Hp.start W 0) hv).mono λe W' ⟨val,i,j,n',d,g,hp,_⟩=>⟨by rw[d,g.b_inv],hp.base⟩
end
end Go.Ir
end
section
namespace Go.Ir
open Go.Proofs
section
variable{P:Program}
theorem Fe.int_inv{t:TypeId}{k:IntKind}{v:V}(h:Fe P t [v])(a:P.underlying t=some (.int k)):∃n,v=.i k n/\(Lit.int k n).wf=true:=by
 cases h with
 | int _ f n h d=>grind
 | bool _ b h=>rw[a] at h;cases h
 | str _ l h=>rw[a] at h;cases h
 | sl _ e es h _ _ _=>rw[a] at h;cases h
 | st _ c vs h _ _=>rw[a] at h;cases h
theorem Fe.str_inv{t:TypeId}{v:V}(h:Fe P t [v])(a:P.underlying t=some .string):∃l,v=.s l:=by
 cases h with
 | int _ f n h d=>rw[a] at h;cases h
 | bool _ b h=>rw[a] at h;cases h
 | str _ l h=>exact⟨l,rfl⟩
 | sl _ e es h _ _ _=>rw[a] at h;cases h
 | st _ c vs h _ _=>rw[a] at h;cases h
theorem Fe.sl_inv{t e:TypeId}{v:V}(h:Fe P t [v])(d:P.underlying t=some (.slice e)):∃es,v=.sl es/\(∀a∈es,∃c,a=Gj ((Du P e).getD false) c/\cells a=c)/\(∀a∈es,(cells a).length=P.cellsOf e)/\(∀a∈es,Fe P e (cells a)):=by
 cases h with
 | int _ m n h k=>rw[d] at h;cases h
 | bool _ b h=>rw[d] at h;cases h
 | str _ l h=>rw[d] at h;cases h
 | sl _ e' es h g i j=>grind
 | st _ f vs h _ _=>rw[d] at h;cases h
theorem Fe.st_inv{t:TypeId}{c:Array Field}{vs:List V}(h:Fe P t vs)(a:P.underlying t=some (.struct c)):vs.length=P.cellsOf t/\∀f∈c.toList,Fe P f.type ((vs.drop f.offset).take (P.cellsOf f.type)):=by
 cases h with
 | int _ k n h j=>rw[a] at h;cases h
 | bool _ b h=>rw[a] at h;cases h
 | str _ l h=>rw[a] at h;cases h
 | sl _ e' es h e g i=>rw[a] at h;cases h
 | st _ d vs h e g=>grind
end
theorem zV{l:List V}(h:l.length=2):∃a b,l=[a,b]:=by
 match l,h with
 | [a,b],_=>exact⟨a,b,rfl⟩
theorem AtM{l:List V}(h:l.length=6):∃a b c d e f,l=[a,b,c,d,e,f]:=by
 match l,h with
 | [a,b,c,d,e,f],_=>grind
theorem c9:π.cellsOf 9=1:=by kernel_rfl
theorem c3:π.cellsOf 3=1:=by kernel_rfl
theorem c31:π.cellsOf 31=1:=by kernel_rfl
theorem c50:π.cellsOf 72=1:=by kernel_rfl
theorem c52:π.cellsOf 74=6:=by kernel_rfl
theorem c54:π.cellsOf 76=2:=by kernel_rfl
theorem a52:Du π 74=some true:=by kernel_rfl
theorem a54:Du π 76=some true:=by kernel_rfl
theorem m8:∀(N:Nat) (v:V),Bo v<=N->Fe π 31 [v]->∃ps,v=.sl (Ho ps)/\AV ps<=Bo v:=by
 intro N
 induction N with
 | zero=>intro v h;cases v<;>simp[Bo] at h<;>intro f<;>obtain⟨es,M,_⟩:=f.sl_inv Tryz.underlying31<;>cases M
 | succ N K=>
  intro v w f;obtain⟨es,rfl,d,u,o⟩:=f.sl_inv Tryz.underlying31;rw[a52] at d;simp only[Option.getD_some] at d;simp only[Bo] at w⊢;have g:∀v:V,Bo v<=N->Fe π 72 [v]->∃cs,v=.sl (Jo cs)/\DY cs<=Bo v:=by
   intro v hv f;obtain⟨es,rfl,d,u,o⟩:=f.sl_inv Tryz.underlying72;rw[a54] at d;simp only[Option.getD_some] at d;simp only[Bo] at hv⊢;have:∃cs,es=Jo cs/\DY cs<=AE es:=by
    clear f
    induction es with
    | nil=>exact⟨[],by simp[Jo],by simp[DY]⟩
    | cons r es j=>
     simp only[AE] at hv⊢;obtain⟨cs,g,A⟩:=j (by omega) (λx b=>d x (Ae0 _ b)) (λx b=>u x (Ae0 _ b)) (λx b=>o x (Ae0 _ b));obtain⟨c,rfl,_⟩:=d r (by simp);have a:=o (Gj true c) (by simp);have z:cells (Gj true c)=c:=rfl;rw[z] at a;obtain⟨p,e⟩:=a.st_inv Tryz.underlying76;rw[c54] at p;obtain⟨U,q,rfl⟩:=zV p;have l:=e _ (by exact Ams);have m:=e _ (by exact Ae0 _ Ams);simp only[c9,c31,AxJ,Ax4,AwE,AxO] at l m;obtain⟨k,rfl⟩:=l.str_inv Tryz.underlying9;have y:Bo (Gj true [.s k,q])=k.length+1+Bo q:=by simp[Gj,Bo,AE]
     rw[y] at hv⊢;obtain⟨ps,rfl,C⟩:=K q (by omega) m;refine⟨(k,ps)::cs,by rw[g];simp[Jo,Gj],?_⟩;rw[B8];simp only;omega
   obtain⟨cs,rfl,f⟩:=this;exact⟨cs,rfl,by omega⟩
  have:∃ps,es=Ho ps/\AV ps<=AE es:=by
   clear f
   induction es with
   | nil=>exact⟨[],by simp[Ho],by simp[AV]⟩
   | cons r es j=>
    simp only[AE] at w⊢;obtain⟨ps,B,C⟩:=j (by omega) (λx b=>d x (Ae0 _ b)) (λx b=>u x (Ae0 _ b)) (λx b=>o x (Ae0 _ b));obtain⟨c,rfl,_⟩:=d r (by simp);have a:=o (Gj true c) (by simp);have z:cells (Gj true c)=c:=rfl;rw[z] at a;obtain⟨p,e⟩:=a.st_inv Tryz.underlying74;rw[c52] at p;obtain⟨U,q,Y,Z,D,E,rfl⟩:=AtM p;have l:=e _ (by exact Ams);have m:=e _ (by exact Ae0 _ Ams);have F:=e _ (by exact Ae0 _ (Ae0 _ Ams));have G:=e _ (by exact Ae0 _ (Ae0 _ (Ae0 _ Ams)));have I:=e _ (by exact Ae0 _ (Ae0 _ (Ae0 _ (Ae0 _ Ams))));have J:=e _ (by exact Ae0 _ (Ae0 _ (Ae0 _ (Ae0 _ (Ae0 _ Ams)))));simp only[c9,c31,c3,c50,AxJ,Ax4,AwE,AxO] at l m F G I J;obtain⟨k,rfl,X⟩:=l.int_inv Tryz.underlying3;obtain⟨t,rfl⟩:=m.str_inv Tryz.underlying9;obtain⟨n,rfl⟩:=F.str_inv Tryz.underlying9;obtain⟨s,rfl⟩:=G.str_inv Tryz.underlying9;have y:Bo (Gj true [.i .i64 k,.s t,.s n,.s s,D,E])=1+(t.length+1)+(n.length+1)+(s.length+1)+Bo D+Bo E:=by simp[Gj,Bo,AE];omega
    rw[y] at w⊢;obtain⟨cs,rfl,A⟩:=g D (by omega) I;obtain⟨T,rfl,R⟩:=K E (by omega) J;refine⟨⟨k,t,n,s,cs,T⟩::ps,by rw[B];simp[Ho,Al.enc,Gj],?_⟩;rw[Bw,Al.wt_eq];simp only;omega
  obtain⟨ps,rfl,S⟩:=this;exact⟨ps,rfl,by omega⟩
end Go.Ir
end
section
namespace Go.Ir
open Go.Proofs
def Er{a:Type}(w:a->Nat):List a->Nat
 | []=>0
 | x::xs=>w x+Er w xs
theorem P3{c:Type}{G:V->Prop}(enc:c->V)(w:c->Nat)(b:∀a,G a->∃x,a=enc x/\w x<=Bo a):∀es,(∀a∈es,G a)->∃xs,es=xs.map enc/\Er w xs<=AE es:=by
 intro es
 induction es with
 | nil=>intro _;exact⟨[],rfl,by simp[Er]⟩
 | cons e es f=>intro h;have ⟨xs,h1,h2⟩:=f λx d=>h x (by simp[d]);have ⟨x,h3,h4⟩:=b e (h e (by simp));exact⟨x::xs,by rw[h1,h3];rfl,by simp only[Er,AE];omega⟩
section
variable{P:Program}
theorem E8{g:Type}{t e:TypeId}{v:V}(h:Fe P t [v])(m:P.underlying t=some (.slice e))(l:Du P e=some true)(enc:g->V)(w:g->Nat)(d:∀c,Fe P e c->∃x,V.agg c=enc x/\w x<=AE c) :
  ∃xs:List g,v=.sl (xs.map enc)/\Er w xs+1<=Bo v:=by
 obtain⟨es,rfl,i,o,k⟩:=h.sl_inv m;rw[l] at i;have ⟨xs,hx,hw⟩:=P3 (G:=λa=>∃c,a=V.agg c/\Fe P e c) enc w (λa ⟨c,b,f⟩=>by
  subst b;have ⟨x,hx,hwx⟩:=d c f;exact⟨x,hx,by simpa[Bo] using hwx⟩) es λa j=>by
  have ⟨c,b,hcc⟩:=i a j;have:=k a j;rw[hcc] at this;exact⟨c,b,this⟩
 exact⟨xs,by rw[hx],by simp only[Bo];omega⟩
theorem aS{i:Type}{t e l:TypeId}{v:V}(h:Fe P t [v])(q:P.underlying t=some (.slice e))(r:P.underlying e=some (.slice l))(p:Du P e=some false)(d:P.cellsOf e=1)(enc:i->V)(w:i->Nat)(f:∀v,Fe P e [v]->∃x,v=enc x/\w x<=Bo v) :
  ∃xs:List i,v=.sl (xs.map enc)/\Er w xs+1<=Bo v:=by
 obtain⟨es,rfl,j,m,o⟩:=h.sl_inv q;rw[p] at j;have ⟨xs,hx,hw⟩:=P3 (G:=λa=>Fe P e [a]) enc w f es λa g=>by
  have ⟨c,hc,hcc⟩:=j a g;have k:=o a g;have b:=m a g;rw[hcc] at k b;rw[d] at b
  match c,b with
  | [x],_=>have:a=x:=hc;rw[this];exact k
 exact⟨xs,by rw[hx],by simp only[Bo];omega⟩
theorem Fe.bool_inv{t:TypeId}{v:V}(h:Fe P t [v])(a:P.underlying t=some .bool):∃b,v=.b b:=by
 cases h with
 | int _ f n h d=>rw[a] at h;cases h
 | bool _ b h=>exact⟨b,rfl⟩
 | str _ l h=>rw[a] at h;cases h
 | sl _ e es h _ _ _=>rw[a] at h;cases h
 | st _ c vs h _ _=>rw[a] at h;cases h
end
theorem Avh{l:List V}(h:l.length=4):∃a b c d,l=[a,b,c,d]:=by
 match l,h with
 | [a,b,c,d],_=>exact⟨a,b,c,d,rfl⟩
theorem AuO{b:Type}(xs:List b):Er (λ_=>1) xs=xs.length:=by
 induction xs with
 | nil=>rfl
 | cons x xs a=>simp only[Er,a,Aa8];omega
theorem Anh:π.cellsOf 185=2:=by kernel_rfl
theorem Av2:π.cellsOf 122=4:=by kernel_rfl
theorem AnU:π.cellsOf 96=2:=by kernel_rfl
theorem Apk:π.cellsOf 119=1:=by kernel_rfl
theorem AjG:π.cellsOf 120=1:=by kernel_rfl
theorem Apv:π.cellsOf 94=1:=by kernel_rfl
theorem Aib:π.cellsOf 22=1:=by kernel_rfl
theorem Af9:π.cellsOf 4=1:=by kernel_rfl
theorem Aqm:π.cellsOf 30=16:=by kernel_rfl
theorem ApV:Du π 185=some true:=by kernel_rfl
theorem Au2:Du π 122=some true:=by kernel_rfl
theorem Aru:Du π 119=some false:=by kernel_rfl
theorem Ag9:Du π 96=some true:=by kernel_rfl
theorem AaR(c:List V)(h:Fe π 185 c):∃x:Hi,V.agg c=x.enc/\1<=AE c:=by obtain⟨g,f⟩:=h.st_inv Tryz.underlying185;rw[Anh] at g;obtain⟨i,j,rfl⟩:=zV g;have d:=f _ (by exact Ams);have e:=f _ (by exact Ae0 _ Ams);simp only[c3,AxJ,Ax4,AwE,AxO] at d e;obtain⟨a,rfl,_⟩:=d.int_inv Tryz.underlying3;obtain⟨b,rfl,_⟩:=e.int_inv Tryz.underlying3;exact⟨⟨a,b⟩,rfl,by simp[AE,Bo]⟩
theorem Aim(c:List V)(h:Fe π 122 c):∃x:Fq,V.agg c=x.enc/\x.wt<=AE c:=by obtain⟨j,d⟩:=h.st_inv Tryz.underlying122;rw[Av2] at j;obtain⟨l,m,o,p,rfl⟩:=Avh j;have e:=d _ (by exact Ams);have f:=d _ (by exact Ae0 _ Ams);have g:=d _ (by exact Ae0 _ (Ae0 _ Ams));have i:=d _ (by exact Ae0 _ (Ae0 _ (Ae0 _ Ams)));simp only[c3,Af9,AjG,AxJ,Ax4,AwE,AxO] at e f g i;obtain⟨a,rfl,_⟩:=e.int_inv Tryz.underlying3;obtain⟨b,rfl,_⟩:=f.int_inv Tryz.underlying3;obtain⟨n,rfl⟩:=g.bool_inv Tryz.underlying4;obtain⟨xs,rfl,k⟩:=E8 i Tryz.underlying120 ApV Hi.enc (λ_=>1) AaR;rw[AuO] at k;refine⟨⟨a,b,n,xs⟩,rfl,?_⟩;simp only[AE,Bo] at k⊢;unfold Fq.wt;simp only;omega
theorem wD(xs:List Fq):CN xs=Er Fq.wt xs+1:=by
 induction xs with
 | nil=>rfl
 | cons x xs a=>simp only[Er,CN,a];omega
theorem yY(xs:List (List Fq)):D8 xs=Er CN xs:=by
 induction xs with
 | nil=>rfl
 | cons x xs a=>simp only[Er,D8,a]
theorem bG(xs:List AH):A9 xs=Er AH.wt xs:=by
 induction xs with
 | nil=>rfl
 | cons x xs a=>simp only[Er,A9,a]
theorem Aa9(v:V)(h:Fe π 119 [v]):∃x:List Fq,v=Ei x/\CN x<=Bo v:=by obtain⟨xs,rfl,a⟩:=E8 h Tryz.underlying119 Au2 Fq.enc Fq.wt Aim;exact⟨xs,rfl,by rw[wD];exact a⟩
theorem WD(c:List V)(h:Fe π 96 c):∃x:AH,V.agg c=x.enc/\x.wt<=AE c:=by obtain⟨f,e⟩:=h.st_inv Tryz.underlying96;rw[AnU] at f;obtain⟨i,j,rfl⟩:=zV f;have b:=e _ (by exact Ams);have d:=e _ (by exact Ae0 _ Ams);simp only[c9,Apv,AxJ,Ax4,AwE,AxO] at b d;obtain⟨a,rfl⟩:=b.str_inv Tryz.underlying9;obtain⟨xs,rfl,g⟩:=aS d Tryz.underlying94 Tryz.underlying119 Aru Apk Ei CN Aa9;refine⟨⟨a,xs⟩,rfl,?_⟩;unfold AH.wt;rw[yY];simp only[AE,Bo] at g⊢;omega
end Go.Ir
end
namespace Go.Ir
def Lv(n:Nat):List Nat:=
 if n<128 then[n] else if n<2048 then[192+n / 64,128+n % 64]
 else if n<65536 then[224+n / 4096,128+n / 64 % 64,128+n % 64]
 else[240+n / 262144,128+n / 4096 % 64,128+n / 64 % 64,128+n % 64]
def CY(n:Nat):Ad:=(Lv n).map UInt8.ofNat
def NP(n:Nat):Bool:=decide (n<=1114111)&&(decide (n<55296)||decide (57343<n))
theorem FD(n:Nat):NP n=true↔n<=1114111/\(n<55296\/57343<n):=by unfold NP;simp
theorem IJ(n:Nat):Br (n:Int)=NP n:=by rw[Axn,FD];unfold Br;simp;omega
theorem AcY{n:Nat}(h:n<2147483648):IntKind.i32.wrap (n:Int)=n:=by simp only[IntKind.wrap,IntKind.bits,IntKind.signed];simp;omega
theorem AaU{n:Nat}(h:n<2147483648):IntKind.u32.wrap (n:Int)=n:=by simp only[IntKind.wrap,IntKind.bits,IntKind.signed];simp;omega
theorem Asf:∀x:Nat,x<256->Ws 128 (anU (x:Nat) 63)=((128+x % 64:Nat):Int):=by decide
theorem Aox:∀x:Nat,x<32->Ws 192 (x:Nat)=((192+x:Nat):Int):=by decide
theorem Ani:∀x:Nat,x<16->Ws 224 (x:Nat)=((224+x:Nat):Int):=by decide
theorem An0:∀x:Nat,x<8->Ws 240 (x:Nat)=((240+x:Nat):Int):=by decide
theorem M3(n:Nat):u8 (n:Int)=((n % 256:Nat):Int):=by unfold u8;rw[L7];simp
theorem AbQ(n k:Nat):srI (n:Int) k=((n / 2 ^ k:Nat):Int):=by unfold srI;rw[Int.fdiv_eq_ediv_of_nonneg _ (by exact_mod_cast Aul _)];push_cast;rfl
theorem gM(m:Nat):Ws 128 (anU (u8 (m:Int)) 63)=((128+m % 64:Nat):Int):=by rw[M3,Asf _ (Az5 _ (by omega))];congr 2;omega
theorem ZT(n:Nat)(h:NP n=true):Hx (n:Int)=(Lv n).map λx:Nat=>(x:Int):=by
 rw[FD] at h;unfold Hx Lv Wa Yv;rw[AaU (by omega)];simp only[AbQ,gM];by_cases f:n<128
 .have c:decide ((n:Int)<=127)=true:=by simp;omega
  rw[c,Aiv rfl,Aiv f,M3,A0i (by omega)];rfl
 .have c:decide ((n:Int)<=127)=false:=by simp;omega
  rw[c,Amt (by simp),Amt f];by_cases g:n<2048
  .have d:decide ((n:Int)<=2047)=true:=by simp;omega
   rw[d,Aiv rfl,Aiv g,M3,Aox _ (by omega)];simp only[Am1,Asz,show(2:Nat) ^ 6=64 from rfl];rw[A0i (a:=n / 64) (b:=256) (by omega)]
  .have d:decide ((n:Int)<=2047)=false:=by simp;omega
   rw[d,Amt (by simp),Amt g];by_cases i:n<65536
   .have e:(decide ((n:Int)<55296)||decide (57343<(n:Int))&&decide ((n:Int)<=65535))=true:=by simp;omega
    rw[e,Aiv rfl,Aiv i,M3,Ani _ (by omega)];simp only[Am1,Asz,show(2:Nat) ^ 6=64 from rfl,show(2:Nat) ^ 12=4096 from rfl,show(2:Nat) ^ 18=262144 from rfl];rw[A0i (a:=n / 4096) (b:=256) (by omega)]
   .have e:(decide ((n:Int)<55296)||decide (57343<(n:Int))&&decide ((n:Int)<=65535))=false:=by simp;omega
    have j:(decide ((n:Int)>65535)&&decide ((n:Int)<=1114111))=true:=by simp;omega
    rw[e,Amt (by simp),j,Aiv rfl,Amt i,M3,An0 _ (by omega)];simp only[Am1,Asz,show(2:Nat) ^ 6=64 from rfl,show(2:Nat) ^ 12=4096 from rfl,show(2:Nat) ^ 18=262144 from rfl];rw[A0i (a:=n / 262144) (b:=256) (by omega)]
theorem HN(n:Nat)(h:NP n=true):Dq [(n:Int)]=CY n:=by unfold Dq CY Cr;rw[Ayt,AzU,AmY,IJ,h,Aiv rfl,AcY (by have:=(FD n).1 h;omega),ZT n h,A0F];rfl
def C3(l:List Nat):Ad:=l.flatMap CY
theorem Cu(n:Nat)(l:List Nat):C3 (n::l)=CY n++C3 l:=rfl
theorem Ge(a b:List Nat):C3 (a++b)=C3 a++C3 b:=by unfold C3;rw[List.flatMap_append]
def HH(l:List Nat):List Int:=l.map λn:Nat=>(n:Int)
theorem jK(l:List Nat)(h:∀n∈l,NP n=true):Dq (HH l)=C3 l:=by
 induction l with
 | nil=>rfl
 | cons n l c=>
  have a:Dq (HH (n::l))=Dq [(n:Int)]++Dq (HH l):=by unfold Dq HH;rw[Am1,Ayt,Ayt,AzU,AmY]
  rw[a,HN n (h n (by simp)),c λm b=>h m (by simp[b]),Cu]
theorem bP(s:Ad)(i:Nat):(⟨s.toArray⟩:ByteArray).get! i=s.getD i 0:=by simp only[ByteArray.get!];rw[AyO];simp[AvJ];rfl
theorem Oz(s:Ad):(⟨s.toArray⟩:ByteArray).size=s.length:=by simp[ByteArray.size]
def Aao(s:Ad):Nat×Nat:=Utf8.decode ⟨s.toArray⟩ 0
theorem N4(s:Ad)(i:Nat):Utf8.decode ⟨s.toArray⟩ i=Aao (s.drop i):=by
 have a:∀k,(⟨s.toArray⟩:ByteArray).get! (i+k)=(⟨(s.drop i).toArray⟩:ByteArray).get! (0+k):=λk=>by rw[bP,bP,AyO,AyO,AzF,AxV]
 have b:∀k,(decide (i+k<(⟨s.toArray⟩:ByteArray).size))=decide (0+k<(⟨(s.drop i).toArray⟩:ByteArray).size):=λk=>by rw[Oz,Oz,AyA,decide_eq_decide];omega
 unfold Aao;simp only[Utf8.decode,a,b]
theorem Aae(n:Nat)(h:NP n=true)(t:Ad):Aao (CY n++t)=(n,(CY n).length):=by
 rw[FD] at h;have a:∀x:Nat,x<256->(UInt8.ofNat x).toNat=x:=λx k=>by rw[AzH];omega
 unfold Aao CY Lv;by_cases g:n<128
 .rw[Aiv g];simp only[Utf8.decode,bP,Oz,Am1,Asz,AsT,Aub,AxV,A0q];rw[a n (by omega),Aiv g];rfl
 .rw[Amt g];by_cases i:n<2048
  .rw[Aiv i];simp only[Utf8.decode,bP,Oz,Am1,Asz,AsT,Aub,AxV,A0q,A0J,Aa8,Adu];rw[a _ (by omega),a _ (by omega)];have b:¬(192+n / 64<128):=by omega
   have c:((192+n / 64) / 32==6&&(decide (1<t.length+1+1)&&(128+n % 64) / 64==2))=true:=by simp;omega
   have d:(192+n / 64) % 32*64+(128+n % 64) % 64=n:=by omega
   rw[Amt b,c,Aiv rfl,d,Aiv (by omega)]
  .rw[Amt i];by_cases j:n<65536
   .rw[Aiv j];simp only[Utf8.decode,bP,Oz,Am1,Asz,AsT,Aub,AxV,A0q,A0J,Aa8,Adu];rw[a _ (by omega),a _ (by omega),a _ (by omega)];have b:¬(224+n / 4096<128):=by omega
    have e0:((224+n / 4096) / 32==6&&(decide (1<t.length+1+1+1)&&(128+n / 64 % 64) / 64==2))=false:=by
     have:((224+n / 4096) / 32==6)=false:=by simp;omega
     rw[this];rfl
    have c:((224+n / 4096) / 16==14&&(decide (1<t.length+1+1+1)&&(128+n / 64 % 64) / 64==2)&&(decide (2<t.length+1+1+1)&&(128+n % 64) / 64==2))=true:=by simp;omega
    have d:(224+n / 4096) % 16*4096+(128+n / 64 % 64) % 64*64+(128+n % 64) % 64=n:=by omega
    have f:(decide (n>=2048)&&Utf8.valid (n:Int))=true:=by unfold Utf8.valid;simp;omega
    rw[Amt b,e0,Amt (by simp),c,Aiv rfl,d,f,Aiv rfl]
   .rw[Amt j];simp only[Utf8.decode,bP,Oz,Am1,Asz,AsT,Aub,AxV,A0q,A0J,Aa8,Adu];rw[a _ (by omega),a _ (by omega),a _ (by omega),a _ (by omega)];have b:¬(240+n / 262144<128):=by omega
    have e0:((240+n / 262144) / 32==6&&(decide (1<t.length+1+1+1+1)&&(128+n / 4096 % 64) / 64==2))=false:=by
     have:((240+n / 262144) / 32==6)=false:=by simp;omega
     rw[this];rfl
    have e:((240+n / 262144) / 16==14&&(decide (1<t.length+1+1+1+1)&&(128+n / 4096 % 64) / 64==2)&&(decide (2<t.length+1+1+1+1)&&(128+n / 64 % 64) / 64==2))=false:=by
     have:((240+n / 262144) / 16==14)=false:=by simp;omega
     rw[this];rfl
    have c:((240+n / 262144) / 8==30&&(decide (1<t.length+1+1+1+1)&&(128+n / 4096 % 64) / 64==2)&&(decide (2<t.length+1+1+1+1)&&(128+n / 64 % 64) / 64==2)&&(decide (3<t.length+1+1+1+1)&&(128+n % 64) / 64==2))=true:=by simp;omega
    have d:(240+n / 262144) % 8*262144+(128+n / 4096 % 64) % 64*4096+(128+n / 64 % 64) % 64*64+(128+n % 64) % 64=n:=by omega
    have f:(decide (n>=65536)&&Utf8.valid (n:Int))=true:=by unfold Utf8.valid;simp;omega
    rw[Amt b,e0,Amt (by simp),e,Amt (by simp),c,Aiv rfl,d,f,Aiv rfl]
theorem cX(n:Nat):1<=(CY n).length:=by
 unfold CY Lv
 repeat' split
 all_goals simp
theorem AaN(s:Ad):∀(k p:Nat),DN s k p=DN (s.drop p) k 0:=by
 intro k
 induction k generalizing s with
 | zero=>intro p;rfl
 | succ k a=>
  intro p;rw[DN,DN,N4,N4,AxJ,AyA];by_cases h:p<s.length
  .rw[Aiv h,Aiv (by omega),AxV,a s (p+_),a (s.drop p) _,AzC]
  .rw[Amt h,Amt (by omega)]
theorem RZ(l:List Nat)(h:∀n∈l,NP n=true)(t:Ad):EQ (C3 l++t)=HH l++EQ t:=by
 induction l with
 | nil=>rfl
 | cons n l d=>
  have e:=cX n;rw[Cu,Awz];have b:EQ (CY n++(C3 l++t))=(n:Int)::EQ (C3 l++t):=by obtain⟨k,a⟩:∃k,(CY n++(C3 l++t)).length=k+1:=⟨(CY n++(C3 l++t)).length-1,by simp;omega⟩;unfold EQ;rw[a,DN,Aiv (by omega),N4,AxJ,Aae n (h n (by simp)),AxV];simp only;rw[AaN,AzP,MU _ k (C3 l++t).length 0 (by simp at a⊢;omega) (by omega)]
  rw[b,d λm c=>h m (by simp[c])];rfl
def U8(s:Ad):Prop:=∃l:List Nat,(∀n∈l,NP n=true)/\s=C3 l
theorem U8.nil:U8 []:=⟨[],λn h=>(by cases h),rfl⟩
theorem U8.app{a b:Ad}(c:U8 a)(d:U8 b):U8 (a++b):=by obtain⟨l,e,rfl⟩:=c;obtain⟨m,f,rfl⟩:=d;exact⟨l++m,λn h=>(Am5.1 h).elim (e n) (f n),(Ge l m).symm⟩
theorem MI{n:Nat}(h:n<128):CY n=[UInt8.ofNat n]:=by unfold CY Lv;rw[Aiv h];rfl
theorem U8.asc{s:Ad}(h:∀c∈s,c.toNat<128):U8 s:=by
 refine⟨s.map UInt8.toNat,λn e=>?_,?_⟩
 .obtain⟨c,a,rfl⟩:=Awt.1 e;rw[FD];have:=h c a;omega
 .induction s with
  | nil=>rfl
  | cons c s f=>rw[Am1,Cu,MI (h c (by simp)),<-f λd b=>h d (by simp[b])];simp
def WG(c:UInt8):Bool:=c.toNat / 64==2
theorem Zp(n:Nat)(h:NP n=true):∀c∈(CY n).tail,WG c=true:=by
 rw[FD] at h;unfold CY Lv WG;have b:∀x:Nat,x<64->((UInt8.ofNat (128+x)).toNat / 64==2)=true:=λx d=>by rw[AzH];simp;omega
 repeat' split
 all_goals simp only[Am1,Asz,List.tail_cons]
 all_goals intro c a
 .cases a
 .simp only[Auy,AxH,or_false] at a;subst a;exact b _ (Az5 _ (by omega))
 .simp only[Auy,AxH,or_false] at a;rcases a with rfl|rfl<;>exact b _ (Az5 _ (by omega))
 .simp only[Auy,AxH,or_false] at a;rcases a with rfl|rfl|rfl<;>exact b _ (Az5 _ (by omega))
def hdB:Ad->Bool
 | []=>true
 | c::_=>!WG c
theorem U8.split{a b:Ad}(h:U8 (a++b))(i:hdB b=true):U8 a/\U8 b:=by
 obtain⟨l,f,g⟩:=h
 induction l generalizing a with
 | nil=>
  have e:a++b=[]:=g
  obtain⟨rfl,rfl⟩:=List.append_eq_nil_iff.1 e
  exact⟨U8.nil,U8.nil⟩
 | cons n l p=>
  rw[Cu] at g
  cases a with
  | nil=>exact⟨U8.nil,n::l,f,by rw[Cu];exact g⟩
  | cons x a=>
   rcases List.append_eq_append_iff.1 g with⟨c,e,h2⟩|⟨c,e,h2⟩
   .
    cases c with
    | nil=>
     rw[AmY] at e
     rw[Aub] at h2
     exact⟨⟨[n],fun m d=>f m (by simp at d;simp[d]),by rw[Cu,e];simp[C3]⟩,l,fun m d=>f m (by simp[d]),h2⟩
    | cons y c=>
     have o:=Zp n (f n (by simp)) y (by rw[e];simp)
     rw[h2,AsT] at i
     simp only[hdB,o] at i
     cases i
   .obtain⟨j,k⟩:=p (a:=c) (fun m d=>f m (by simp[d])) h2.symm
    exact⟨by rw[e];exact U8.app ⟨[n],fun m d=>f m (by simp at d;simp[d]),by rw[Cu];simp[C3]⟩ j,k⟩
theorem U8.tl{c:UInt8}{t:Ad}(h:U8 (c::t))(f:c.toNat<128):U8 t:=by
 obtain⟨l,e,a⟩:=h;cases l with
 | nil=>cases a
 | cons n l=>
  rw[Cu] at a;have k:=(FD n).1 (e n (by simp));have b:n<128:=by
   by_cases d:n<128
   .exact d
   .exfalso;have:∃x r,192<=x/\x<256/\CY n=UInt8.ofNat x::r:=by
     unfold CY Lv;rw[Amt d]
     repeat' split
     all_goals exact⟨_,_,by omega,by omega,rfl⟩
    obtain⟨x,r,o,j,i⟩:=this;rw[i,AsT] at a;obtain⟨rfl,_⟩:=List.cons.inj a;rw[AzH] at f;omega
  rw[MI b,AsT,Aub] at a;exact⟨l,λm g=>e m (by simp[g]),(List.cons.inj a).2⟩
theorem o4{c:UInt8}(t:Ad)(a:c.toNat<128):hdB (c::t)=true:=by simp only[hdB,WG,AuH,Ayq];omega
theorem U8.tlA{a t:Ad}(h:U8 (a++t))(d:∀c∈a,c.toNat<128):U8 t:=by
 induction a with
 | nil=>exact h
 | cons x a e=>exact e (U8.tl h (d x (by simp))) λc b=>d c (by simp[b])
theorem U8.mid{a m b:Ad}(h:U8 (a++(m++b)))(d:∀c∈m,c.toNat<128)(e:m≠[]):U8 a/\U8 b:=by
 cases m with
 | nil=>exact absurd rfl e
 | cons x m=>obtain⟨f,g⟩:=U8.split h (o4 _ (d x (by simp)));exact⟨f,U8.tlA g d⟩
def EW(c:Int):Bool:=!(Hf c||c==8297)
def Em(s:Ad):Ad:=Dq ((EQ s).filter EW)
def EJ(n:Nat):Bool:=EW (n:Int)
theorem Ff(l:List Nat)(h:∀n∈l,NP n=true):Em (C3 l)=C3 (l.filter EJ):=by have a:=RZ l h [];rw[AmY] at a;have b:EQ []=[]:=rfl;unfold Em;rw[a,b,AmY,<-jK (l.filter EJ) λn c=>h n (Ayk.1 c).1];congr 1;unfold HH;rw[List.filter_map];rfl
theorem Ou{a b:Ad}(e:U8 a)(f:U8 b):Em (a++b)=Em a++Em b:=by obtain⟨l,c,rfl⟩:=e;obtain⟨m,d,rfl⟩:=f;rw[<-Ge,Ff _ λn h=>(Am5.1 h).elim (c n) (d n),Ff l c,Ff m d,Aze,Ge]
theorem cL{n:Nat}(h:Hf (n:Int)=true):EJ n=false:=by unfold EJ EW;rw[h];rfl
theorem Aau(l:List Nat)(h:∀n∈l,NP n=true):∀a k out,∃m:List Nat,(∀n∈m,NP n=true)/\(C7 (HH l) a k out).1=out++C3 m/\m.filter EJ=l.filter EJ:=by
 induction l with
 | nil=>intro a k out;exact⟨[],λn d=>(by cases d),by simp[HH,C7,C3],rfl⟩
 | cons n l q=>
  have b:=q λm p=>h m (by simp[p]);have d:=h n (by simp);have o:HH (n::l)=(n:Int)::HH l:=rfl;have add:∀a k out,∃m:List Nat,(∀x∈m,NP x=true)/\(C7 (HH l) a k (out++Dq [(n:Int)])).1=out++C3 m/\m.filter EJ=(n::l).filter EJ:=λa k out=>by
   obtain⟨m,e,f,g⟩:=b a k (out++Dq [(n:Int)]);refine⟨n::m,λx i=>?_,by rw[f,HN n d,Cu,Awz],by rw[AyW,AyW,g]⟩;rcases Auy.1 i with rfl|i
   .exact d
   .exact e x i
  have skip:EJ n=false->∀a k out,∃m:List Nat,(∀x∈m,NP x=true)/\(C7 (HH l) a k out).1=out++C3 m/\m.filter EJ=(n::l).filter EJ:=λc a k out=>by obtain⟨m,e,f,g⟩:=b a k out;exact⟨m,e,f,by rw[g,AyW,c];rfl⟩
  intro a k out;rw[o,C7];cases hI:Hf (n:Int) with
  | true=>
   simp only[Agp];split
   .exact add _ _ _
   .exact skip (cL hI) _ _ _
  | false=>
   simp only[AfT,Agw];split
   .rename_i j;have c:EJ n=false:=by unfold EJ EW;rw[hI,j];rfl
    split
    .exact skip c _ _ _
    .exact add _ _ _
    .exact skip c _ _ _
   .exact add _ _ _
theorem HW:NP 8296=true/\NP 8297=true:=by decide
theorem YI(k:Nat):FJ k=C3 (List.replicate k 8297):=by
 induction k with
 | zero=>rfl
 | succ k a=>rw[FJ,a,List.replicate_succ,Cu,<-HN 8297 HW.2];rfl
theorem Aca{s:Ad}(h:U8 s):U8 (Hh s)/\Em (Hh s)=Em s:=by
 obtain⟨l,b,rfl⟩:=h;have c:=RZ l b [];have j:EQ []=[]:=rfl;rw[AmY,j,AmY] at c;obtain⟨m,p,k,o⟩:=Aau l b [] 0 [];have d:Hh (C3 l)=C3 ([8296]++(m++List.replicate (C7 (HH l) [] 0 []).2.toNat 8297)++[8297]):=by
  unfold Hh RL;rw[c,k,YI,Aub,Ge,Ge,Ge];have e:=HN 8296 HW.1;have f:=HN 8297 HW.2;have g:C3 [8296]=CY 8296:=by simp[C3]
  have i:C3 [8297]=CY 8297:=by simp[C3]
  rw[g,i,<-e,<-f];rfl
 have hp:∀n∈[8296]++(m++List.replicate (C7 (HH l) [] 0 []).2.toNat 8297)++[8297],NP n=true:=by
  intro n a;simp only[Am5,Auy,AxH,or_false,A0O] at a;rcases a with(rfl|a|⟨_,rfl⟩)|rfl
  .exact HW.1
  .exact p n a
  .exact HW.2
  .exact HW.2
 refine⟨⟨_,hp,d⟩,?_⟩;rw[d,Ff _ hp,Ff l b];congr 1;have k1:EJ 8296=false:=by decide
 have k2:EJ 8297=false:=by decide
 rw[Aze,Aze,Aze,o];have k3:(List.replicate (C7 (HH l) [] 0 []).2.toNat 8297).filter EJ=[]:=by rw[A0z];intro n a;rw[A0O] at a;rw[a.2,k2];simp
 rw[k3];simp[AyW,k1,k2]
def Da(s:Ad):Prop:=∀c∈s,c.toNat<128
theorem Da.u8{s:Ad}(h:Da s):U8 s:=U8.asc h
theorem Da.nil:Da []:=λc h=>by cases h
theorem Da.app{a b:Ad}(d:Da a)(e:Da b):Da (a++b):=λc h=>(Am5.1 h).elim (d c) (e c)
theorem Da.cons{c:UInt8}{s:Ad}(a:c.toNat<128)(b:Da s):Da (c::s):=λd h=>by
 rcases Auy.1 h with rfl|h
 .exact a
 .exact b d h
theorem Da.sub{a b:Ad}(h:Da b)(e:∀c∈a,c∈b):Da a:=λc d=>h c (e c d)
theorem Da.take{s:Ad}(h:Da s)(n:Nat):Da (s.take n):=h.sub λc a=>AxL a
theorem Da.drop{s:Ad}(h:Da s)(n:Nat):Da (s.drop n):=h.sub λc a=>AzA a
theorem Tu{s:Ad}(h:B4 s=true):∀c∈s,c.toNat<=57:=λc d=>by unfold B4 at h;have:=As7.1 h c d;simp only[AuH,AyC,Ayh] at this;have a:=this.2;have b:c<=57:=UInt8.not_lt.1 a;exact UInt8.le_iff_toNat_le.1 b
theorem En{s:Ad}(h:B4 s=true):Da s:=λc a=>by have:=Tu h c a;omega
theorem IS{n:Ad}(h:DA n=true):B4 (AI n)=true/\B4 (Ba n)=true:=by unfold DA at h;cases a:B4 (AI n)<;>cases b:B4 (Ba n)<;>simp[a,b] at h⊢
theorem OA(s:Ad):∀c∈AI s,c∈s:=λc b=>by
 have a:c∈Fi s:=by rw[Gh];exact AxM _ b
 unfold Fi at a;split at a
 .exact A0H a
 .exact a
theorem RS(s:Ad):∀c∈Ba s,c∈s:=λc b=>by
 have a:c∈Fi s:=by rw[Gh];exact Az8 _ (A0H b)
 unfold Fi at a;split at a
 .exact A0H a
 .exact a
structure Ly (L:Ce):Prop where
 dec:U8 L.dec
 grp:U8 L.grp
 minus:U8 L.minus
 perc:U8 L.perc
 lists:∀x∈L.lists,U8 x.two/\U8 x.start/\U8 x.mid/\U8 x.fin
 units:∀x∈L.units,U8 x.pat
 dates:∀x∈L.dates,U8 x.pat
 months:∀x∈L.months,U8 x
 days:∀x∈L.days,U8 x
theorem Ach{xs:List Ad}{sep:Ad}(h:∀x∈xs,U8 x)(c:U8 sep):U8 (Lib.join xs sep):=by
 cases xs with
 | nil=>exact U8.nil
 | cons x r=>
  rw[Lib.join_cons];refine U8.app (h x (by simp)) ?_;have a:∀y∈r,U8 y:=λy d=>h y (by simp[d]);clear h
  induction r with
  | nil=>exact U8.nil
  | cons y r b=>unfold Lib.joinTail at b⊢;rw[Am1,List.flatten_cons];exact U8.app (U8.app c (a y (by simp))) (b λz e=>a z (by simp[e]))
theorem TU(d:Nat):∀(n:Nat) (r:Ad),Da r->∀x∈Bf d n r,Da x:=by
 intro n
 induction n with
 | zero=>intro r _ x a;cases a
 | succ n c=>
  intro r b x a;rw[Bf] at a;split at a
  .cases a
  .rcases Auy.1 a with rfl|a
   .exact b.drop _
   .exact c _ (b.take _) x a
theorem kD{p s:Int}{g d:Ad}(c:U8 g)(b:Da d):U8 (EO p s g d):=by
 unfold EO;split
 .exact b.u8
 .refine Ach (λx a=>?_) c;rw[A0j,Auy] at a;rcases a with rfl|a
  .exact(b.drop _).u8
  .exact(TU _ _ _ (b.take _) x a).u8
theorem KQ{L:Ce}(hL:Ly L){n:Ad}(c:Da (AI n))(d:Da (Ba n)):U8 (Ek L n):=by
 have b:U8 (EO L.prim L.sec L.grp (AI n)):=kD hL.grp c;have a:U8 (if(NW n).isEmpty then EO L.prim L.sec L.grp (AI n) else EO L.prim L.sec L.grp (AI n)++(L.dec++Ba n)):=by
  split
  .exact b
  .exact U8.app b (U8.app hL.dec d.u8)
 unfold Ek;simp only;split
 .exact U8.app hL.minus a
 .exact a
theorem Nk{c:Bool}{w f:Ad}(b:Da w)(d:Da f):Da (E0 c w f).1:=by
 unfold E0;split
 .exact Da.nil
 .have a:Da (if f==[] then w else w++46::f):=by
   split
   .exact b
   .exact b.app (Da.cons (by decide) d)
  show Da (F6 c w f);unfold F6;split
  .exact Da.cons (by decide) a
  .exact a
theorem Abf{s:Ad}(h:∀c∈s,c.toNat<=57):Da (Hj s):=by
 have f:∀r:List UInt8,(∀c∈r,c.toNat<=57)->Da (Ja r):=by
  intro r
  induction r with
  | nil=>intro _;rw[Ja];exact Da.cons (by decide) Da.nil
  | cons c r g=>
   intro e;rw[Ja];split
   .exact Da.cons (by decide) (g λd a=>e d (by simp[a]))
   .have b:=e c (by simp);refine Da.cons ?_ λd a=>by have:=e d (by simp[a]);omega
    rw[UInt8.toNat_add];have:(1:UInt8).toNat=1:=rfl;omega
 unfold Hj;intro c b;rw[A0j] at b;exact f s.reverse (λd a=>h d (A0j.1 a)) c b
theorem R0{w:Ad}(h:Da w):Da (Ds w):=by
 unfold Ds;split
 .exact Da.cons (by decide) Da.nil
 .refine h.sub λc a=>?_;unfold Lib.trimLeftS at a;exact(List.dropWhile_suffix _).subset a
theorem OC(n:Ad):Da (CU n).1:=by
 unfold CU;split
 .rename_i h;obtain⟨a,b⟩:=IS h;refine Nk ?_ Da.nil
  repeat' split
  .exact En a
  .exact Abf (Tu a)
  .exact En a
 .exact Da.nil
theorem OU(n:Ad):Da (CZ n).1:=by
 unfold CZ;split
 .rename_i h;obtain⟨b,a⟩:=IS h;refine Nk (R0 ((En b).app (Da.take ((En a).app (Da.cons (by decide) (Da.cons (by decide) Da.nil))) _))) ((En a).drop _)
 .exact Da.nil
theorem KO{L:Ce}(hL:Ly L)(n st:Ad):U8 (Cw L n st).1:=by
 unfold Cw;split
 .exact U8.nil
 .rename_i a;have d:DA n=true:=by
   cases h:DA n with
   | true=>rfl
   | false=>exact absurd (by rw[h];rfl) a
  obtain⟨b,c⟩:=IS d
  repeat' split
  .exact U8.nil
  .exact KQ hL ((OC n).sub (OA _)) ((OC n).sub (RS _))
  .exact U8.nil
  .exact U8.app (KQ hL ((OU n).sub (OA _)) ((OU n).sub (RS _))) hL.perc
  .exact U8.nil
  .exact KQ hL (En b) (En c)
theorem Aez{s a:Ad}(h:U8 s)(f:Da a)(d:a≠[])(g:0<=Lib.index s a):U8 (s.take (Lib.index s a).toNat)/\U8 (s.drop ((Lib.index s a).toNat+a.length)):=by
 rcases Lib.index_spec s a with⟨h1,_⟩|⟨i,h1,h2,h3,_⟩
 .omega
 .rw[h1];have hp:a <+: s.drop i:=List.isPrefixOf_iff_prefix.1 h3;obtain⟨t,c⟩:=hp;have e:s=s.take i++(a++t):=by rw[c,Az6]
  have b:t=s.drop (i+a.length):=by rw[<-AzC,<-c,AzP]
  rw[show((i:Int)).toNat=i from rfl,<-b];rw[e] at h;exact U8.mid h f d
theorem SQ{a new:Ad}(j:Da a)(d:a≠[])(g:U8 new):∀(k:Nat) (s:Ad),U8 s->U8 (Lib.replaceK a new k s):=by
 intro k
 induction k with
 | zero=>intro s h;exact h
 | succ k l=>
  intro s h;rw[Lib.replaceK];split
  .exact h
  .rename_i c;have f:0<=Lib.index s a:=by
    rcases Lib.index_spec s a with⟨b,_⟩|⟨i,b,_⟩
    .rw[b] at c;exact absurd rfl c
    .omega
   obtain⟨b,e⟩:=Aez h j d f;exact U8.app (U8.app b g) (l _ e)
theorem Vs{s a new:Ad}{n:Int}(h:U8 s)(d:Da a)(b:a≠[])(c:U8 new):U8 (Lib.replace s a new n):=by
 unfold Lib.replace;split
 .exact h
 .exact SQ d b c _ _ h
theorem Ue{s a:Ad}(h:U8 s)(d:Da a)(b:a≠[]):U8 (Lib.cut s a).1/\U8 (Lib.cut s a).2.1:=by
 unfold Lib.cut;split
 .rename_i c;exact Aez h d b c
 .exact⟨h,U8.nil⟩
theorem aD:Da (AN 0)/\Da (AN 1)/\AN 0≠[]/\AN 1≠[]:=by
 have e0:AN 0=[123,48,125]:=by unfold AN;rw[Lib.decDigits_one (by omega)];rfl
 have b:AN 1=[123,49,125]:=by unfold AN;rw[Lib.decDigits_one (by omega)];rfl
 rw[e0,b];refine⟨?_,?_,by simp,by simp⟩<;>intro c a<;>simp at a<;>rcases a with rfl|rfl|rfl<;>decide
theorem Pf{p a b:Ad}(hp:U8 p)(f:U8 a)(g:U8 b):U8 (Ea p a b):=by
 obtain⟨a0,c,n0,h⟩:=aD;obtain⟨d,e⟩:=Ue hp a0 n0;obtain⟨i,j⟩:=Ue d c h;obtain⟨k,l⟩:=Ue e c h;unfold Ea;split
 .exact(((i.app g).app j).app f).app e
 .exact(((d.app f).app k).app g).app l
theorem xO{p:Cp}(d:U8 p.start)(e:U8 p.mid):∀(l:List Ad) (a:Ad),(∀s∈l,U8 s)->U8 a->U8 (joinR p l a):=by
 intro l
 induction l with
 | nil=>intro a _ h;exact h
 | cons s r g=>
  intro a b c;rw[joinR];split
  .exact c
  .refine g _ (λx f=>b x (by simp[f])) (Pf ?_ (b s (by simp)) c);split
   .exact d
   .exact e
theorem L0{l:List Ad}(h:∀s∈l,U8 s)(i:Nat):U8 (l.getD i []):=by
 rw[AyO];cases a:l[i]? with
 | none=>exact U8.nil
 | some s=>exact h s (Au8 a)
theorem lN{p:Cp}(b:U8 p.two)(c:U8 p.start)(d:U8 p.mid)(e:U8 p.fin)(l:List Ad)(a:∀s∈l,U8 s):U8 (Lu p l):=by
 unfold Lu;split
 .exact U8.nil
 .exact a _ (by simp)
 .exact Pf b (a _ (by simp)) (a _ (by simp))
 .exact xO c d _ _ (λs f=>a s (AxL (A0j.1 f))) (Pf e (L0 a _) (L0 a _))
theorem N3{s:Ad}:∀{l:List Cp} {p:Cp},Gr s l=some p->p∈l
 | [],p,h=>by cases h
 | x::l,p,h=>by
  rw[Gr] at h;split at h
  .cases h;simp
  .exact Ae0 _ (N3 h)
theorem TG{L:Ce}(hL:Ly L)(st:Ad)(l:List Ad)(e:∀s∈l,U8 s):U8 (E3 L st l).1:=by
 unfold E3;split
 .exact U8.nil
 .rename_i p hp;obtain⟨a,b,c,d⟩:=hL.lists p (N3 hp)
  repeat' split
  all_goals first|exact U8.nil|exact lN a b c d l e
theorem IU{u c:Ad}:∀{l:List De} {p:Ad},I0 u c l=some p->∃x∈l,x.pat=p
 | [],p,h=>by cases h
 | x::l,p,h=>by
  rw[I0] at h;split at h
  .cases h;exact⟨x,by simp,rfl⟩
  .obtain⟨y,b,a⟩:=IU h;exact⟨y,Ae0 _ b,a⟩
theorem vE{L:Ce}(hL:Ly L){u c p:Ad}(h:HL L u c=some p):U8 p:=by
 have a:∃x∈L.units,x.pat=p:=by
  unfold HL at h;split at h
  .rename_i q b;cases h;exact IU b
  .exact IU h
 obtain⟨x,d,rfl⟩:=a;exact hL.units x d
theorem TA{L:Ce}(hL:Ly L)(u n:Ad):U8 (E4 L u n).1:=by
 unfold E4;split
 .split
  .exact U8.nil
  .rename_i p hp
   repeat' split
   .exact Vs (vE hL hp) (by intro c a;simp at a;rcases a with rfl|rfl|rfl<;>decide) (by simp) (KO hL n [])
   .exact U8.nil
   .exact U8.nil
 .exact U8.nil
theorem LB(u:Nat):Da (Lib.decDigits u):=by
 induction u using Nat.strongRecOn with
 | _ u b=>
  rw[Lib.decDigits];have a:∀k,k<10->(UInt8.ofNat (48+k)).toNat<128:=λk c=>by rw[AzH];omega
  split
  .rename_i h;exact Da.cons (a _ h) Da.nil
  .exact(b _ (by omega)).app (Da.cons (a _ (Az5 _ (by omega))) Da.nil)
theorem Qh(n:Nat):Da (HF n):=by
 unfold HF;split
 .exact Da.cons (by decide) (LB n)
 .exact LB n
theorem RB(d:Int):U8 (CR d):=by
 unfold CR;split
 .exact(((((LB _).app (Da.cons (by decide) Da.nil)).app (Qh _)).app (Da.cons (by decide) Da.nil)).app (Qh _)).u8
 .exact U8.nil
theorem aT{x:QH}(hL:Ly x.L)(f:Ad):U8 (ES x f).1:=by
 unfold ES
 repeat' split
 all_goals first|exact U8.nil|exact(LB _).u8|exact(Qh _).u8|exact L0 hL.months _|exact L0 hL.days _
theorem Adq{c:UInt8}(h:Dj c=true):c.toNat<128:=by unfold Dj at h;simp only[AyS,AcR,Avx] at h;omega
theorem AiG{p:UInt8->Bool}{l:Ad}{c:UInt8}(h:c∈l.takeWhile p):p c=true:=by
 induction l with
 | nil=>cases h
 | cons a l d=>
  rw[List.takeWhile_cons] at h;split at h
  .rename_i b;rcases Auy.1 h with rfl|h
   .exact b
   .exact d h
  .cases h
theorem dX{x:QH}(hL:Ly x.L):∀(n:Nat) (p out:Ad),p.length<=n->U8 (out++p)->U8 (BK x n p out).1:=by
 intro n
 induction n with
 | zero=>intro p out u h;have:p=[]:=List.length_eq_zero_iff.1 (by omega);subst this;rw[AmY] at h;exact h
 | succ n j=>
  intro p out u h;rw[BK];split
  .rename_i hp;have:p=[]:=by simpa using hp
   subst this;rw[AmY] at h;exact h
  .split
   .refine j _ _ (by simp;omega) ?_;rw[Awz,Az6];exact h
   .rename_i m d;generalize g:(p.takeWhile Dj).length=k at *;have i:p.take k=p.takeWhile Dj:=by
     have:=AzW (p:=Dj) (l:=p)
     conv=>lhs;rw[<-this]
     rw[<-g,List.take_left]
    have e:=h;rw[<-Az6 k p] at e;obtain⟨o,q⟩:=U8.mid e (λc f=>Adq (by rw[i] at f;exact AiG f)) (by intro a;apply d;rw[i] at a;rw[<-g,a];rfl);split
    .have r:k≠0:=λa=>d (by rw[a];rfl);have b:p≠[]:=λa=>m (by rw[a];rfl);have t:1<=p.length:=by cases p;exact absurd rfl b;simp
     exact j _ _ (by rw[AyA];omega) (U8.app (U8.app o (aT hL _)) q)
    .exact U8.nil
theorem Vh{L:Ce}(hL:Ly L)(a:Ad)(d:Int):U8 (DP L a d).1:=by
 unfold DP
 repeat' split
 all_goals first|exact U8.nil|skip
 rename_i p hp _;unfold H8;refine dX (x:=Je L d) hL _ _ _ (by omega) ?_;rw[Aub];exact hL.dates p (Au8 hp)
theorem AaZ{L:Ce}(hL:Ly L)(k:Int)(st:Ad)(v:Cg)(b:U8 v.text)(a:∀s∈v.list,U8 s):U8 (Lw L k st v).1:=by
 unfold Lw
 repeat' split
 all_goals first|exact U8.nil|exact KO hL _ _|exact TA hL _ _|exact Vh hL _ _|exact TG hL _ _ a|exact b|exact RB _
end Go.Ir
section
namespace Go.Ir
theorem pF{c:UInt8}(h:H7 c.toNat=true):c.toNat<128:=by unfold H7 at h;simp at h;omega
theorem TC:∀(s a:Ad),U8 (a++EB s)->U8 (a++s)
 | [],a,h=>h
 | c::s,a,h=>by
  rw[EB] at h;split at h
  .rename_i j;have b:=pF j;obtain⟨g,i⟩:=U8.mid (m:=[92,c]) h (by intro d e;simp at e;rcases e with rfl|rfl;decide;exact b) (by simp);have f:=TC s [] i;exact U8.app g (U8.app (a:=[c]) (U8.asc (by intro d e;simp at e;subst e;exact b)) f)
  .have f:=TC s (a++[c]) (by rw[Awz];exact h);rw[Awz] at f;exact f
def Iw(p:Al):Prop:=(p.kind=1->U8 p.text)/\(p.kind=11->U8 p.name)
def kd(p:Al):Prop:=1<=p.kind/\p.kind<=11
theorem OT{p:Al}(h:MF p)(g:p.kind≠1):(∃c t,p.textB=c::t/\c.toNat<128)/\∃c t,p.textB=t++[c]/\c.toNat<128:=by
 obtain⟨i,j⟩:=h;rw[p.textB_eq];have d:(p.kind==1)=false:=by simpa using g
 rw[d,Amt (by simp)];cases a:p.kind==10 with
 | true=>exact⟨⟨35,[],rfl,by decide⟩,35,[],rfl,by decide⟩
 | false=>
  rw[Amt (by simp)];cases b:p.kind==11 with
  | true=>
   rw[Aiv rfl];split
   .exact⟨⟨60,p.name++[47,62],by simp,by decide⟩,62,[60]++p.name++[47],by simp,by decide⟩
   .exact⟨⟨60,_,by simp;rfl,by decide⟩,62,[60]++p.name++[62]++BD p.parts++[60,47]++p.name,by simp,by decide⟩
  | false=>
   rw[Amt (by simp)];cases e:p.kind==2 with
   | true=>exact⟨⟨123,p.name++[125],by simp,by decide⟩,125,[123]++p.name,by simp,by decide⟩
   | false=>
    simp only[Ayq,ne_eq] at a b e;have f:(decide (p.kind>=3)&&decide (p.kind<=9))=true:=by simp;omega
    rw[Amt (by simp),f,Aiv rfl];unfold YL;exact⟨⟨123,_,by simp;rfl,by decide⟩,125,_,rfl,by decide⟩
theorem EL{c:UInt8}(b:c.toNat<128):∀d∈[c],d.toNat<128:=by intro d a;simp at a;subst a;exact b
theorem AkT(ps:List Al):∀d c b,B3 ps d c b=true->U8 (BD ps)->Cs Iw ps:=by
 refine Nn (P:=λp=>∀d c,p.formedB d c=true->U8 p.textB->p.all Iw)
  (Q:=λps=>∀d c b,B3 ps d c b=true->U8 (BD ps)->Cs Iw ps)
  (R:=λcs=>∀k d c g,BX cs k d c g=true->U8 (Dl cs)->DH Iw cs) ?_ ?_ ?_ ?_ ?_ ps
 .intro p M C d c h a;have E:=O1 [p] d c false (by rw[BO,h];simp[B3]);have f:=La [p] d c false (by rw[BO,h];simp[B3]);rw[CV,p.all_eq] at E f;obtain⟨⟨w,_,_⟩,_⟩:=E;obtain⟨⟨kd,_,_⟩,_⟩:=f;rw[p.formedB_eq] at h;rw[p.all_eq];rw[p.textB_eq] at a;cases e:p.kind==11 with
  | true=>
   have G:p.kind=11:=by simpa using e
   have o:Bk p.kind=false:=by rw[G];rfl
   rw[e,Aiv rfl,AcR] at h;have r:(p.kind==1)=false:=by rw[G];rfl
   have m:(p.kind==10)=false:=by rw[G];rfl
   rw[r,m,e] at a;simp only[Agp,AfT,Agw] at a;have z:DH Iw p.cases:=by rw[w.cases0 o];simp only[DH]
   cases hp:p.parts with
   | nil=>rw[hp] at a;simp only[List.isEmpty_nil,Agp] at a;obtain⟨j,_⟩:=U8.split a (by decide);exact⟨⟨λh=>by omega,λ_=>U8.tl j (by decide)⟩,z,by simp only[Cs]⟩
   | cons q Y=>
    rw[<-hp];have J:p.parts.isEmpty=false:=by rw[hp];rfl
    rw[J] at a;simp only[AfT,Agw] at a;have u:U8 (([60]++p.name)++([62]++(BD p.parts++([60,47]++p.name++[62])))):=by simpa using a
    obtain⟨j,y⟩:=U8.mid u (EL (by decide)) (by simp);obtain⟨l,_⟩:=U8.split y (by rfl);exact⟨⟨λh=>by omega,λ_=>U8.tl j (by decide)⟩,z,C _ _ _ h.2 l⟩
  | false=>
   rw[e,Amt (by simp)] at h;have B:Cs Iw p.parts:=by rw[w.parts0 e];simp only[Cs]
   have A:p.kind≠11:=by simpa using e
   cases o:Bk p.kind with
   | true=>
    rw[o,Aiv rfl,AcR] at h;have G:=Tb o;have r:(p.kind==1)=false:=by simp;omega
    have m:(p.kind==10)=false:=by simp;omega
    have S:(p.kind==2)=false:=by simp;omega
    have T:(decide (p.kind>=3)&&decide (p.kind<=9))=true:=by simp;omega
    rw[r,m,e,S,T] at a;simp only[Agp,AfT,Agw] at a;have U:UT p=[44]:=by unfold UT;rw[o];rfl
    rw[U] at a;have u:U8 ((YL p++YV p)++([44]++(Dl p.cases++[125]))):=by simpa using a
    obtain⟨_,y⟩:=U8.mid u (EL (by decide)) (by simp);obtain⟨l,_⟩:=U8.split y (by rfl);exact⟨⟨λh=>by omega,λh=>absurd h A⟩,M _ _ _ _ h.2 l,B⟩
   | false=>
    refine⟨⟨λj=>?_,λh=>absurd h A⟩,?_,B⟩
    .have r:(p.kind==1)=true:=by rw[j];rfl
     rw[r,Aiv rfl] at a;exact TC p.text [] a
    .rw[w.cases0 o];simp only[DH]
 .intro d c b _ _;simp only[Cs]
 .intro p ps hp C d c b h a;have f:=La (p::ps) d c b h;rw[CV,p.all_eq] at f;rw[BO,AcR,AcR] at h;rw[FC] at a;rw[CV];have D:U8 p.textB/\U8 (BD ps):=by
   by_cases j:p.kind=1
   .refine U8.split a ?_;cases ps with
    | nil=>rfl
    | cons q Y=>
     have l:=h.2.2;rw[BO,AcR] at l;have K:q.kind≠1:=λJ=>by have F:=l.1;rw[j,J] at F;cases F
     rw[CV,q.all_eq] at f;obtain⟨⟨x,t,I,i⟩,_⟩:=OT f.2.1.1 K;rw[FC,I];exact o4 _ i
   .obtain⟨_,x,t,I,i⟩:=OT f.1.1 j;rw[I,Awz] at a;obtain⟨V,X⟩:=U8.mid a (EL i) (by simp);exact⟨by rw[I];exact U8.app V (U8.asc (EL i)),X⟩
  exact⟨hp _ _ h.2.1 D.1,C _ _ _ h.2.2 D.2⟩
 .intro k d c g _ _;simp only[DH]
 .intro x cs C M k d c g h a;rw[E5,AcR,AcR] at h;rw[F9] at a;rw[GI];have u:U8 (([32]++x.1)++([32,123]++(BD x.2++([125]++Dl cs)))):=by simpa using a
  obtain⟨_,y⟩:=U8.mid u (by intro d N;simp at N;rcases N with rfl|rfl<;>decide) (by simp);obtain⟨l,F⟩:=U8.mid y (EL (by decide)) (by simp);exact⟨C _ _ _ h.2.1 l,M _ _ _ _ h.2.2 F⟩
inductive EvR:Ev->Ev->Prop
 | pc (t:Ad):U8 t->EvR (.pc t) (.pc t)
 | wr (t:Ad):U8 t->EvR (.pc t) (.pc (Hh t))
 | er (e:Int):EvR (.er e) (.er e)
inductive HO:List Ev->List Ev->Prop
 | nil:HO [] []
 | cons {x y:Ev} {a b:List Ev}:EvR x y->HO a b->HO (x::a) (y::b)
theorem HO.app{a b c d:List Ev}(h:HO a b)(k:HO c d):HO (a++c) (b++d):=by
 induction h with
 | nil=>exact k
 | cons e _ f=>exact .cons e f
theorem HO.one{x y:Ev}(h:EvR x y):HO [x] [y]:=.cons h .nil
theorem Od{r:Ad×Int}(h:U8 r.1):EvR (Iy false r) (Iy true r):=by
 unfold Iy;split
 .exact .wr _ h
 .exact .er _
section
variable{L:Ce}{vs:List Cg}(hL:Ly L)(hv:∀ v∈vs, U8 v.text ∧ ∀ s∈v.list, U8 s)
include hL hv
theorem AiO(ps:List Al):Cs Iw ps->∀cnt,HO (Dt ⟨L,vs,false⟩ ps cnt) (Dt ⟨L,vs,true⟩ ps cnt):=by
 refine Nn (P:=λp=>p.all Iw->∀cnt,HO (xJ ⟨L,vs,false⟩ p cnt) (xJ ⟨L,vs,true⟩ p cnt))
  (Q:=λps=>Cs Iw ps->∀cnt,HO (Dt ⟨L,vs,false⟩ ps cnt) (Dt ⟨L,vs,true⟩ ps cnt))
  (R:=λcs=>DH Iw cs->∀(cnt:Ad) (i:Nat),HO ((NM ⟨L,vs,false⟩ cs cnt)[i]?.getD []) ((NM ⟨L,vs,true⟩ cs cnt)[i]?.getD [])) ?_ ?_ ?_ ?_ ?_ ps
 .intro p e b h cnt;rw[p.all_eq] at h;obtain⟨⟨r,t2⟩,l,m⟩:=h;obtain⟨k,t,g,st,cs,j⟩:=p;simp only at r t2 l m e b;simp only[xJ];cases u:k==1 with
  | true=>exact .one (.pc _ (r (by simpa using u)))
  | false=>
  cases w:k==10 with
  | true=>exact .one (Od (KO hL _ _))
  | false=>
  cases f:k==11 with
  | true=>have q:=t2 (by simpa using f);refine .cons (.pc _ (U8.app (a:=[60]) (U8.asc (EL (by decide))) (U8.app q (U8.asc (EL (by decide)))))) (HO.app (b m cnt) (.one (.pc _ ?_)));exact U8.app (a:=[60,47]) (U8.asc (by intro d o;simp at o;rcases o with rfl|rfl<;>decide)) (U8.app q (U8.asc (EL (by decide))))
  | false=>
  simp only[AfT,Agw];split
  .show HO (if(HI L ⟨k,t,g,st,cs,j⟩ vs).2==0 then _ else _) (if(HI L ⟨k,t,g,st,cs,j⟩ vs).2==0 then _ else _);split
   .exact e l _ _
   .exact .one (.er _)
  .cases x:Hk vs g with
   | none=>exact .one (.er _)
   | some v=>obtain⟨y,v2⟩:=hv v (Gx x);exact .one (Od (AaZ hL k st v y v2))
 .intro _ cnt;rw[Ml,Ml];exact .nil
 .intro p ps hp b h cnt;rw[CV] at h;rw[K3,K3];exact HO.app (hp h.1 cnt) (b h.2 cnt)
 .intro _ cnt i;simp only[NM];exact .nil
 .intro c cs b e h cnt i;obtain⟨key,j⟩:=c;rw[GI] at h;simp only[NM,evC];cases i with
  | zero=>exact b h.1 cnt
  | succ i=>exact e h.2 cnt i
end
def Ok(s t:Ad):Prop:=U8 s/\U8 t/\Em s=Em t
theorem Aby{a b:List Ev}(h:HO a b):∀(s t:Ad),Ok s t->
  ((BB (s,0) a).2=0/\(BB (t,0) b).2=0/\Ok (BB (s,0) a).1 (BB (t,0) b).1)\/(((BB (s,0) a).2≠0\/(BB (t,0) b).2≠0)/\((BB (s,0) a).2=(BB (t,0) b).2\/(BB (s,0) a).2=6\/(BB (t,0) b).2=6)):=by
 induction h with
 | nil=>intro s t h;exact .inl ⟨rfl,rfl,h⟩
 | @cons x y a b j A m=>
  intro s t d;have o:∀u:Ad,∀e:Ev,∀es,BB (u,0) (e::es)=BB (Cz (u,0) e) es:=λu e es=>by rw[BB];rfl
  rw[o,o];have c:∀u w:Ad,Ok u w->(((BB (Cz (s,0) (.pc u)) a).2=0/\(BB (Cz (t,0) (.pc w)) b).2=0/\Ok (BB (Cz (s,0) (.pc u)) a).1 (BB (Cz (t,0) (.pc w)) b).1)\/(((BB (Cz (s,0) (.pc u)) a).2≠0\/(BB (Cz (t,0) (.pc w)) b).2≠0)/\((BB (Cz (s,0) (.pc u)) a).2=(BB (Cz (t,0) (.pc w)) b).2\/(BB (Cz (s,0) (.pc u)) a).2=6\/(BB (Cz (t,0) (.pc w)) b).2=6))):=λu w i=>by
   obtain⟨p,q,B⟩:=d;obtain⟨r,z,C⟩:=i;unfold Cz;simp only;by_cases k:((s++u).length:Int)>20000
   .rw[Aiv k,DI (s++u,6) (by rfl)];exact .inr ⟨.inl (by simp),.inr (.inl rfl)⟩
   .rw[Amt k];by_cases l:((t++w).length:Int)>20000
    .rw[Aiv l,DI (t++w,6) (by rfl)];exact .inr ⟨.inr (by simp),.inr (.inr rfl)⟩
    .rw[Amt l];exact m _ _ ⟨U8.app p r,U8.app q z,by rw[Ou p r,Ou q z,B,C]⟩
  cases j with
  | pc u f=>exact c u u ⟨f,f,rfl⟩
  | wr u f=>obtain⟨D,E⟩:=Aca f;exact c u (Hh u) ⟨f,D,E.symm⟩
  | er e=>
   unfold Cz;simp only;cases g:e==0 with
   | true=>
    have:e=0:=by simpa using g
    subst this;exact m s t d
   | false=>rw[DI (s,e) (by simpa using g),DI (t,e) (by simpa using g)];exact .inr ⟨.inl (by simpa using g),.inl rfl⟩
theorem Abi{L:Ce}{vs:List Cg}{ps:List Al}(hL:Ly L)(hv:∀v∈vs,U8 v.text/\∀s∈v.list,U8 s)(d:U8 (BD ps)) :
  ((EM L ps vs false).2=0/\(EM L ps vs true).2=0/\Ok (EM L ps vs false).1 (EM L ps vs true).1)\/(((EM L ps vs false).2≠0\/(EM L ps vs true).2≠0)/\((EM L ps vs false).2=(EM L ps vs true).2\/(EM L ps vs false).2=6\/(EM L ps vs true).2=6)):=by
 unfold EM;cases a:Fs ps with
 | false=>exact .inr ⟨.inl (by simp),.inl rfl⟩
 | true=>
  simp only[Agp];have c:(Ch ps 0 false false []).1=true:=by unfold Fs at a;simp only[AcR] at a;exact a.1.1
  rw[RE] at c;have b:=Aby (AiO hL hv ps (AkT ps _ _ _ c d) []) [] [] ⟨U8.nil,U8.nil,rfl⟩
  generalize BB ([],0) (Dt ⟨L,vs,false⟩ ps [])=A at b⊢;generalize BB ([],0) (Dt ⟨L,vs,true⟩ ps [])=B at b⊢;obtain⟨s,e⟩:=A;obtain⟨t,f⟩:=B;simp only at b⊢;rcases b with⟨rfl,rfl,h⟩|h
  .exact .inl ⟨rfl,rfl,h⟩
  .right;cases g:e==0<;>cases i:f==0<;>simp only[Agp,AfT,Agw]<;>exact h
end Go.Ir
end
namespace Go.Ir
open Go.Proofs
variable{P:Program}{O:World}{nt n:Nat}{Q:Exit→St→Prop}{env:Bm}{σ:Au}
def Afm:IC:=oR [m1 3 0,bZ 4 .geq 3 0,m1 5 4,B0 6 5 0,Dn 7 5 .leq 6 1114111,pA 8 5 7,m1 9 8,B0 10 9 0,Dn 11 9 .lss 10 55296,B0 12 9 11,Bn 13 12 0,Dv 14 12 .gtr 13 57343,gT 15 9 (.pick (.t 12) (.c (.b true)) (.t 14)),pA 16 9 15,m1 2 16] [2]
def Adt:IC:=oS [mC 2 (.b false)] [0] Afm
def AtQ:List R:=[.t 2]
def Azs:=Ao Afm.eq_1<|AJ Adt.eq_1
theorem AmQ:Ar π 43 17 Adt AtQ=true:=by kernel_rfl
def vO:IC:=oR [m1 13 0,bZ 14 .quo 13 64,o1 15 (.bin .add (ci 192) (.t 14)),o1 16 (.cvi .u8 (.t 15)),m1 17 0,bZ 18 .rem 17 64,o1 19 (.bin .add (ci 128) (.t 18)),o1 20 (.cvi .u8 (.t 19)),o1 21 (.msl false 5 1 [.t 16,.t 20]),o1 22 (.pu .btos [.t 21]),m1 2 22] [2]
def mA:IC:=oR [m1 26 0,bZ 27 .quo 26 4096,o1 28 (.bin .add (ci 224) (.t 27)),o1 29 (.cvi .u8 (.t 28)),m1 30 0,bZ 31 .quo 30 64,bZ 32 .rem 31 64,o1 33 (.bin .add (ci 128) (.t 32)),o1 34 (.cvi .u8 (.t 33)),m1 35 0,bZ 36 .rem 35 64,o1 37 (.bin .add (ci 128) (.t 36)),o1 38 (.cvi .u8 (.t 37)),o1 39 (.msl false 5 1 [.t 29,.t 34,.t 38]),o1 40 (.pu .btos [.t 39]),m1 2 40] [2]
def tJ:IC:=oR [m1 41 0,bZ 42 .quo 41 262144,o1 43 (.bin .add (ci 240) (.t 42)),o1 44 (.cvi .u8 (.t 43)),m1 45 0,bZ 46 .quo 45 4096,bZ 47 .rem 46 64,o1 48 (.bin .add (ci 128) (.t 47)),o1 49 (.cvi .u8 (.t 48)),m1 50 0,bZ 51 .quo 50 64,bZ 52 .rem 51 64,o1 53 (.bin .add (ci 128) (.t 52)),o1 54 (.cvi .u8 (.t 53)),m1 55 0,bZ 56 .rem 55 64,o1 57 (.bin .add (ci 128) (.t 56)),o1 58 (.cvi .u8 (.t 57)),o1 59 (.msl false 5 1 [.t 44,.t 49,.t 54,.t 58]),o1 60 (.pu .btos [.t 59]),m1 2 60] [2]
def AgA:IC:=sQ (.block 0 (oS [m1 4 0,bZ 5 .lss 4 128,m1 3 5] [0,3] (cD 3 (oR [m1 6 0,o1 7 (.cvi .u8 (.t 6)),o1 8 (.msl false 5 1 [.t 7]),o1 9 (.pu .btos [.t 8]),m1 2 9] [2]) (oS [m1 11 0,bZ 12 .lss 11 2048,m1 10 12] [0,10] (cD 10 vO (oS [m1 24 0,bZ 25 .lss 24 65536,m1 23 25] [0,23] (cD 23 mA .skip))))))) tJ
def AgU:IC:=oS [mC 2 (.s [])] [0] AgA
def Atw:List R:=[.t 2]
def AxQ:=Ao vO.eq_1<|Ao mA.eq_1<|Ao tJ.eq_1<|Ao AgA.eq_1<|AJ AgU.eq_1
theorem Ya:Ar π 21 61 AgU Atw=true:=by kernel_rfl
def pC:IC:=oS [m1 33 4,bZ 34 .geq 33 240,m1 35 34,B0 36 35 4,Dn 37 35 .lss 36 248,pA 38 35 37,m1 32 38] [0,4,32] (cD 32 (oP [m1 39 4,bZ 40 .sub 39 240,m1 4 40,mZ 5 4] [0,4,5]) (oR [mZ 2 65533,mZ 3 1] [2,3]))
def rE:IC:=oS [m1 24 4,bZ 25 .geq 24 224,m1 26 25,B0 27 26 4,Dn 28 26 .lss 27 240,pA 29 26 28,m1 23 29] [0,4,23] (cD 23 (oP [m1 30 4,bZ 31 .sub 30 224,m1 4 31,mZ 5 3] [0,4,5]) pC)
def wX:IC:=oS [m1 15 4,bZ 16 .geq 15 192,m1 17 16,B0 18 17 4,Dn 19 17 .lss 18 224,pA 20 17 19,m1 14 20] [0,4,14] (cD 14 (oP [m1 21 4,bZ 22 .sub 21 192,m1 4 22,mZ 5 2] [0,4,5]) rE)
def pE:IC:=oP [m1 60 4,o1 61 (.bin .mul (ci 64) (.t 60)),m1 62 0,m1 63 6,o1 64 (.idx (.t 62) (.t 63)),o1 65 (.cvi .i64 (.t 64)),bT 66 .add 61 65,bZ 67 .sub 66 128,m1 4 67] [0,4,5,6]
def nV:IC:=sQ (.block 2 (sQ (oS [m1 50 0,m1 51 6,o1 52 (.idx (.t 50) (.t 51)),bC 53 .lss 52 (.i .u8 128),m1 54 53,Bn 55 54 0,Bn 56 54 6,gF 57 54 (.idx (.t 55) (.t 56)),gF 58 54 (.bin .gtr (.t 57) (.c (.i .u8 191))),pO 59 54 58] [0,4,5,6,59] (cD 59 (oR [mZ 2 65533,mZ 3 1] [2,3]) .skip)) pE)) (oP [m1 48 6,bZ 49 .add 48 1,m1 6 49] [0,4,5,6])
def QM:IC:=sQ (oS [m1 45 6,m1 46 5,bT 47 .lss 45 46] [0,4,5,6,47] (cD 47 .skip (.exit 1))) nV
def Ub:IC:=sQ (sQ (.ops [m1 68 4,q1 69 43 68,nT 70 69,m1 71 70,Bn 72 71 4,gF 73 71 (.call 21 [.t 72]),Bn 74 71 0,Bn 75 71 5,gF 76 71 (.slS (.t 74) none (some (.t 75))),gF 77 71 (.bin .neq (.t 73) (.t 76)),pO 78 71 77] [4,5,78] [[0,1],[1,2],[2,3],[3,4],[3,5],[4,5],[3,6],[3,7],[3,8],[6,8],[7,8],[3,9],[5,9],[8,9],[3,10],[9,10]]) (cD 78 (oR [mZ 2 65533,mZ 3 1] [2,3]) .skip)) (oR [m1 79 4,m1 80 5,m1 2 79,m1 3 80] [2,3])
def jU:IC:=sQ (oS [m1 41 5,m1 42 0,nS 43 42,bT 44 .gtr 41 43] [0,4,5,44] (cD 44 (oR [mZ 2 65533,mZ 3 1] [2,3]) .skip)) (sQ (oS [mZ 6 1] [0,4,5,6] (.block 1 (.loop QM))) Ub)
def AdV:IC:=oS [m1 7 0,o1 8 (.idx (.t 7) (ci 0)),o1 9 (.cvi .i64 (.t 8)),m1 4 9,mZ 5 1] [0,4] (sQ (.block 0 (oS [m1 11 4,bZ 12 .lss 11 128,m1 10 12] [0,4,10] (cD 10 (oR [m1 13 4,m1 2 13,mZ 3 1] [2,3]) wX))) jU)
def AgI:IC:=oS [mZ 2 0,mZ 3 0] [0] AdV
def AtS:List R:=[.t 2,.t 3]
def Azo:=Ao pC.eq_1<|Ao rE.eq_1<|Ao wX.eq_1<|Ao pE.eq_1<|Ao nV.eq_1<|Ao QM.eq_1<|Ao Ub.eq_1<|Ao jU.eq_1<|Ao AdV.eq_1<|AJ AgI.eq_1
theorem J8:Ar π 36 81 AgI AtS=true:=by kernel_rfl
def n9:IC:=oS [m1 14 3,m1 15 4,o1 16 (.msl false 3 1 [.t 15]),o1 17 (.app (.t 14) (.t 16) 3 1),m1 3 17] [0,3,5] (oP [m1 18 0,m1 19 5,o1 20 (.slS (.t 18) (some (.t 19)) none),m1 0 20] [0,3])
def AdJ:IC:=sQ (oS [m1 6 0,nS 7 6,bZ 8 .gtr 7 0] [0,3,8] (cD 8 .skip (.exit 0))) (.block 1 (oS [m1 10 0,q1 11 36 10,m1 9 11,xT 12 9 0,xT 13 9 1,m1 4 12,m1 5 13] [0,3,4,5] n9))
def AeB:IC:=oS [mC 2 .nil] [0] (oS [mC 3 .nil] [0,3] (sQ (.block 0 (.loop AdJ)) (sQ (.wk (oP [m1 21 3,m1 2 21] [2])) .ret)))
def AtJ:List R:=[.t 2]
def Azl:=Ao n9.eq_1<|Ao AdJ.eq_1<|AJ AeB.eq_1
theorem ArP:Ar π 19 22 AeB AtJ=true:=by kernel_rfl
def iB:IC:=sQ (.block 1 (oS [m1 11 0,m1 12 4,iA 13 11 12 3 1,l1 14 13,q1 15 43 14] [0,3,4,15] (cD 15 (oP [m1 16 3,m1 17 0,m1 18 4,iA 19 17 18 3 1,l1 20 19,q1 21 21 20,bT 22 .add 16 21,m1 3 22] [0,3,4]) (oP [m1 23 3,o1 24 (.call 21 [ci 65533]),bT 25 .add 23 24,m1 3 25] [0,3,4])))) (oP [m1 9 4,bZ 10 .add 9 1,m1 4 10] [0,3,4])
def Ad3:IC:=sQ (oS [mZ 4 0] [0,3,4] (.block 0 (.loop (sQ (oS [m1 5 4,m1 6 0,nL 7 6,bT 8 .lss 5 7] [0,3,4,8] (cD 8 .skip (.exit 0))) iB)))) (oR [m1 26 3,m1 2 26] [2])
def Afz:IC:=oS [mC 2 (.s [])] [0] (oS [mC 3 (.s [])] [0,3] Ad3)
def At6:List R:=[.t 2]
def AxX:=Ao iB.eq_1<|Ao Ad3.eq_1<|AJ Afz.eq_1
theorem AnQ:Ar π 26 27 Afz At6=true:=by kernel_rfl
def AeK:IC:=oS [mC 2 (.b false)] [0] (oR [m1 3 0,q1 4 19 3,q1 5 26 4,m1 6 0,bT 7 .eql 5 6,m1 2 7] [2])
def Aum:List R:=[.t 2]
def Ay8:=AJ AeK.eq_1
theorem Aoo:Ar π 12 8 AeK Aum=true:=by kernel_rfl
def AfA:IC:=oS [m1 13 5,q1 14 17 13,nT 15 14,m1 16 15,B0 17 16 5,Dn 18 16 .neq 17 8297,pA 19 16 18] [3,5,7,8,9,19] (cD 19 (oP [m1 20 3,m1 21 5,o1 22 (.msl false 3 1 [.t 21]),o1 23 (.app (.t 20) (.t 22) 3 1),m1 3 23] [3,7,8,9]) .skip)
def AoM:IC:=oS [bT 10 .lss 9 8] [3,7,8,9,10] (sQ (cD 10 .skip (.exit 0)) (sQ (.block 1 (oS [iA 11 7 9 3 1,l1 12 11,m1 5 12] [3,5,7,8,9] AfA)) (oP [bZ 24 .add 9 1,m1 9 24] [3,7,8,9])))
def ArZ:IC:=oS [mC 2 (.s [])] [0] (oS [mC 3 .nil] [0,3] (sQ (oS [m1 6 0,q1 7 16 6,nL 8 7,mZ 9 0] [3,7,8,9] (.block 0 (.loop AoM))) (sQ (.wk (oP [m1 25 3,q1 26 18 25,m1 2 26] [2])) .ret)))
def f8R:List R:=[.t 2]
def f8e:=Ao AfA.eq_1<|Ao AoM.eq_1<|AJ ArZ.eq_1
theorem Att:Ar π 8 27 ArZ f8R=true:=by kernel_rfl
def AfZ:IC:=oS [m1 20 6,bZ 21 .neq 20 4,m1 22 21,B0 23 22 6,Dn 24 22 .neq 23 5,pA 25 22 24] [3,4,5,25] (cD 25 (oP [m1 26 4,m1 27 3,m1 28 5,iA 29 27 28 3 1,l1 30 29,q1 31 21 30,bT 32 .add 26 31,m1 4 32] [3,4,5]) .skip)
def Ad7:IC:=sQ (.block 1 (oS [m1 15 3,m1 16 5,iA 17 15 16 3 1,l1 18 17,q1 19 20 18,m1 6 19] [3,4,5,6] AfZ)) (oP [m1 13 5,bZ 14 .add 13 1,m1 5 14] [3,4,5])
def ArB:IC:=sQ (oS [mZ 5 0] [3,4,5] (.block 0 (.loop (sQ (oS [m1 9 5,m1 10 3,nL 11 10,bT 12 .lss 9 11] [3,4,5,12] (cD 12 .skip (.exit 0))) Ad7)))) (oR [m1 33 4,m1 2 33] [2])
def Aqr:IC:=oS [mC 2 (.s [])] [0] (oS [m1 7 0,q1 8 19 7,m1 3 8] [3] (oS [mC 4 (.s [])] [3,4] ArB))
def f9R:List R:=[.t 2]
def f9e:=Ao AfZ.eq_1<|Ao Ad7.eq_1<|Ao ArB.eq_1<|AJ Aqr.eq_1
theorem AuA:Ar π 9 34 Aqr f9R=true:=by kernel_rfl
def nA:IC:=oS [m1 36 0,bZ 37 .geq 36 65,m1 38 37,B0 39 38 0,Dn 40 38 .leq 39 90,pA 41 38 40,m1 42 41,Bn 43 42 0,Dv 44 42 .geq 43 97,Bn 45 42 44,B0 46 45 0,Dn 47 45 .leq 46 122,gF 48 42 (.pick (.t 45) (.t 47) (.c (.b false))),pO 49 42 48,m1 50 49,Bn 51 50 0,Dv 52 50 .geq 51 192,Bn 53 50 52,B0 54 53 0,Dn 55 53 .lss 54 8192,B0 56 53 55,Bn 57 56 0,Dv 58 56 .gtr 57 12287,gT 59 53 (.pick (.t 56) (.c (.b true)) (.t 58)),gF 60 50 (.pick (.t 53) (.t 59) (.c (.b false))),pO 61 50 60,m1 35 61] [35] (cD 35 (oR [mZ 2 1] [2]) .skip)
def gO:IC:=oS [m1 14 0,bZ 15 .geq 14 1424,m1 16 15,B0 17 16 0,Dn 18 16 .leq 17 2303,pA 19 16 18,m1 20 19,Bn 21 20 0,Dv 22 20 .geq 21 64285,Bn 23 20 22,B0 24 23 0,Dn 25 23 .leq 24 65276,gF 26 20 (.pick (.t 23) (.t 25) (.c (.b false))),pO 27 20 26,m1 13 27] [0,13] (cD 13 (oR [mZ 2 2] [2]) (oS [m1 29 0,bZ 30 .geq 29 48,m1 31 30,B0 32 31 0,Dn 33 31 .leq 32 57,pA 34 31 33,m1 28 34] [0,28] (cD 28 (oR [mZ 2 3] [2]) nA)))
def Af5:IC:=sQ (.block 0 (oS [m1 4 0,bZ 5 .geq 4 8294,m1 6 5,B0 7 6 0,Dn 8 6 .leq 7 8296,pA 9 6 8,m1 3 9] [0,3] (cD 3 (oR [mZ 2 4] [2]) (oS [m1 11 0,bZ 12 .eql 11 8297,m1 10 12] [0,10] (cD 10 (oR [mZ 2 5] [2]) gO))))) (oR [mZ 2 0] [2])
def Agd:IC:=oS [mZ 2 0] [0] Af5
def At0:List R:=[.t 2]
def AyL:=Ao nA.eq_1<|Ao gO.eq_1<|Ao Af5.eq_1<|AJ Agd.eq_1
theorem ApI:Ar π 20 62 Agd At0=true:=by kernel_rfl
def AeC:IC:=oR [m1 3 0,bC 4 .geq 3 (.i .u8 97),m1 5 4,B0 6 5 0,gT 7 5 (.bin .leq (.t 6) (.c (.i .u8 122))),pA 8 5 7,m1 9 8,Bn 10 9 0,gF 11 9 (.bin .geq (.t 10) (.c (.i .u8 65))),Bn 12 9 11,B0 13 12 0,gT 14 12 (.bin .leq (.t 13) (.c (.i .u8 90))),gF 15 9 (.pick (.t 12) (.t 14) (.c (.b false))),pO 16 9 15,m1 17 16,Bn 18 17 0,gF 19 17 (.bin .geq (.t 18) (.c (.i .u8 48))),Bn 20 17 19,B0 21 20 0,gT 22 20 (.bin .leq (.t 21) (.c (.i .u8 57))),gF 23 17 (.pick (.t 20) (.t 22) (.c (.b false))),pO 24 17 23,m1 25 24,Bn 26 25 0,gF 27 25 (.bin .eql (.t 26) (.c (.i .u8 45))),pO 28 25 27,m1 29 28,Bn 30 29 0,gF 31 29 (.bin .eql (.t 30) (.c (.i .u8 95))),pO 32 29 31,m1 2 32] [2]
def AgH:IC:=oS [mC 2 (.b false)] [0] AeC
def AvK:List R:=[.t 2]
def Ayg:=Ao AeC.eq_1<|AJ AgH.eq_1
theorem AoC:Ar π 91 33 AgH AvK=true:=by kernel_rfl
def Af0:IC:=sQ (oS [m1 4 3,m1 5 0,nS 6 5,bT 7 .lss 4 6,m1 8 7,B0 9 8 0,B0 10 8 3,gT 11 8 (.idx (.t 9) (.t 10)),gT 12 8 (.call 91 [.t 11]),pA 13 8 12] [0,3,13] (cD 13 .skip (.exit 0))) (.block 1 (oP [m1 14 3,bZ 15 .add 14 1,m1 3 15] [0,3]))
def Ag2:IC:=oS [mZ 2 0] [0] (oS [mZ 3 0] [0,3] (sQ (.block 0 (.loop Af0)) (oR [m1 16 3,m1 2 16] [2])))
def AuF:List R:=[.t 2]
def Azk:=Ao Af0.eq_1<|AJ Ag2.eq_1
theorem Anf:Ar π 66 17 Ag2 AuF=true:=by kernel_rfl
def Aha:IC:=oR [m1 3 0,bC 4 .neq 3 (.s []),m1 5 4,B0 6 5 0,gT 7 5 (.call 66 [.t 6]),B0 8 5 0,gT 9 5 (.lenS (.t 8)),gT 10 5 (.bin .eql (.t 7) (.t 9)),pA 11 5 10,m1 12 11,B0 13 12 0,gT 14 12 (.lenS (.t 13)),Dn 15 12 .leq 14 40,pA 16 12 15,m1 2 16] [2]
def AdX:IC:=oS [mC 2 (.b false)] [0] Aha
def Aue:List R:=[.t 2]
def AxF:=Ao Aha.eq_1<|AJ AdX.eq_1
theorem dO:Ar π 49 17 AdX Aue=true:=by kernel_rfl
def AgE:IC:=oS [mC 2 (.b false)] [0] (oR [m1 3 0,nS 4 3,bZ 5 .leq 4 400,m1 6 5,B0 7 6 0,gT 8 6 (.call 12 [.t 7]),pA 9 6 8,m1 2 9] [2])
def Ato:List R:=[.t 2]
def Azr:=AJ AgE.eq_1
theorem Aqf:Ar π 65 10 AgE Ato=true:=by kernel_rfl
def qR:IC:=sQ (.block 1 (oS [m1 12 0,m1 13 5,iA 14 12 13 9 1,l1 15 14,m1 16 1,bT 17 .eql 15 16] [0,1,5,17] (cD 17 (oR [mC 4 (.b true)] [4]) .skip))) (oP [m1 10 5,bZ 11 .add 10 1,m1 5 11] [0,1,5])
def Ae2:IC:=sQ (oS [mZ 5 0] [0,1,5] (.block 0 (.loop (sQ (oS [m1 6 5,m1 7 0,nL 8 7,bT 9 .lss 6 8] [0,1,5,9] (cD 9 .skip (.exit 0))) qR)))) (oR [mC 4 (.b false)] [4])
def Af3:IC:=oS [mC 4 (.b false)] [0,1] Ae2
def At2:List R:=[.t 4]
def Ayi:=Ao qR.eq_1<|Ao Ae2.eq_1<|AJ Af3.eq_1
theorem AfH:Ar π 44 18 Af3 At2=true:=by kernel_rfl
def mN:IC:=sQ (.block 1 (oS [m1 10 0,m1 11 3,iA 12 10 11 9 1,l1 13 12,q1 14 49 13,nT 15 14] [0,3,15] (cD 15 (oR [mC 2 (.b false)] [2]) .skip))) (oP [m1 8 3,bZ 9 .add 8 1,m1 3 9] [0,3])
def AdL:IC:=sQ (oS [mZ 3 0] [0,3] (.block 0 (.loop (sQ (oS [m1 4 3,m1 5 0,nL 6 5,bT 7 .lss 4 6] [0,3,7] (cD 7 .skip (.exit 0))) mN)))) (oR [mC 2 (.b true)] [2])
def Aff:IC:=oS [mC 2 (.b false)] [0] AdL
def AvU:List R:=[.t 2]
def Az2:=Ao mN.eq_1<|Ao AdL.eq_1<|AJ Aff.eq_1
theorem Asv:Ar π 28 16 Aff AvU=true:=by kernel_rfl
def m5:IC:=sQ (.block 1 (oS [m1 10 0,m1 11 3,iA 12 10 11 9 1,l1 13 12,q1 14 65 13,nT 15 14] [0,3,15] (cD 15 (oR [mC 2 (.b false)] [2]) .skip))) (oP [m1 8 3,bZ 9 .add 8 1,m1 3 9] [0,3])
def AdO:IC:=sQ (oS [mZ 3 0] [0,3] (.block 0 (.loop (sQ (oS [m1 4 3,m1 5 0,nL 6 5,bT 7 .lss 4 6] [0,3,7] (cD 7 .skip (.exit 0))) m5)))) (oR [mC 2 (.b true)] [2])
def AdA:IC:=oS [mC 2 (.b false)] [0] AdO
def Auo:List R:=[.t 2]
def Azc:=Ao m5.eq_1<|Ao AdO.eq_1<|AJ AdA.eq_1
theorem Aqi:Ar π 48 16 AdA Auo=true:=by kernel_rfl
def dW:IC:=sQ (.block 1 (sQ (.ops [m1 10 0,m1 11 3,o1 12 (.slL (.t 10) none (some (.t 11)) 1),m1 13 0,m1 14 3,iA 15 13 14 9 1,l1 16 15,q2 17 44 12 16] [0,3,17] [[0,2],[1,2],[3,5],[4,5],[5,6],[2,7],[6,7]]) (cD 17 (oR [mC 2 (.b false)] [2]) .skip))) (oP [m1 8 3,bZ 9 .add 8 1,m1 3 9] [0,3])
def AdQ:IC:=sQ (oS [mZ 3 0] [0,3] (.block 0 (.loop (sQ (oS [m1 4 3,m1 5 0,nL 6 5,bT 7 .lss 4 6] [0,3,7] (cD 7 .skip (.exit 0))) dW)))) (oR [mC 2 (.b true)] [2])
def AdW:IC:=oS [mC 2 (.b false)] [0] AdQ
def AtO:List R:=[.t 2]
def AxS:=Ao dW.eq_1<|Ao AdQ.eq_1<|AJ AdW.eq_1
theorem ArQ:Ar π 63 18 AdW AtO=true:=by kernel_rfl
def rJ:IC:=sQ (.ops [o1 19 (.call 61 []),m1 20 0,m1 21 4,iA 22 20 21 96 2,fA 23 22 0,l1 24 23,q2 25 44 19 24,nT 26 25,m1 27 26,Bn 28 27 0,Bn 29 27 4,gF 30 27 (.iaddr (.t 28) (.t 29) 96 2),CG 31 27 30 1,CM 32 27 31,gF 33 27 (.call 62 [.t 32]),gF 34 27 (.not (.t 33)),pO 35 27 34] [0,3,4,35] [[1,3],[2,3],[3,4],[4,5],[0,6],[5,6],[6,7],[7,8],[8,9],[8,10],[8,11],[9,11],[10,11],[8,12],[11,12],[8,13],[12,13],[8,14],[13,14],[8,15],[14,15],[8,16],[15,16]]) (cD 35 (oR [mC 2 (.b false)] [2]) .skip)
def jN:IC:=sQ (.block 1 (oS [m1 11 3,m1 12 0,m1 13 4,iA 14 12 13 96 2,fA 15 14 0,l1 16 15,o1 17 (.msl false 9 1 [.t 16]),o1 18 (.app (.t 11) (.t 17) 9 1),m1 3 18] [0,3,4] rJ)) (oP [m1 9 4,bZ 10 .add 9 1,m1 4 10] [0,3,4])
def AfV:IC:=sQ (oS [mZ 4 0] [0,3,4] (.block 0 (.loop (sQ (oS [m1 5 4,m1 6 0,nL 7 6,bT 8 .lss 5 7] [0,3,4,8] (cD 8 .skip (.exit 0))) jN)))) (sQ (.wk (oP [m1 36 3,q1 37 63 36,m1 2 37] [2])) .ret)
def Agn:IC:=oS [mC 2 (.b false)] [0] (oS [mC 3 .nil] [0,3] AfV)
def Au3:List R:=[.t 2]
def Ays:=Ao rJ.eq_1<|Ao jN.eq_1<|Ao AfV.eq_1<|AJ Agn.eq_1
theorem Aqw:Ar π 45 38 Agn Au3=true:=by kernel_rfl
def AeJ:IC:=oR [fA 6 1 0,l1 7 6,bC 8 .neq 7 (.s []),m1 9 8,D0 10 9 1 0,Dm 11 9 10,D0 12 9 1 1,Dm 13 9 12,D0 14 9 1 2,Dm 15 9 14,D0 16 9 1 3,Dm 17 9 16,gT 18 9 (.msl false 9 1 [.t 11,.t 13,.t 15,.t 17]),gT 19 9 (.call 48 [.t 18]),pA 20 9 19,m1 21 20,D0 22 21 1 4,Dm 23 21 22,Dn 24 21 .geq 23 0,pA 25 21 24,m1 26 25,D0 27 26 1 4,Dm 28 26 27,Dn 29 26 .leq 28 9,pA 30 26 29,m1 31 30,D0 32 31 1 5,Dm 33 31 32,Dn 34 31 .geq 33 0,pA 35 31 34,m1 36 35,D0 37 36 1 5,Dm 38 36 37,Dn 39 36 .leq 38 9,pA 40 36 39,m1 2 40] [2]
def Agx:IC:=sQ (oS [lA 3 1 6,o1 4 (.build [.s [],.s [],.s [],.s [],.i .i64 0,.i .i64 0] []),o1 5 (.pu (.eqs false [(0,.str),(1,.str),(2,.str),(3,.str),(4,.int),(5,.int)]) [.t 3,.t 4])] [1,5] (cD 5 (oR [mC 2 (.b true)] [2]) .skip)) AeJ
def Ad1:IC:=oS [bX 1 0,mC 2 (.b false)] [1] Agx
def AtU:List R:=[.t 2]
def Ayr:=Ao AeJ.eq_1<|Ao Agx.eq_1<|AJ Ad1.eq_1
theorem uX:Ar π 46 41 Ad1 AtU=true:=by kernel_rfl
def kM:IC:=sQ (.block 1 (oP [m1 14 3,fA 15 1 11,l1 16 15,m1 17 4,iA 18 16 17 125 5,fA 19 18 0,l1 20 19,o1 21 (.bin .add (.c (.s [108,105,115,116,32])) (.t 20)),o1 22 (.msl false 9 1 [.t 21]),o1 23 (.app (.t 14) (.t 22) 9 1),m1 3 23] [1,3,4])) (oP [m1 12 4,bZ 13 .add 12 1,m1 4 13] [1,3,4])
def jW:IC:=sQ (.block 3 (.ops [m1 31 3,fA 32 1 12,l1 33 32,m1 34 5,iA 35 33 34 127 3,fA 36 35 0,l1 37 36,o1 38 (.bin .add (.c (.s [117,110,105,116,32])) (.t 37)),bC 39 .add 38 (.s [32]),fA 40 1 12,l1 41 40,m1 42 5,iA 43 41 42 127 3,fA 44 43 1,l1 45 44,bT 46 .add 39 45,o1 47 (.msl false 9 1 [.t 46]),o1 48 (.app (.t 31) (.t 47) 9 1),m1 3 48] [1,3,5] [[1,2],[2,4],[3,4],[4,5],[5,6],[6,7],[7,8],[9,10],[10,12],[11,12],[12,13],[13,14],[8,15],[14,15],[15,16],[0,17],[2,4,5,6,7,8,15,16,17],[4,5,6,7,8,15,16,17],[6,7,8,15,16,17],[10,12,13,14,15,16,17],[12,13,14,15,16,17],[14,15,16,17],[16,17],[0,18],[17,18]])) (oP [m1 29 5,bZ 30 .add 29 1,m1 5 30] [1,3,5])
def eC:IC:=sQ (.block 5 (oP [m1 56 3,fA 57 1 13,l1 58 57,m1 59 6,iA 60 58 59 129 2,fA 61 60 0,l1 62 61,o1 63 (.bin .add (.c (.s [100,97,116,101,32])) (.t 62)),o1 64 (.msl false 9 1 [.t 63]),o1 65 (.app (.t 56) (.t 64) 9 1),m1 3 65] [1,3,6])) (oP [m1 54 6,bZ 55 .add 54 1,m1 6 55] [1,3,6])
def sV:IC:=sQ (oS [mZ 6 0] [1,3,6] (.block 4 (.loop (sQ (oS [m1 49 6,fA 50 1 13,l1 51 50,nL 52 51,bT 53 .lss 49 52] [1,3,6,53] (cD 53 .skip (.exit 4))) eC)))) (sQ (.wk (oP [m1 66 3,m1 2 66] [2])) .ret)
def Ad2:IC:=sQ (oS [mZ 4 0] [1,3,4] (.block 0 (.loop (sQ (oS [m1 7 4,fA 8 1 11,l1 9 8,nL 10 9,bT 11 .lss 7 10] [1,3,4,11] (cD 11 .skip (.exit 0))) kM)))) (sQ (oS [mZ 5 0] [1,3,5] (.block 2 (.loop (sQ (oS [m1 24 5,fA 25 1 12,l1 26 25,nL 27 26,bT 28 .lss 24 27] [1,3,5,28] (cD 28 .skip (.exit 2))) jW)))) sV)
def AgD:IC:=oS [bX 1 0,mC 2 .nil] [1] (oS [mC 3 .nil] [1,3] Ad2)
def Awf:List R:=[.t 2]
def AxK:=Ao kM.eq_1<|Ao jW.eq_1<|Ao eC.eq_1<|Ao sV.eq_1<|Ao Ad2.eq_1<|AJ AgD.eq_1
theorem ArR:Ar π 64 67 AgD Awf=true:=by kernel_rfl
def Aea:IC:=sQ (.block 3 (oS [fA 31 1 17,l1 32 31,m1 33 3,iA 34 32 33 43 5,fA 35 34 4,l1 36 35,m1 37 4,iA 38 36 37 9 1,l1 39 38,q1 40 12 39,nT 41 40] [1,3,4,41] (cD 41 (oR [mC 2 (.b false)] [2]) .skip))) (oP [m1 29 4,bZ 30 .add 29 1,m1 4 30] [1,3,4])
def AeM:IC:=sQ (oS [m1 20 4,fA 21 1 17,l1 22 21,m1 23 3,iA 24 22 23 43 5,fA 25 24 4,l1 26 25,nL 27 26,bT 28 .lss 20 27] [1,3,4,28] (cD 28 .skip (.exit 2))) Aea
def Agc:IC:=sQ (.block 1 (sQ (oS [fA 12 1 17,l1 13 12,m1 14 3,iA 15 13 14 43 5,fA 16 15 2,l1 17 16,q1 18 12 17,nT 19 18] [1,3,19] (cD 19 (oR [mC 2 (.b false)] [2]) .skip)) (oS [mZ 4 0] [1,3,4] (.block 2 (.loop AeM))))) (oP [m1 10 3,bZ 11 .add 10 1,m1 3 11] [1,3])
def AgW:IC:=oR [fA 42 1 0,lA 43 42 16,o1 44 (.msl false 30 16 [.t 43]),o1 45 (.build [.nil,.nil,.nil] [(0,1,.t 44)]),q1 46 13 45,m1 47 46,D0 48 47 1 16,Dm 49 47 48,gT 50 47 (.call 14 [.t 49,.c (.s [32])]),gT 51 47 (.call 12 [.t 50]),pA 52 47 51,m1 2 52] [2]
def Aq6:IC:=oS [bX 1 0,mC 2 (.b false)] [1] (sQ (oS [mZ 3 0] [1,3] (.block 0 (.loop (sQ (oS [m1 5 3,fA 6 1 17,l1 7 6,nL 8 7,bT 9 .lss 5 8] [1,3,9] (cD 9 .skip (.exit 0))) Agc)))) AgW)
def f6R:List R:=[.t 2]
def f6e:=Ao Aea.eq_1<|Ao AeM.eq_1<|Ao Agc.eq_1<|Ao AgW.eq_1<|AJ Aq6.eq_1
theorem AtH:Ar π 6 53 Aq6 f6R=true:=by kernel_rfl
def Aeq:IC:=oR [m1 39 4,m1 40 6,bT 41 .eql 39 40,m1 42 41,Bn 43 42 4,Dv 44 42 .eql 43 6,pO 45 42 44,m1 46 45,Bn 47 46 6,Dv 48 46 .eql 47 6,pO 49 46 48,m1 2 49] [2]
def AdU:IC:=oR [m1 50 3,q1 51 8 50,m1 52 5,q1 53 8 52,bT 54 .eql 51 53,m1 55 54,B0 56 55 5,gT 57 55 (.call 9 [.t 56]),B0 58 55 3,gT 59 55 (.call 8 [.t 58]),gT 60 55 (.bin .eql (.t 57) (.t 59)),pA 61 55 60,m1 2 61] [2]
def Aeb:IC:=oS [lA 27 1 19,fA 28 1 16,l1 29 28,q2 30 7 27 29,m1 26 30,xT 31 26 0,xT 32 26 1,m1 5 31,m1 6 32] [3,4,5,6] (sQ (oS [m1 33 4,bZ 34 .neq 33 0,m1 35 34,Bn 36 35 6,Dv 37 35 .neq 36 0,pO 38 35 37] [3,4,5,6,38] (cD 38 Aeq .skip)) AdU)
def Ag8:IC:=oS [lA 19 1 19,fA 20 1 16,l1 21 20,q2 22 7 19 21,m1 18 22,xT 23 18 0,xT 24 18 1,m1 3 23,m1 4 24] [1,3,4] (oS [fA 25 1 18,o0 (.store (.t 25) (.c (.b true)) 1)] [1,3,4] Aeb)
def ApZ:IC:=sQ (oS [lA 9 1 19,q1 10 5 9,nT 11 10,m1 12 11,gF 13 12 (.load (.t 1) 19 true),gF 14 12 (.call 6 [.t 13]),gF 15 12 (.not (.t 14)),pO 16 12 15] [1,16] (cD 16 (oR [mC 2 (.b true)] [2]) .skip)) (oS [fA 17 1 18,o0 (.store (.t 17) (.c (.b false)) 1)] [1] Ag8)
def ApQ:IC:=oS [bX 1 0,mC 2 (.b false)] [1] (sQ (oS [o1 7 (.call 4 []),nT 8 7] [1,8] (cD 8 (oR [mC 2 (.b false)] [2]) .skip)) ApZ)
def f3R:List R:=[.t 2]
def f3e:=Ao Aeq.eq_1<|Ao AdU.eq_1<|Ao Aeb.eq_1<|Ao Ag8.eq_1<|Ao ApZ.eq_1<|AJ ApQ.eq_1
theorem Vo:Ar π 3 62 ApQ f3R=true:=by kernel_rfl
def mI:IC:=oS [fA 20 4 0,l1 21 20,o1 22 (.msl false 9 1 [.t 21]),q1 23 28 22,nT 24 23,m1 25 24,CG 26 25 4 1,CM 27 25 26,CG 28 25 4 2,CM 29 25 28,CG 30 25 4 3,CM 31 25 30,CG 32 25 4 4,CM 33 25 32,gF 34 25 (.msl false 9 1 [.t 27,.t 29,.t 31,.t 33]),gF 35 25 (.call 48 [.t 34]),gF 36 25 (.not (.t 35)),pO 37 25 36] [1,3,37] (cD 37 (oR [mC 2 (.b false)] [2]) .skip)
def oF:IC:=sQ (.block 1 (oS [fA 15 1 11,l1 16 15,m1 17 3,iA 18 16 17 125 5,lA 19 18 5,o1 4 (.alloc (.agg [.s [],.s [],.s [],.s [],.s []])),sT 4 19 5] [1,3,4] mI)) (oP [m1 13 3,bZ 14 .add 13 1,m1 3 14] [1,3])
def r7:IC:=sQ (.ops [fA 50 6 0,l1 51 50,o1 52 (.msl false 9 1 [.t 51]),q1 53 28 52,nT 54 53,m1 55 54,gF 56 55 (.mkm (.cal 61) []),gF 57 55 (.msl false 9 1 [.c (.s [111,116,104,101,114])]),gF 58 55 (.app (.t 56) (.t 57) 9 1),CG 59 55 6 1,⟨some 60,.load (.t 59) 1 false,some (55,false),[.t 56]⟩,gF 61 55 (.callr 44 [.t 58,.t 60]),gF 62 55 (.not (.t 61)),pO 63 55 62,m1 64 63,CG 65 64 6 2,CM 66 64 65,gF 67 64 (.msl false 9 1 [.t 66]),gF 68 64 (.call 48 [.t 67]),gF 69 64 (.not (.t 68)),pO 70 64 69] [1,5,70] [[0,1],[1,2],[2,3],[3,4],[4,5],[5,6],[5,7],[1,2,3,5,8],[5,8],[6,8],[7,8],[5,9],[5,10],[9,10],[5,11],[6,8,11],[8,11],[10,11],[5,12],[11,12],[5,13],[12,13],[13,14],[14,15],[8,11,14,16],[14,16],[15,16],[14,17],[16,17],[14,18],[17,18],[14,19],[18,19],[14,20],[19,20]]) (cD 70 (oR [mC 2 (.b false)] [2]) .skip)
def iQ:IC:=sQ (.block 3 (oS [fA 45 1 12,l1 46 45,m1 47 5,iA 48 46 47 127 3,lA 49 48 3,o1 6 (.alloc (.agg [.s [],.s [],.s []])),sT 6 49 3] [1,5,6] r7)) (oP [m1 43 5,bZ 44 .add 43 1,m1 5 44] [1,5])
def jY:IC:=sQ (.block 5 (oS [fA 78 1 13,l1 79 78,m1 80 7,iA 81 79 80 129 2,fA 82 81 0,l1 83 82,o1 84 (.msl false 9 1 [.t 83]),q1 85 28 84,nT 86 85,m1 87 86,CG 88 87 1 13,CM 89 87 88,Bn 90 87 7,gF 91 87 (.iaddr (.t 89) (.t 90) 129 2),CG 92 87 91 1,CM 93 87 92,gF 94 87 (.msl false 9 1 [.t 93]),gF 95 87 (.call 48 [.t 94]),gF 96 87 (.not (.t 95)),pO 97 87 96] [1,7,97] (cD 97 (oR [mC 2 (.b false)] [2]) .skip))) (oP [m1 76 7,bZ 77 .add 76 1,m1 7 77] [1,7])
def d9:IC:=oR [lA 98 1 16,q1 99 64 98,q1 100 63 99,m1 101 100,D0 102 101 1 11,Dm 103 101 102,gT 104 101 (.lenL (.t 103)),Dn 105 101 .leq 104 10,pA 106 101 105,m1 107 106,D0 108 107 1 12,Dm 109 107 108,gT 110 107 (.lenL (.t 109)),Dn 111 107 .leq 110 100,pA 112 107 111,m1 113 112,D0 114 113 1 13,Dm 115 113 114,gT 116 113 (.lenL (.t 115)),Dn 117 113 .leq 116 30,pA 118 113 117,m1 2 118] [2]
def rG:IC:=sQ (oS [mZ 5 0] [1,5] (.block 2 (.loop (sQ (oS [m1 38 5,fA 39 1 12,l1 40 39,nL 41 40,bT 42 .lss 38 41] [1,5,42] (cD 42 .skip (.exit 2))) iQ)))) (sQ (oS [mZ 7 0] [1,7] (.block 4 (.loop (sQ (oS [m1 71 7,fA 72 1 13,l1 73 72,nL 74 73,bT 75 .lss 71 74] [1,7,75] (cD 75 .skip (.exit 4))) jY)))) d9)
def Ag3:IC:=oS [bX 1 0,mC 2 (.b false)] [1] (sQ (oS [mZ 3 0] [1,3] (.block 0 (.loop (sQ (oS [m1 8 3,fA 9 1 11,l1 10 9,nL 11 10,bT 12 .lss 8 11] [1,3,12] (cD 12 .skip (.exit 0))) oF)))) rG)
def AuB:List R:=[.t 2]
def AyZ:=Ao mI.eq_1<|Ao oF.eq_1<|Ao r7.eq_1<|Ao iQ.eq_1<|Ao jY.eq_1<|Ao d9.eq_1<|Ao rG.eq_1<|AJ Ag3.eq_1
theorem AoN:Ar π 47 119 Ag3 AuB=true:=by kernel_rfl
def AgT:IC:=oR [fA 50 1 14,l1 51 50,q1 52 48 51,m1 53 52,D0 54 53 1 15,Dm 55 53 54,gT 56 53 (.call 48 [.t 55]),pA 57 53 56,m1 58 57,D0 59 58 1 14,Dm 60 58 59,gT 61 58 (.lenL (.t 60)),Dn 62 58 .eql 61 0,B0 63 58 62,CG 64 63 1 14,CM 65 63 64,gF 66 63 (.lenL (.t 65)),Dv 67 63 .eql 66 12,gT 68 58 (.pick (.t 63) (.c (.b true)) (.t 67)),pA 69 58 68,m1 70 69,D0 71 70 1 15,Dm 72 70 71,gT 73 70 (.lenL (.t 72)),Dn 74 70 .eql 73 0,B0 75 70 74,CG 76 75 1 15,CM 77 75 76,gF 78 75 (.lenL (.t 77)),Dv 79 75 .eql 78 7,gT 80 70 (.pick (.t 75) (.c (.b true)) (.t 79)),pA 81 70 80,m1 2 81] [2]
def Aep:IC:=sQ (oS [fA 3 1 0,l1 4 3,o1 5 (.msl false 9 1 [.t 4]),q1 6 28 5,nT 7 6,m1 8 7,CG 9 8 1 1,CM 10 8 9,gF 11 8 (.bin .neq (.t 10) (.c (.s []))),Bn 12 8 11,D0 13 12 1 1,Dm 14 12 13,gT 15 12 (.msl false 9 1 [.t 14]),gT 16 12 (.call 28 [.t 15]),gT 17 12 (.not (.t 16)),gF 18 8 (.pick (.t 12) (.t 17) (.c (.b false))),pO 19 8 18,m1 20 19,gF 21 20 (.msl false 9 1 [.c (.s []),.c (.s [108,116,114]),.c (.s [114,116,108])]),CG 22 20 1 2,CM 23 20 22,gF 24 20 (.call 44 [.t 21,.t 23]),gF 25 20 (.not (.t 24)),pO 26 20 25,m1 27 26,CG 28 27 1 3,CM 29 27 28,gF 30 27 (.call 45 [.t 29]),gF 31 27 (.not (.t 30)),pO 32 27 31,m1 33 32,CG 34 33 1 4,CM 35 33 34,gF 36 33 (.call 45 [.t 35]),gF 37 33 (.not (.t 36)),pO 38 33 37,m1 39 38,CG 40 39 1 5,gF 41 39 (.load (.t 40) 6 true),gF 42 39 (.call 46 [.t 41]),gF 43 39 (.not (.t 42)),pO 44 39 43,m1 45 44,gF 46 45 (.load (.t 1) 16 true),gF 47 45 (.call 47 [.t 46]),gF 48 45 (.not (.t 47)),pO 49 45 48] [1,49] (cD 49 (oR [mC 2 (.b false)] [2]) .skip)) AgT
def Agy:IC:=oS [bX 1 0,mC 2 (.b false)] [1] Aep
def AuP:List R:=[.t 2]
def Azm:=Ao AgT.eq_1<|Ao Aep.eq_1<|AJ Agy.eq_1
theorem Eg:Ar π 27 82 Agy AuP=true:=by kernel_rfl
def eB:IC:=sQ (.block 1 (oS [fA 13 1 0,l1 14 13,m1 15 3,iA 16 14 15 30 16,lA 17 16 16,q1 18 27 17,nT 19 18] [1,3,19] (cD 19 (oR [mC 2 (.b false)] [2]) .skip))) (oP [m1 11 3,bZ 12 .add 11 1,m1 3 12] [1,3])
def rU:IC:=sQ (.block 3 (sQ (.ops [fA 27 1 1,l1 28 27,m1 29 4,iA 30 28 29 69 2,fA 31 30 0,l1 32 31,fA 33 1 1,l1 34 33,m1 35 4,iA 36 34 35 69 2,fA 37 36 1,l1 38 37,o1 39 (.msl false 9 1 [.t 32,.t 38]),q1 40 28 39,nT 41 40] [1,4,41] [[0,1],[1,3],[2,3],[3,4],[4,5],[6,7],[7,9],[8,9],[9,10],[10,11],[5,12],[11,12],[12,13],[13,14]]) (cD 41 (oR [mC 2 (.b false)] [2]) .skip))) (oP [m1 25 4,bZ 26 .add 25 1,m1 4 26] [1,4])
def vG:IC:=sQ (.block 5 (sQ (.ops [fA 49 1 2,l1 50 49,m1 51 5,iA 52 50 51 71 3,fA 53 52 0,l1 54 53,fA 55 1 2,l1 56 55,m1 57 5,iA 58 56 57 71 3,fA 59 58 1,l1 60 59,o1 61 (.msl false 9 1 [.t 54,.t 60]),q1 62 28 61,nT 63 62,m1 64 63,CG 65 64 1 2,CM 66 64 65,Bn 67 64 5,gF 68 64 (.iaddr (.t 66) (.t 67) 71 3),CG 69 64 68 2,CM 70 64 69,Dv 71 64 .lss 70 0,pO 72 64 71,m1 73 72,CG 74 73 1 2,CM 75 73 74,Bn 76 73 5,gF 77 73 (.iaddr (.t 75) (.t 76) 71 3),CG 78 73 77 2,CM 79 73 78,Dv 80 73 .gtr 79 1000,pO 81 73 80] [1,5,81] [[0,1],[1,3],[2,3],[3,4],[4,5],[6,7],[7,9],[8,9],[9,10],[10,11],[5,12],[11,12],[12,13],[13,14],[14,15],[15,16],[15,17],[16,17],[15,18],[15,19],[17,19],[18,19],[15,20],[19,20],[15,21],[20,21],[15,22],[21,22],[15,23],[22,23],[23,24],[24,25],[24,26],[25,26],[24,27],[24,28],[26,28],[27,28],[24,29],[28,29],[24,30],[29,30],[24,31],[30,31],[24,32],[31,32]]) (cD 81 (oR [mC 2 (.b false)] [2]) .skip))) (oP [m1 47 5,bZ 48 .add 47 1,m1 5 48] [1,5])
def o5:IC:=oR [fA 82 1 0,l1 83 82,nL 84 83,bZ 85 .leq 84 60,m1 86 85,D0 87 86 1 1,Dm 88 86 87,gT 89 86 (.lenL (.t 88)),Dn 90 86 .leq 89 200,pA 91 86 90,m1 92 91,D0 93 92 1 2,Dm 94 92 93,gT 95 92 (.lenL (.t 94)),Dn 96 92 .leq 95 200,pA 97 92 96,m1 2 97] [2]
def vD:IC:=sQ (oS [mZ 4 0] [1,4] (.block 2 (.loop (sQ (oS [m1 20 4,fA 21 1 1,l1 22 21,nL 23 22,bT 24 .lss 20 23] [1,4,24] (cD 24 .skip (.exit 2))) rU)))) (sQ (oS [mZ 5 0] [1,5] (.block 4 (.loop (sQ (oS [m1 42 5,fA 43 1 2,l1 44 43,nL 45 44,bT 46 .lss 42 45] [1,5,46] (cD 46 .skip (.exit 4))) vG)))) o5)
def AdS:IC:=oS [bX 1 0,mC 2 (.b false)] [1] (sQ (oS [mZ 3 0] [1,3] (.block 0 (.loop (sQ (oS [m1 6 3,fA 7 1 0,l1 8 7,nL 9 8,bT 10 .lss 6 9] [1,3,10] (cD 10 .skip (.exit 0))) eB)))) vD)
def Ave:List R:=[.t 2]
def Ay9:=Ao eB.eq_1<|Ao rU.eq_1<|Ao vG.eq_1<|Ao o5.eq_1<|Ao vD.eq_1<|AJ AdS.eq_1
theorem Aov:Ar π 13 98 AdS Ave=true:=by kernel_rfl
attribute[push_cast]AtQ Azs Atw AxQ AtS Azo AtJ Azl At6 AxX Aum Ay8 f8R f8e f9R f9e At0 AyL AvK Ayg AuF Azk Aue AxF Ato Azr At2 Ayi AvU Az2 Auo Azc AtO AxS Au3 Ays AtU Ayr Awf AxK f6R f6e f3R f3e AuB AyZ AuP Azm Ave Ay9
end Go.Ir

namespace Go.Ir
open Go.Proofs
variable(O:World)
theorem Ts(n:Int):An π O 43 [.i .i64 n] [] (.b (Br n)) []:=by
 generalize hS:Br n=S;unfold Br at hS;refine Ah (vs:=[.b S]) AmQ (by simp) (by simp) λn0 f=>?_;clear f;simp only[push_cast,seval,rq];cases a:decide (n>=0)<;>cases c:decide (n<=1114111)<;>cases d:decide (n<55296)<;>cases e:decide (n>57343)
 all_goals simp only[a,c,d,e,AmS,Am0,Amq,Amr,Atc,AsM,A0G] at hS
 all_goals subst hS
 all_goals simp only[push_cast,seval,rq,a,c,d,e]
 all_goals repeat' (first|(((first|apply Ac|apply Af|apply Ag)<;>intro _h)<;>simp only[push_cast,seval,rq,_h,a,c,d,e])|(refine As (by simp only[Aaf,Aa8,Adu,Am]<;>omega) ?_;simp only[push_cast,seval,rq,a,c,d,e])|intro _)
 all_goals exact Ae (by simp[get])
def FF(n:Int):Ad:=
 if n<128 then[QX n] else if n<2048 then[QX (192+n.tdiv 64),QX (128+n.tmod 64)]
 else if n<65536 then[QX (224+n.tdiv 4096),QX (128+(n.tdiv 64).tmod 64),QX (128+n.tmod 64)]
 else[QX (240+n.tdiv 262144),QX (128+(n.tdiv 4096).tmod 64),QX (128+(n.tdiv 64).tmod 64),QX (128+n.tmod 64)]
theorem M6(n:Nat):FF (n:Int)=CY n:=by
 unfold FF CY Lv QX;have f:(n:Int).tdiv 64=((n / 64:Nat):Int):=rfl;have g:(n:Int).tmod 64=((n % 64:Nat):Int):=rfl;have h:(n:Int).tdiv 4096=((n / 4096:Nat):Int):=rfl;have i:(n:Int).tdiv 262144=((n / 262144:Nat):Int):=rfl;have j:((n / 64:Nat):Int).tmod 64=((n / 64 % 64:Nat):Int):=rfl;have k:((n / 4096:Nat):Int).tmod 64=((n / 4096 % 64:Nat):Int):=rfl;rw[f,g,h,i,j,k];have t:∀a b:Nat,((a:Int)+(b:Int)).toNat=a+b:=λa b=>by omega
 by_cases c:n<128
 .rw[Aiv (by omega),Aiv c];rfl
 .rw[Amt (by omega),Amt c];by_cases d:n<2048
  .rw[Aiv (by omega),Aiv d];rfl
  .rw[Amt (by omega),Amt d];by_cases e:n<65536
   .rw[Aiv (by omega),Aiv e];rfl
   .rw[Amt (by omega),Amt e];rfl
theorem M9{n:Int}(h:0<=n/\n<256):IntKind.u8.wrap n=n:=by rw[L7];omega
theorem Pe(n:Int)(B:0<=n/\n<=1114111):An π O 21 [.i .i64 n] [] (.s (FF n)) []:=by
 generalize hS:FF n=S;unfold FF at hS;cases e:decide (n<128) with
 | true=>
  rw[Aiv (AuL e)] at hS;have f:IntKind.u8.wrap n=n:=M9 ⟨B.1,by have:=AuL e;omega⟩;refine Ah (vs:=[.s S]) Ya (by simp) (by simp) λn0 a=>?_;clear a;simp only[push_cast,seval,rq,e,f,CD,Option.map]
  repeat' (first|(((first|apply Ac|apply Af|apply Ag)<;>intro _h)<;>simp only[push_cast,seval,rq,_h,e,f,CD,Option.map])|intro _)
  exact Ae (by simp[get,<-hS,QX])
 | false=>
  have J:=AuU e;rw[Amt J] at hS;have a0:n.tdiv 64=n / 64:=AzJ B.1;have g:n.tmod 64=n % 64:=A0n B.1;have a2:n.tdiv 4096=n / 4096:=AzJ B.1;have a3:n.tdiv 262144=n / 262144:=AzJ B.1;have a4:(n / 64).tmod 64=n / 64 % 64:=A0n (by omega);have a5:(n / 4096).tmod 64=n / 4096 % 64:=A0n (by omega);rw[a0,g,a2,a3,a4,a5] at hS;obtain⟨r,E⟩:∃m,n % 64=m:=⟨_,rfl⟩
  obtain⟨p,F⟩:∃m,n / 64=m:=⟨_,rfl⟩;obtain⟨b,j⟩:∃m,n / 4096=m:=⟨_,rfl⟩;obtain⟨d,k⟩:∃m,n / 262144=m:=⟨_,rfl⟩;obtain⟨c,C⟩:∃m,p % 64=m:=⟨_,rfl⟩;obtain⟨m18,D⟩:∃m,b % 64=m:=⟨_,rfl⟩;simp only[F,j] at hS a4 a5;simp only[C,D] at hS a4 a5;simp only[E,k] at hS;rw[F] at a0;rw[E] at g;rw[j] at a2;rw[k] at a3;have x:IntKind.i64.wrap p=p:=wrap64 (by omega) (by omega);have v2:IntKind.i64.wrap r=r:=wrap64 (by omega) (by omega);have v3:IntKind.i64.wrap b=b:=wrap64 (by omega) (by omega);have v4:IntKind.i64.wrap d=d:=wrap64 (by omega) (by omega);have v5:IntKind.i64.wrap c=c:=wrap64 (by omega) (by omega);have y:IntKind.i64.wrap m18=m18:=wrap64 (by omega) (by omega);have f:IntKind.i64.wrap (128+r)=128+r:=wrap64 (by omega) (by omega);have z:IntKind.i64.wrap (128+c)=128+c:=wrap64 (by omega) (by omega);have A:IntKind.i64.wrap (128+m18)=128+m18:=wrap64 (by omega) (by omega);have t:IntKind.u8.wrap (128+r)=128+r:=M9 (by omega);have u:IntKind.u8.wrap (128+c)=128+c:=M9 (by omega);have w:IntKind.u8.wrap (128+m18)=128+m18:=M9 (by omega);cases h:decide (n<2048) with
  | true=>
   have G:=AuL h;rw[Aiv G] at hS;have o:IntKind.i64.wrap (192+p)=192+p:=wrap64 (by omega) (by omega);have l:IntKind.u8.wrap (192+p)=192+p:=M9 (by omega);refine Ah (vs:=[.s S]) Ya (by simp) (by simp) λn0 a=>?_;clear a;simp only[push_cast,seval,rq,e,h,a0,g,a2,a3,a4,a5,x,v2,v3,v4,v5,y,f,z,A,o,t,u,w,l,CD,Option.map]
   repeat' (first|(((first|apply Ac|apply Af|apply Ag)<;>intro _h)<;>simp only[push_cast,seval,rq,_h,e,h,a0,g,a2,a3,a4,a5,x,v2,v3,v4,v5,y,f,z,A,o,t,u,w,l,CD,Option.map])|intro _)
   exact Ae (by simp[get,<-hS,QX])
  | false=>
   have G:=AuU h;rw[Amt G] at hS;cases q:decide (n<65536) with
   | true=>
    have I:=AuL q;rw[Aiv I] at hS;have o:IntKind.i64.wrap (224+b)=224+b:=wrap64 (by omega) (by omega);have l:IntKind.u8.wrap (224+b)=224+b:=M9 (by omega);refine Ah (vs:=[.s S]) Ya (by simp) (by simp) λn0 a=>?_;clear a;simp only[push_cast,seval,rq,e,h,q,a0,g,a2,a3,a4,a5,x,v2,v3,v4,v5,y,f,z,A,o,t,u,w,l,CD,Option.map]
    repeat' (first|(((first|apply Ac|apply Af|apply Ag)<;>intro _h)<;>simp only[push_cast,seval,rq,_h,e,h,q,a0,g,a2,a3,a4,a5,x,v2,v3,v4,v5,y,f,z,A,o,t,u,w,l,CD,Option.map])|intro _)
    exact Ae (by simp[get,<-hS,QX])
   | false=>
    have I:=AuU q;rw[Amt I] at hS;have o:IntKind.i64.wrap (240+d)=240+d:=wrap64 (by omega) (by omega);have l:IntKind.u8.wrap (240+d)=240+d:=M9 (by omega);refine Ah (vs:=[.s S]) Ya (by simp) (by simp) λn0 a=>?_;clear a;simp only[push_cast,seval,rq,e,h,q,a0,g,a2,a3,a4,a5,x,v2,v3,v4,v5,y,f,z,A,o,t,u,w,l,CD,Option.map]
    repeat' (first|(((first|apply Ac|apply Af|apply Ag)<;>intro _h)<;>simp only[push_cast,seval,rq,_h,e,h,q,a0,g,a2,a3,a4,a5,x,v2,v3,v4,v5,y,f,z,A,o,t,u,w,l,CD,Option.map])|intro _)
    exact Ae (by simp[get,<-hS,QX])
def Eh:Nat->Ad->Int->Option Int
 | 0,_,n=>some n
 | _+1,[],_=>none
 | k+1,c::t,n=>if decide ((c.toNat:Int)<128)||decide ((c.toNat:Int)>191) then none else Eh k t (64*n+c.toNat-128)
theorem GK(t:Ad)(n:Int):Eh 0 t n=some n:=by cases t<;>rfl
theorem M5(k:Nat)(c:UInt8)(t:Ad)(n:Int):Eh (k+1) (c::t) n=if decide ((c.toNat:Int)<128)||decide ((c.toNat:Int)>191) then none else Eh k t (64*n+c.toNat-128):=rfl
def Hr(s:Ad)(m:Int)(k:Nat):Int×Int:=
 if decide ((k:Int)>s.length) then(65533,1) else match Eh (k-1) (s.drop 1) m with
 | none=>(65533,1)
 | some x=>if Br x&&FF x==s.take k then(x,k) else(65533,1)
def Eb(c:UInt8)(t:Ad):Int×Int:=
 if decide ((c.toNat:Int)<128) then(c.toNat,1)
 else if decide ((c.toNat:Int)>=192)&&decide ((c.toNat:Int)<224) then Hr (c::t) ((c.toNat:Int)-192) 2
 else if decide ((c.toNat:Int)>=224)&&decide ((c.toNat:Int)<240) then Hr (c::t) ((c.toNat:Int)-224) 3
 else if decide ((c.toNat:Int)>=240)&&decide ((c.toNat:Int)<248) then Hr (c::t) ((c.toNat:Int)-240) 4
 else(65533,1)
def bdN(i:Nat):Int:=if i<=1 then 31 else if i<=2 then 2047 else if i<=3 then 131071 else 8388607
theorem Aq0{i:Nat}{x:Int}(h:i<4)(a:x<=bdN i):x<=131071:=by
 unfold bdN at a;split at a
 .omega
 .split at a
  .omega
  .split at a
   .omega
   .omega
theorem AhR{i:Nat}{x:Int}(a:x<=bdN i):x<=8388607:=by
 unfold bdN at a;split at a
 .omega
 .split at a
  .omega
  .split at a
   .omega
   .omega
theorem Acs{i:Nat}{x c:Int}(b:1<=i)(h:i<4)(a:x<=bdN i)(d:c<=191):64*x+c-128<=bdN (i+1):=by
 unfold bdN at a⊢;rcases(by omega:i=1\/i=2\/i=3) with rfl|rfl|rfl
 .simp at a⊢;omega
 .simp at a⊢;omega
 .simp at a⊢;omega
theorem cK(p:UInt8)(t:Ad)(K:Nat)(m:Int)(n0:Nat)(V:t.length<=2^40)(T:2<=K/\K<=4)(N:K<=t.length+1)(z:0<=m/\m<=31)(Q:Exit->St->Prop)
  (k:Eh (K-1) t m=none->∀n,Q .ret ⟨[(2,.i .i64 65533),(3,.i .i64 1)],[],n⟩)
  (l:∀x n,Eh (K-1) t m=some x->0<=x->x<=8388607->Q (.exit 1) ⟨[(0,.s (p::t)),(4,.i .i64 x),(5,.i .i64 K),(6,.i .i64 K),(47,.b false)],[],n⟩) :
  Iq π O 81 QM Q ⟨[(0,.s (p::t)),(4,.i .i64 m),(5,.i .i64 K),(6,.i .i64 1)],[],n0⟩:=by
 generalize q:Eh (K-1) t m=F at k l;refine Ak (K-1) (Inv:=λA st=>∃dn d x n,p::t=dn++d/\A=K-dn.length/\1<=dn.length/\dn.length<=K/\Eh (K-dn.length) d x=F/\0<=x/\x<=bdN dn.length/\st=⟨[(0,.s (p::t)),(4,.i .i64 x),(5,.i .i64 K),(6,.i .i64 dn.length)],[],n⟩) ⟨_,Aj.refl,[p],t,m,_,rfl,rfl,AfJ _,by simp only[Aa8,Adu];omega,q,z.1,z.2,rfl⟩ ?_;clear q;rintro A _ ⟨dn,d,x,n,h,rfl,G,S,g,y,o,rfl⟩;have r:t.length+1=dn.length+d.length:=by have:=Ayb List.length h;simpa using this
 by_cases R:dn.length<K
 .cases d with
  | nil=>simp only[Adu] at r;omega
  | cons c d=>
   have a:decide ((dn.length:Int)<(K:Int))=true:=by simp;omega
   have U:=Ay h;have J:=c.toNat_lt;obtain⟨j,M⟩:∃j,K-dn.length=j+1:=⟨K-dn.length-1,by omega⟩
   rw[M,M5] at g;have u:x<=131071:=Aq0 (by omega) o;have B:IntKind.i64.wrap (c.toNat:Int)=(c.toNat:Int):=wrap64 (by omega) (by omega);have C:IntKind.i64.wrap (64*x)=64*x:=wrap64 (by omega) (by omega);have D:IntKind.i64.wrap (64*x+(c.toNat:Int))=64*x+(c.toNat:Int):=wrap64 (by omega) (by omega);have E:IntKind.i64.wrap (64*x+(c.toNat:Int)-128)=64*x+(c.toNat:Int)-128:=wrap64 (by omega) (by omega);cases e:decide ((c.toNat:Int)<128) with
   | true=>
    rw[e,Atd,Aiv rfl] at g;simp only[push_cast,seval,rq,h,a,e,AZ c (dn:=dn) (by unfold Am;omega)]
    repeat' (first|(((first|apply Ac|apply Af|apply Ag)<;>intro _h)<;>simp only[push_cast,seval,rq,_h,h,a,e,AZ c (dn:=dn) (by unfold Am;omega)])|intro _)
    exact k g.symm _
   | false=>
    cases f:decide ((c.toNat:Int)>191) with
    | true=>
     rw[e,f,Atc,Aiv rfl] at g;simp only[push_cast,seval,rq,h,a,e,f,AZ c (dn:=dn) (by unfold Am;omega)]
     repeat' (first|(((first|apply Ac|apply Af|apply Ag)<;>intro _h)<;>simp only[push_cast,seval,rq,_h,h,a,e,f,AZ c (dn:=dn) (by unfold Am;omega)])|intro _)
     exact k g.symm _
    | false=>
     have I:=AuU e;rw[e,f,AsM,Amt (by simp)] at g;simp only[push_cast,seval,rq,h,a,e,f,B,C,D,E,AZ c (dn:=dn) (by unfold Am;omega)]
     repeat' (first|(((first|apply Ac|apply Af|apply Ag)<;>intro _h)<;>simp only[push_cast,seval,rq,_h,h,a,e,f,B,C,D,E,AZ c (dn:=dn) (by unfold Am;omega)])|intro _)
     refine⟨K-(dn++[c]).length,_,by simp;omega,Aj.refl,dn++[c],d,64*x+(c.toNat:Int)-128,_,by simp,rfl,by simp,by simp;omega,by rw[<-g,show K-(dn++[c]).length=j by simp only[Aaf,Aa8,Adu];omega],by omega,by rw[Aaf];exact Acs G (by omega) o (by have:=AuU f;omega),rfl⟩
 .have w:K=dn.length:=by omega
  have a:decide ((dn.length:Int)<(K:Int))=false:=by simp;omega
  rw[show K-dn.length=0 by omega,GK] at g;have u:x<=8388607:=AhR o;simp only[push_cast,seval,rq,a];intros;rw[w] at l⊢;exact l x _ g.symm y u
theorem KD(b:UInt8)(t:Ad)(K:Nat)(m:Int)(S:Int×Int)(n0:Nat)(l:t.length<=2^40)(j:2<=K/\K<=4)(d:K<=t.length+1)(k:0<=m/\m<=31)
  (hS:(match Eh (K-1) ((b::t).drop 1) m with
   | none=>(65533,1)
   | some x=>if Br x&&FF x==(b::t).take K then(x,(K:Int)) else(65533,1))=S) :
  Iq π O 81 QM (Dy 1 (Nv π O 81 Ub (NU O 81 [.t 2,.t 3] [.i .i64 S.1,.i .i64 S.2] []))) ⟨[(0,.s (b::t)),(4,.i .i64 m),(5,.i .i64 K),(6,.i .i64 1)],[],n0⟩:=by
 refine cK O b t K m n0 l j d k _ (λh n=>?_) (λx n h e o=>?_)
 .rw[show Eh (K-1) ((b::t).drop 1) m=none from h] at hS;subst hS;simp only[push_cast,seval,rq];exact Ai (by simp[push_cast,get])
 .rw[show Eh (K-1) ((b::t).drop 1) m=some x from h] at hS;simp only at hS;have c:=Ts O x;have k1:(0<=(K:Int))=True:=Amy (by omega);have k2:((K:Int).toNat)=K:=by omega
  have k3:(0<=K/\K<=t.length+1)=True:=Amy ⟨Aul _,d⟩;cases hp:Br x with
  | false=>
   rw[hp] at hS c;rw[Amr,Amt (by simp)] at hS;subst hS;simp only[push_cast,seval,rq]
   repeat' (first|(((first|apply Ac|apply Af|apply Ag)<;>intro _h)<;>simp only[push_cast,seval,rq,_h])|(refine Ab (by exact c) ?_;simp only[push_cast,seval,rq])|intro _)
   exact Ai (by simp[push_cast,get])
  | true=>
   have f:x<=1114111:=by unfold Br at hp;simp only[AcR,Avx] at hp;exact hp.2.1
   have g:=Pe O x ⟨e,f⟩;rw[hp] at hS c;rw[Amq] at hS;cases a:(FF x==(b::t).take K) with
   | false=>
    rw[a,Amt (by simp)] at hS;subst hS;simp only[push_cast,seval,rq,k1,k2,k3,a,bne,Ain]
    repeat' (first|(((first|apply Ac|apply Af|apply Ag)<;>intro _h)<;>simp only[push_cast,seval,rq,_h,k1,k2,k3,a,bne,Ain])|((first|refine Ab (by exact c) ?_|refine Ab (by exact g) ?_);simp only[push_cast,seval,rq,k1,k2,k3,a,bne,Ain])|intro _)
    exact Ai (by simp[push_cast,get])
   | true=>
    rw[a,Aiv rfl] at hS;subst hS;simp only[push_cast,seval,rq,k1,k2,k3,a,bne,Amo]
    repeat' (first|(((first|apply Ac|apply Af|apply Ag)<;>intro _h)<;>simp only[push_cast,seval,rq,_h,k1,k2,k3,a,bne,Amo])|((first|refine Ab (by exact c) ?_|refine Ab (by exact g) ?_);simp only[push_cast,seval,rq,k1,k2,k3,a,bne,Amo])|intro _)
    exact Ai (by simp[push_cast,get])
theorem AcS(c:UInt8)(t:Ad)(r:t.length<=2^40):An π O 36 [.s (c::t)] [] (.tup [.i .i64 (Eb c t).1,.i .i64 (Eb c t).2]) []:=by
 generalize hS:Eb c t=S;unfold Eb at hS;have x:=c.toNat_lt;have w0:IntKind.i64.wrap (c.toNat:Int)=(c.toNat:Int):=wrap64 (by omega) (by omega);have q:IntKind.i64.wrap ((c.toNat:Int)-192)=(c.toNat:Int)-192:=wrap64 (by omega) (by omega);have v2:IntKind.i64.wrap ((c.toNat:Int)-224)=(c.toNat:Int)-224:=wrap64 (by omega) (by omega);have v3:IntKind.i64.wrap ((c.toNat:Int)-240)=(c.toNat:Int)-240:=wrap64 (by omega) (by omega);cases d:decide ((c.toNat:Int)<128) with
 | true=>
  rw[d,Aiv rfl] at hS;subst hS;refine Ah (vs:=[.i .i64 (c.toNat:Int),.i .i64 1]) J8 (by simp) (by simp) λn0 b=>?_;clear b;simp only[push_cast,seval,rq,d,w0]
  repeat' (first|(((first|apply Ac|apply Af|apply Ag)<;>intro _h)<;>simp only[push_cast,seval,rq,_h,d,w0])|intro _)
  exact Ai (by simp[push_cast,get])
 | false=>
 rw[d,Amt (by simp)] at hS;cases m:(decide ((c.toNat:Int)>=192)&&decide ((c.toNat:Int)<224)) with
 | true=>
  rw[m,Aiv rfl] at hS;have k:(c.toNat:Int)>=192/\(c.toNat:Int)<224:=by simpa using m
  obtain⟨e,f⟩:=k;unfold Hr at hS;cases g:decide (((2:Nat):Int)>(c::t).length) with
  | true=>
   rw[g,Aiv rfl] at hS;subst hS;have a:decide ((2:Int)>(t.length:Int)+1)=true:=by have l:=AuL g;simp only[Aa8] at l;simp;omega
   refine Ah (vs:=[.i .i64 65533,.i .i64 1]) J8 (by simp) (by simp) λn0 b=>?_;clear b;simp only[push_cast,seval,rq,d,w0,Amy e,Amy f,a,q]
   repeat' (first|(((first|apply Ac|apply Af|apply Ag)<;>intro _h)<;>simp only[push_cast,seval,rq,_h,d,w0,Amy e,Amy f,a,q])|intro _)
   exact Ai (by simp[push_cast,get])
  | false=>
   have h:=AuU g;simp only[Aa8] at h;rw[g,Amt (by simp)] at hS;have a:decide ((2:Int)>(t.length:Int)+1)=false:=by simp;omega
   refine Ah (vs:=[.i .i64 S.1,.i .i64 S.2]) J8 (by simp) (by simp) λn0 b=>?_;clear b;simp only[push_cast,seval,rq,d,w0,Amy e,Amy f,a,q]
   repeat' (first|(((first|apply Ac|apply Af|apply Ag)<;>intro _h)<;>simp only[push_cast,seval,rq,_h,d,w0,Amy e,Amy f,a,q])|intro _)
   exact KD O c t 2 ((c.toNat:Int)-192) S _ r ⟨by omega,by omega⟩ (by omega) ⟨by omega,by omega⟩ hS
 | false=>
 rw[m,Amt (by simp)] at hS;cases o:(decide ((c.toNat:Int)>=224)&&decide ((c.toNat:Int)<240)) with
 | true=>
  rw[o,Aiv rfl] at hS;have k:(c.toNat:Int)>=224/\(c.toNat:Int)<240:=by simpa using o
  obtain⟨e,f⟩:=k;have q1:(c.toNat:Int)>=192:=by omega
  have q2:¬(c.toNat:Int)<224:=by omega
  unfold Hr at hS;cases g:decide (((3:Nat):Int)>(c::t).length) with
  | true=>
   rw[g,Aiv rfl] at hS;subst hS;have a:decide ((3:Int)>(t.length:Int)+1)=true:=by have l:=AuL g;simp only[Aa8] at l;simp;omega
   refine Ah (vs:=[.i .i64 65533,.i .i64 1]) J8 (by simp) (by simp) λn0 b=>?_;clear b;simp only[push_cast,seval,rq,d,w0,Amy e,Amy f,a,v2,Amy q1,Amp q2]
   repeat' (first|(((first|apply Ac|apply Af|apply Ag)<;>intro _h)<;>simp only[push_cast,seval,rq,_h,d,w0,Amy e,Amy f,a,v2,Amy q1,Amp q2])|intro _)
   exact Ai (by simp[push_cast,get])
  | false=>
   have h:=AuU g;simp only[Aa8] at h;rw[g,Amt (by simp)] at hS;have a:decide ((3:Int)>(t.length:Int)+1)=false:=by simp;omega
   refine Ah (vs:=[.i .i64 S.1,.i .i64 S.2]) J8 (by simp) (by simp) λn0 b=>?_;clear b;simp only[push_cast,seval,rq,d,w0,Amy e,Amy f,a,v2,Amy q1,Amp q2]
   repeat' (first|(((first|apply Ac|apply Af|apply Ag)<;>intro _h)<;>simp only[push_cast,seval,rq,_h,d,w0,Amy e,Amy f,a,v2,Amy q1,Amp q2])|intro _)
   exact KD O c t 3 ((c.toNat:Int)-224) S _ r ⟨by omega,by omega⟩ (by omega) ⟨by omega,by omega⟩ hS
 | false=>
 rw[o,Amt (by simp)] at hS;cases p:(decide ((c.toNat:Int)>=240)&&decide ((c.toNat:Int)<248)) with
 | true=>
  rw[p,Aiv rfl] at hS;have k:(c.toNat:Int)>=240/\(c.toNat:Int)<248:=by simpa using p
  obtain⟨e,f⟩:=k;have q1:(c.toNat:Int)>=192:=by omega
  have q2:¬(c.toNat:Int)<224:=by omega
  have q3:(c.toNat:Int)>=224:=by omega
  have j:¬(c.toNat:Int)<240:=by omega
  unfold Hr at hS;cases g:decide (((4:Nat):Int)>(c::t).length) with
  | true=>
   rw[g,Aiv rfl] at hS;subst hS;have a:decide ((4:Int)>(t.length:Int)+1)=true:=by have l:=AuL g;simp only[Aa8] at l;simp;omega
   refine Ah (vs:=[.i .i64 65533,.i .i64 1]) J8 (by simp) (by simp) λn0 b=>?_;clear b;simp only[push_cast,seval,rq,d,w0,Amy e,Amy f,a,v3,Amy q1,Amp q2,Amy q3,Amp j]
   repeat' (first|(((first|apply Ac|apply Af|apply Ag)<;>intro _h)<;>simp only[push_cast,seval,rq,_h,d,w0,Amy e,Amy f,a,v3,Amy q1,Amp q2,Amy q3,Amp j])|intro _)
   exact Ai (by simp[push_cast,get])
  | false=>
   have h:=AuU g;simp only[Aa8] at h;rw[g,Amt (by simp)] at hS;have a:decide ((4:Int)>(t.length:Int)+1)=false:=by simp;omega
   refine Ah (vs:=[.i .i64 S.1,.i .i64 S.2]) J8 (by simp) (by simp) λn0 b=>?_;clear b;simp only[push_cast,seval,rq,d,w0,Amy e,Amy f,a,v3,Amy q1,Amp q2,Amy q3,Amp j]
   repeat' (first|(((first|apply Ac|apply Af|apply Ag)<;>intro _h)<;>simp only[push_cast,seval,rq,_h,d,w0,Amy e,Amy f,a,v3,Amy q1,Amp q2,Amy q3,Amp j])|intro _)
   exact KD O c t 4 ((c.toNat:Int)-240) S _ r ⟨by omega,by omega⟩ (by omega) ⟨by omega,by omega⟩ hS
 | false=>
 rw[p,Amt (by simp)] at hS;subst hS;simp only[Bool.and_eq_false_iff,Ayh] at m o p;rcases(by omega:(c.toNat:Int)<192\/248<=(c.toNat:Int)) with y|y
 .have q1:¬(c.toNat:Int)>=192:=by omega
  have q2:¬(c.toNat:Int)>=224:=by omega
  have q3:¬(c.toNat:Int)>=240:=by omega
  refine Ah (vs:=[.i .i64 65533,.i .i64 1]) J8 (by simp) (by simp) λn0 b=>?_;clear b;simp only[push_cast,seval,rq,d,w0,Amp q1,Amp q2,Amp q3]
  repeat' (first|(((first|apply Ac|apply Af|apply Ag)<;>intro _h)<;>simp only[push_cast,seval,rq,_h,d,w0,Amp q1,Amp q2,Amp q3])|intro _)
  exact Ai (by simp[push_cast,get])
 .have q1:(c.toNat:Int)>=192:=by omega
  have q2:(c.toNat:Int)>=224:=by omega
  have q3:(c.toNat:Int)>=240:=by omega
  have j:¬(c.toNat:Int)<224:=by omega
  have u:¬(c.toNat:Int)<240:=by omega
  have w:¬(c.toNat:Int)<248:=by omega
  refine Ah (vs:=[.i .i64 65533,.i .i64 1]) J8 (by simp) (by simp) λn0 b=>?_;clear b;simp only[push_cast,seval,rq,d,w0,Amy q1,Amy q2,Amy q3,Amp j,Amp u,Amp w]
  repeat' (first|(((first|apply Ac|apply Af|apply Ag)<;>intro _h)<;>simp only[push_cast,seval,rq,_h,d,w0,Amy q1,Amy q2,Amy q3,Amp j,Amp u,Amp w])|intro _)
  exact Ai (by simp[push_cast,get])
theorem PR:Br 65533=true:=by decide
theorem NB(c:UInt8)(t:Ad):Br (Eb c t).1=true/\∃k:Nat,(Eb c t).2=k/\1<=k/\k<=t.length+1:=by
 have f:=c.toNat_lt;have b:∀m K,1<=K->Br (Hr (c::t) m K).1=true/\∃k:Nat,(Hr (c::t) m K).2=k/\1<=k/\k<=t.length+1:=λm K e=>by
  unfold Hr;split
  .exact⟨PR,1,rfl,by omega,by omega⟩
  .rename_i a;split
   .exact⟨PR,1,rfl,by omega,by omega⟩
   .split
    .rename_i d;rw[AcR] at d;simp only[Aa8,Avx] at a;exact⟨d.1,K,rfl,e,by omega⟩
    .exact⟨PR,1,rfl,by omega,by omega⟩
 unfold Eb;split
 .rename_i a;have a:=AuL a;refine⟨?_,1,rfl,by omega,by omega⟩;unfold Br;simp;omega
 .split
  .exact b _ _ (by omega)
  .split
   .exact b _ _ (by omega)
   .split
    .exact b _ _ (by omega)
    .exact⟨PR,1,rfl,by omega,by omega⟩
def He:Nat->Ad->List Int
 | 0,_=>[]
 | _+1,[]=>[]
 | n+1,c::t=>(Eb c t).1::He n ((c::t).drop (Eb c t).2.toNat)
def GF(s:Ad):List Int:=He s.length s
theorem Es(n:Nat)(c:UInt8)(t:Ad):He (n+1) (c::t)=(Eb c t).1::He n ((c::t).drop (Eb c t).2.toNat):=rfl
theorem Gl(n:Nat):He n []=[]:=by cases n<;>rfl
theorem Nj:∀(n:Nat) (s:Ad),s.length<=n->He n s=He s.length s:=by
 intro n
 induction n using Nat.strongRecOn with
 | _ n a=>
  intro s e;cases s with
  | nil=>rw[Gl,Gl]
  | cons c t=>
   obtain⟨_,k,b,f,g⟩:=NB c t;simp only[Aa8] at e;obtain⟨m,rfl⟩:∃m,n=m+1:=⟨n-1,by omega⟩;rw[Aa8,Es,Es,b,show((k:Int)).toNat=k from rfl];have d:((c::t).drop k).length<=t.length:=by rw[AyA,Aa8];omega
   rw[a m (by omega) _ (by omega),<-a t.length (by omega) _ d]
theorem SW(s:Ad):∀n,(He n s).length<=n:=by
 intro n
 induction n generalizing s with
 | zero=>simp[He]
 | succ n a=>
  cases s with
  | nil=>rw[Gl];simp
  | cons c t=>rw[Es,Aa8];have:=a ((c::t).drop (Eb c t).2.toNat);omega
theorem Sk:∀(n:Nat) (s:Ad),∀x∈He n s,Br x=true
 | 0,s,x,a=>by simp[He] at a
 | n+1,[],x,a=>by rw[Gl] at a;cases a
 | n+1,c::t,x,a=>by
  rw[Es] at a;rcases Auy.1 a with h|h
  .rw[h];exact(NB c t).1
  .exact Sk n _ x h
theorem WV(s:Ad):∀x∈GF s,Br x=true:=by unfold GF;exact Sk _ s
theorem Ol(s:Ad)(B:s.length<=2^28):An π O 19 [.s s] [] (.sl ((GF s).map (V.i .i64))) []:=by
 generalize hS:GF s=S;unfold GF at hS;refine Ah (vs:=[.sl (S.map (V.i .i64))]) ArP (by simp) (by simp) λn0 j=>?_;clear j;simp only[push_cast,seval,rq];intro k1 k2;generalize n0+1+k1+1+k2=q at *;refine Ak s.length (Inv:=λm st=>∃n a id out,m=a.length/\out++He a.length a=S/\out.length+a.length<=s.length/\id.1<n/\st=⟨[(0,.s a),(3,.arr id)],[(id,.arr 3 1 (out.map (V.i .i64)))],n⟩) ⟨_,(Aj.own (s:=3) (e:=3) (sz:=1) (k:=0) rfl).trans (Aj.envD (env':=[(0,.s s),(3,.arr (q,0))]) (λt=>?_) (AfJ _)),_,s,(q,0),[],rfl,hS,by simp,by simp only;omega,rfl⟩ ?_
 .left;simp only[get];by_cases l:0=t
  .simp[<-l]
  .by_cases u:3=t<;>simp[l,u]
 clear hS;rintro m _ ⟨n,a,id,out,rfl,b,z,w,rfl⟩;cases a with
 | nil=>
  rw[Gl,AmY] at b;subst b;simp only[push_cast,seval,rq]
  repeat' (first|(((first|apply Ac|apply Af|apply Ag)<;>intro _h)<;>simp only[push_cast,seval,rq,_h])|intro _)
  refine GZ (Aj.frzAt (s:=3) (id:=id) rfl (by simp[lk]) (qF out) (AfJ _)) ?_;simp only[push_cast,seval,rq]
  repeat' (first|(((first|apply Ac|apply Af|apply Ag)<;>intro _h)<;>simp only[push_cast,seval,rq,_h])|intro _)
  exact Ae (by simp[get])
 | cons c t=>
  simp only[Aa8] at z;have o:=AcS O c t (by omega);obtain⟨_,k,p,A,r⟩:=NB c t;rw[Aa8,Es,p,show((k:Int)).toNat=k from rfl] at b;have y:((c::t).drop k).length<=t.length:=by rw[AyA,Aa8];omega
  rw[Nj _ _ y] at b;rw[p] at o;generalize(Eb c t).1=x at *;have hL:(out.length+1<=AM)=True:=Amy (by unfold AM;omega);have d:decide (((c::t).length:Int)>0)=true:=by simp
  have f:(k<=t.length+1/\t.length<=t.length)=True:=Amy ⟨r,AfJ _⟩;have g:(0<=(k:Int))=True:=Amy (by omega);have h:((t.length:Int)+1>0)=True:=Amy (by omega);simp only[push_cast,seval,rq,hL,AaT,d,f,g,h,An6]
  repeat' (first|(((first|apply Ac|apply Af|apply Ag)<;>intro _h)<;>simp only[push_cast,seval,rq,_h,hL,AaT,d,f,g,h,An6])|(refine Ab (by exact o) ?_;simp only[push_cast,seval,rq,hL,AaT,d,f,g,h,An6])|intro _)
  rw[DO];exact⟨_,_,by omega,Aj.refl,_,(c::t).drop k,_,out++[x],rfl,by rw[Awz];exact b,by rw[Aaf,AyA];simp only[Aa8,Adu];omega,by simp only;omega,rfl⟩
def vF(n:Int):Ad:=FF (if Br n then n else 65533)
def M7(l:List Int):Ad:=l.flatMap vF
theorem MJ(n:Int):(FF n).length<=4:=by
 unfold FF
 repeat' split
 all_goals simp
theorem yZ{n:Int}(h:Br n=true):0<=n/\n<=1114111:=by unfold Br at h;simp only[AcR,Avx] at h;exact⟨h.1,h.2.1⟩
theorem ZE(l:List Int)(r:l.length<=2^28):An π O 26 [.sl (l.map (V.i .i64))] [] (.s (M7 l)) []:=by
 generalize hS:M7 l=S;refine Ah (vs:=[.s S]) AnQ (by simp) (by simp) λn0 j=>?_;clear j;simp only[push_cast,seval,rq];intros;refine Ak l.length (Inv:=λm st=>∃dn a n out,l=dn++a/\m=a.length/\out++M7 a=S/\out.length<=4*dn.length/\st=⟨[(0,.sl (l.map (V.i .i64))),(3,.s out),(4,.i .i64 dn.length)],[],n⟩) ⟨_,Aj.refl,[],l,_,[],rfl,rfl,hS,by simp,rfl⟩ ?_;clear hS;rintro m _ ⟨dn,a,n,out,c,rfl,g,t,rfl⟩;cases a with
 | nil=>
  simp only[M7,AzU,AmY] at g;subst g;simp only[push_cast,seval,rq,c]
  repeat' (first|(((first|apply Ac|apply Af|apply Ag)<;>intro _h)<;>simp only[push_cast,seval,rq,_h])|intro _)
  exact Ae (by simp[get])
 | cons x a=>
  have o:=Ay c;have f:=Ts O x;have b:out++(vF x++M7 a)=S:=g;clear g;have k:l.length=dn.length+a.length+1:=by rw[c];simp;omega
  have p:=MJ x;have q:=MJ 65533;have d:(out.length+(FF x).length<=Am)=True:=Amy (by unfold Am;omega);have e:(out.length+(FF 65533).length<=Am)=True:=Amy (by unfold Am;omega);unfold vF at b;cases hp:Br x with
  | true=>
   have h:=Pe O x (yZ hp);rw[hp] at f b;simp only[Agp] at b;simp only[push_cast,seval,rq,c,Aa x (dn:=dn) (by omega),d]
   repeat' (first|(((first|apply Ac|apply Af|apply Ag)<;>intro _h)<;>simp only[push_cast,seval,rq,_h,c,Aa x (dn:=dn) (by omega),d])|((first|refine Ab (by exact f) ?_|refine Ab (by exact h) ?_);simp only[push_cast,seval,rq,c,Aa x (dn:=dn) (by omega),d])|intro _)
   exact⟨_,_,Adx _,Aj.refl,dn++[x],a,_,_,by simp,rfl,by rw[Awz];exact b,by simp;omega,rfl⟩
  | false=>
   have h:=Pe O 65533 (by decide);rw[hp] at f b;simp only[AfT,Agw] at b;simp only[push_cast,seval,rq,c,Aa x (dn:=dn) (by omega),e]
   repeat' (first|(((first|apply Ac|apply Af|apply Ag)<;>intro _h)<;>simp only[push_cast,seval,rq,_h,c,Aa x (dn:=dn) (by omega),e])|((first|refine Ab (by exact f) ?_|refine Ab (by exact h) ?_);simp only[push_cast,seval,rq,c,Aa x (dn:=dn) (by omega),e])|intro _)
   exact⟨_,_,Adx _,Aj.refl,dn++[x],a,_,_,by simp,rfl,by rw[Awz];exact b,by simp;omega,rfl⟩
def KK(s:Ad):Bool:=M7 (GF s)==s
theorem HR(s:Ad)(e:s.length<=2^26):An π O 12 [.s s] [] (.b (KK s)) []:=by
 have c:=Ol O s (by omega);have d:=ZE O (GF s) (by have:=SW s s.length;unfold GF;omega);unfold KK;generalize GF s=D at *;generalize M7 D=E at *;refine Ah (vs:=[.b (E==s)]) Aoo (by simp) (by simp) λn0 a=>?_;clear a;simp only[push_cast,seval,rq]
 repeat' (first|(((first|apply Ac|apply Af|apply Ag)<;>intro _h)<;>simp only[push_cast,seval,rq,_h])|((first|refine Ab (by exact c) ?_|refine Ab (by exact d) ?_);simp only[push_cast,seval,rq])|intro _)
 exact Ae (by simp[get])
def TN(c:Int):Int:=
 if Hf c then 4 else if c==8297 then 5
 else if(decide (c>=1424)&&decide (c<=2303))||(decide (c>=64285)&&decide (c<=65276)) then 2
 else if decide (c>=48)&&decide (c<=57) then 3
 else if(decide (c>=65)&&decide (c<=90))||(decide (c>=97)&&decide (c<=122))||(decide (c>=192)&&(decide (c<8192)||decide (c>12287))) then 1 else 0
theorem TX(c:Int):An π O 20 [.i .i64 c] [] (.i .i64 (TN c)) []:=by
 generalize hS:TN c=S;unfold TN Hf at hS;refine Ah (vs:=[.i .i64 S]) ApI (by simp) (by simp) λn0 a=>?_;clear a;simp only[push_cast,seval,rq]
 repeat' (first|(((first|apply Ac|apply Af|apply Ag)<;>intro _h)<;>simp only[push_cast,seval,rq,_h])|intro _)
 all_goals subst hS
 all_goals (refine Ae ?_;simp only[By,Agp,AfT, *,bq,rq,AmS,Am0,Amq,Amr,Atc,AsM,Atd,Asc,Agw];done)
theorem mU(c:Int):(TN c !=4&&TN c !=5)=EW c:=by
 unfold TN EW;cases a:Hf c with
 | true=>simp
 | false=>
  cases b:c==8297 with
  | true=>simp
  | false=>
   simp only[Agw,AfT]
   repeat' split
   all_goals rfl
theorem mX(s:Ad)(w:s.length<=2^20):An π O 9 [.s s] [] (.s (((GF s).filter EW).flatMap FF)) []:=by
 have l:=Ol O s (by omega);have t:=SW s s.length;have j:=WV s;generalize hS:((GF s).filter EW).flatMap FF=S;have q:(GF s).length<=2^20:=by unfold GF;omega
 generalize GF s=D at *;refine Ah (vs:=[.s S]) AuA (by simp) (by simp) λn0 h=>?_;clear h;simp only[push_cast,seval,rq]
 repeat' (first|(((first|apply Ac|apply Af|apply Ag)<;>intro _h)<;>simp only[push_cast,seval,rq,_h])|(refine Ab (by exact l) ?_;simp only[push_cast,seval,rq])|intro _)
 refine Ak D.length (Inv:=λm st=>∃dn a n out,D=dn++a/\m=a.length/\out++(a.filter EW).flatMap FF=S/\out.length<=4*dn.length/\st=⟨[(3,.sl (D.map (V.i .i64))),(4,.s out),(5,.i .i64 dn.length)],[],n⟩) ⟨_,Aj.refl,[],D,_,[],rfl,rfl,hS,by simp,rfl⟩ ?_;clear hS;rintro m _ ⟨dn,a,n,out,d,rfl,e,u,rfl⟩;cases a with
 | nil=>
  simp only[List.filter_nil,AzU,AmY] at e;subst e;simp only[push_cast,seval,rq,d]
  repeat' (first|(((first|apply Ac|apply Af|apply Ag)<;>intro _h)<;>simp only[push_cast,seval,rq,_h])|intro _)
  exact Ae (by simp[get])
 | cons x a=>
  have p:=Ay d;have g:=TX O x;have c:=mU x;have o:=Pe O x (yZ (j x (by rw[d];simp)));have k:D.length=dn.length+a.length+1:=by rw[d];simp;omega
  have r:=MJ x;have f:(out.length+(FF x).length<=Am)=True:=Amy (by unfold Am;omega);rw[AyW] at e;cases hp:EW x with
  | true=>
   rw[hp] at c e;rw[AcR] at c;rw[Aiv rfl,Ayt] at e;simp only[push_cast,seval,rq,d,Aa x (dn:=dn) (by omega),f,c.1,c.2]
   repeat' (first|(((first|apply Ac|apply Af|apply Ag)<;>intro _h)<;>simp only[push_cast,seval,rq,_h,d,Aa x (dn:=dn) (by omega),f,c.1,c.2])|((first|refine Ab (by exact g) ?_|refine Ab (by exact o) ?_);simp only[push_cast,seval,rq,d,Aa x (dn:=dn) (by omega),f,c.1,c.2])|intro _)
   exact⟨_,_,Adx _,Aj.refl,dn++[x],a,_,_,by simp,rfl,by rw[Awz];exact e,by simp;omega,rfl⟩
  | false=>
   rw[hp] at c e;rw[Amt (by simp)] at e;generalize TN x=C at *;cases b:(C !=4) with
   | false=>
    simp only[push_cast,seval,rq,d,Aa x (dn:=dn) (by omega),b]
    repeat' (first|(((first|apply Ac|apply Af|apply Ag)<;>intro _h)<;>simp only[push_cast,seval,rq,_h,d,Aa x (dn:=dn) (by omega),b])|(refine Ab (by exact g) ?_;simp only[push_cast,seval,rq,d,Aa x (dn:=dn) (by omega),b])|intro _)
    exact⟨_,_,Adx _,Aj.refl,dn++[x],a,_,_,by simp,rfl,e,by simp;omega,rfl⟩
   | true=>
    rw[b,Amq] at c;simp only[push_cast,seval,rq,d,Aa x (dn:=dn) (by omega),b,c]
    repeat' (first|(((first|apply Ac|apply Af|apply Ag)<;>intro _h)<;>simp only[push_cast,seval,rq,_h,d,Aa x (dn:=dn) (by omega),b,c])|(refine Ab (by exact g) ?_;simp only[push_cast,seval,rq,d,Aa x (dn:=dn) (by omega),b,c])|intro _)
    exact⟨_,_,Adx _,Aj.refl,dn++[x],a,_,_,by simp,rfl,e,by simp;omega,rfl⟩
theorem S9(s:Ad)(A:s.length<=2^20):An π O 8 [.s s] [] (.s (Em s)) []:=by
 have p:=S8 O s (by omega);have y:=Kk s s.length 0;have w:(EQ s).length<=2^20:=by unfold EQ;omega
 have q:=RO O ((EQ s).filter EW) (by have:=List.length_filter_le EW (EQ s);omega);unfold Em;generalize hS:(EQ s).filter EW=F at *;generalize EQ s=D at *;generalize Dq F=S at *;refine Ah (vs:=[.s S]) Att (by simp) (by simp) λn0 g=>?_;clear g;simp only[push_cast,seval,rq]
 repeat' (first|(((first|apply Ac|apply Af|apply Ag)<;>intro _h)<;>simp only[push_cast,seval,rq,_h])|(refine Ab (by exact p) ?_;simp only[push_cast,seval,rq])|intro _)
 rename_i k1 k2 k3;generalize n0+1+k1+1+k2+1+k3=o at *;refine Ak D.length (Inv:=λm st=>∃dn a n id out,D=dn++a/\m=a.length/\out++a.filter EW=F/\out.length<=dn.length/\id.1<n/\st=⟨[(3,.arr id),(7,.sl (D.map (V.i .i64))),(8,.i .i64 D.length),(9,.i .i64 dn.length)],[(id,.arr 3 1 (out.map (V.i .i64)))],n⟩) ⟨_,(Aj.own (s:=3) (e:=3) (sz:=1) (k:=0) rfl).trans (Aj.envD (env':=[(3,.arr (o,0)),(7,.sl (D.map (V.i .i64))),(8,.i .i64 D.length),(9,.i .i64 0)]) (λt=>?_) (AfJ _)),[],D,_,(o,0),[],rfl,rfl,hS,by simp,by simp only;omega,rfl⟩ ?_
 .left;simp only[get];by_cases h:3=t
  .subst h;simp
  .simp[h]
 clear hS;rintro m _ ⟨dn,a,n,id,out,d,rfl,c,z,u,rfl⟩;cases a with
 | nil=>
  simp only[List.filter_nil,AmY] at c;subst c;simp only[push_cast,seval,rq,d]
  repeat' (first|(((first|apply Ac|apply Af|apply Ag)<;>intro _h)<;>simp only[push_cast,seval,rq,_h])|intro _)
  refine GZ (Aj.frzAt (s:=3) (id:=id) rfl (by simp[lk]) (qF out) (AfJ _)) ?_;simp only[push_cast,seval,rq]
  repeat' (first|(((first|apply Ac|apply Af|apply Ag)<;>intro _h)<;>simp only[push_cast,seval,rq,_h])|(refine Ab (by exact q) ?_;simp only[push_cast,seval,rq])|intro _)
  exact Ae (by simp[get])
 | cons x a=>
  have r:=Ay d;have hI:=KT O x;have l:D.length=dn.length+a.length+1:=by rw[d];simp;omega
  have hL:(out.length+1<=AM)=True:=Amy (by unfold AM;omega);rw[AyW] at c;unfold EW at c;cases j:Hf x with
  | true=>
   rw[j] at c hI;simp only[Atd,Amo,Agw,AfT] at c;simp only[push_cast,seval,rq,d,Aa x (dn:=dn) (by omega),AaT]
   repeat' (first|(((first|apply Ac|apply Af|apply Ag)<;>intro _h)<;>simp only[push_cast,seval,rq,_h,d,Aa x (dn:=dn) (by omega),AaT])|(refine Ab (by exact hI) ?_;simp only[push_cast,seval,rq,d,Aa x (dn:=dn) (by omega),AaT])|intro _)
   exact⟨_,_,Adx _,Aj.refl,dn++[x],a,_,_,out,by simp,rfl,c,by simp;omega,by omega,rfl⟩
  | false=>
   rw[j] at c hI;cases f:(x==8297) with
   | true=>
    rw[f] at c;simp only[Asc,Amo,Agw,AfT] at c;have b:(x !=8297)=false:=by rw[bne,f];rfl
    simp only[push_cast,seval,rq,d,Aa x (dn:=dn) (by omega),AaT,b]
    repeat' (first|(((first|apply Ac|apply Af|apply Ag)<;>intro _h)<;>simp only[push_cast,seval,rq,_h,d,Aa x (dn:=dn) (by omega),AaT,b])|(refine Ab (by exact hI) ?_;simp only[push_cast,seval,rq,d,Aa x (dn:=dn) (by omega),AaT,b])|intro _)
    exact⟨_,_,Adx _,Aj.refl,dn++[x],a,_,_,out,by simp,rfl,c,by simp;omega,by omega,rfl⟩
   | false=>
    rw[f] at c;simp only[Asc,Ain,Agp] at c;have b:(x !=8297)=true:=by rw[bne,f];rfl
    simp only[push_cast,seval,rq,d,Aa x (dn:=dn) (by omega),AaT,b,hL]
    repeat' (first|(((first|apply Ac|apply Af|apply Ag)<;>intro _h)<;>simp only[push_cast,seval,rq,_h,d,Aa x (dn:=dn) (by omega),AaT,b,hL])|(refine Ab (by exact hI) ?_;simp only[push_cast,seval,rq,d,Aa x (dn:=dn) (by omega),AaT,b,hL])|intro _)
    rw[DO];exact⟨_,_,Adx _,Aj.refl,dn++[x],a,_,_,out++[x],by simp,rfl,by rw[Awz];exact c,by simp;omega,by simp only;omega,rfl⟩
end Go.Ir

namespace Go.Ir
theorem Ms{x:Nat}(h:x<256):((UInt8.ofNat x).toNat:Int)=x:=by rw[AzH];omega
theorem No{s r:Ad}{m x:Int}{k:Nat}(e:k<=s.length)(d:s.drop 1=r)(b:Eh (k-1) r m=some x)(hp:Br x=true)(c:FF x=s.take k):Hr s m k=(x,(k:Int)):=by have a:decide ((k:Int)>s.length)=false:=decide_eq_false (by omega);unfold Hr;rw[a,d,b];simp only[hp,c,A03,Bool.and_self,Agp,Agw,AfT]
theorem Gb{x k:Nat}{m:Int}(t:Ad)(c:x<64):Eh (k+1) (UInt8.ofNat (128+x)::t) m=Eh k t (64*m+x):=by rw[M5,Ms (by omega)];have a:decide ((((128+x:Nat)):Int)<128)=false:=decide_eq_false (by omega);have b:decide ((((128+x:Nat)):Int)>191)=false:=decide_eq_false (by omega);rw[a,b,A0G,Amt (by simp),show 64*m+(((128+x:Nat)):Int)-128=64*m+x by omega]
theorem bK(n:Nat)(h:NP n=true)(t:Ad):∃c r,CY n=c::r/\Eb c (r++t)=((n:Int),((CY n).length:Int)):=by
 have hp:Br (n:Int)=true:=by rw[IJ];exact h
 have hI:=M6 n;have j:=(FD n).1 h;by_cases d:n<128
 .have e:CY n=[UInt8.ofNat n]:=MI d;refine⟨_,_,e,?_⟩;rw[e];unfold Eb;rw[Ms (by omega),Aiv (decide_eq_true (by omega))];rfl
 .by_cases f:n<2048
  .have e:CY n=[UInt8.ofNat (192+n / 64),UInt8.ofNat (128+n % 64)]:=by unfold CY Lv;rw[Amt d,Aiv f];rfl
   refine⟨_,_,e,?_⟩;rw[e] at hI⊢;unfold Eb;rw[Ms (by omega)];have a:decide (((192+n / 64:Nat):Int)<128)=false:=decide_eq_false (by omega);have b:(decide (((192+n / 64:Nat):Int)>=192)&&decide (((192+n / 64:Nat):Int)<224))=true:=by rw[decide_eq_true (p:=((192+n / 64:Nat):Int)>=192) (by omega),decide_eq_true (p:=((192+n / 64:Nat):Int)<224) (by omega)];rfl
   rw[a,Amt (by simp),b,Aiv rfl];exact No (by simp) rfl (by rw[show 2-1=0+1 from rfl];show Eh (0+1) (UInt8.ofNat (128+n % 64)::t) _=_;rw[Gb _ (Az5 _ (by omega)),GK];exact Ayb some (by omega)) hp (by rw[hI];rfl)
  .by_cases g:n<65536
   .have e:CY n=[UInt8.ofNat (224+n / 4096),UInt8.ofNat (128+n / 64 % 64),UInt8.ofNat (128+n % 64)]:=by unfold CY Lv;rw[Amt d,Amt f,Aiv g];rfl
    refine⟨_,_,e,?_⟩;rw[e] at hI⊢;unfold Eb;rw[Ms (by omega)];have a:decide (((224+n / 4096:Nat):Int)<128)=false:=decide_eq_false (by omega);have b:(decide (((224+n / 4096:Nat):Int)>=192)&&decide (((224+n / 4096:Nat):Int)<224))=false:=by rw[decide_eq_false (p:=((224+n / 4096:Nat):Int)<224) (by omega),Am0]
    have c3:(decide (((224+n / 4096:Nat):Int)>=224)&&decide (((224+n / 4096:Nat):Int)<240))=true:=by rw[decide_eq_true (p:=((224+n / 4096:Nat):Int)>=224) (by omega),decide_eq_true (p:=((224+n / 4096:Nat):Int)<240) (by omega)];rfl
    rw[a,Amt (by simp),b,Amt (by simp),c3,Aiv rfl];exact No (by simp) rfl (by rw[show 3-1=1+1 from rfl];show Eh (1+1) (UInt8.ofNat (128+n / 64 % 64)::UInt8.ofNat (128+n % 64)::t) _=_;rw[Gb _ (Az5 _ (by omega)),show 1=0+1 from rfl,Gb _ (Az5 _ (by omega)),GK];exact Ayb some (by omega)) hp (by rw[hI];rfl)
   .have e:CY n=[UInt8.ofNat (240+n / 262144),UInt8.ofNat (128+n / 4096 % 64),UInt8.ofNat (128+n / 64 % 64),UInt8.ofNat (128+n % 64)]:=by unfold CY Lv;rw[Amt d,Amt f,Amt g];rfl
    refine⟨_,_,e,?_⟩;rw[e] at hI⊢;unfold Eb;rw[Ms (by omega)];have a:decide (((240+n / 262144:Nat):Int)<128)=false:=decide_eq_false (by omega);have b:(decide (((240+n / 262144:Nat):Int)>=192)&&decide (((240+n / 262144:Nat):Int)<224))=false:=by rw[decide_eq_false (p:=((240+n / 262144:Nat):Int)<224) (by omega),Am0]
    have c3:(decide (((240+n / 262144:Nat):Int)>=224)&&decide (((240+n / 262144:Nat):Int)<240))=false:=by rw[decide_eq_false (p:=((240+n / 262144:Nat):Int)<240) (by omega),Am0]
    have i:(decide (((240+n / 262144:Nat):Int)>=240)&&decide (((240+n / 262144:Nat):Int)<248))=true:=by rw[decide_eq_true (p:=((240+n / 262144:Nat):Int)>=240) (by omega),decide_eq_true (p:=((240+n / 262144:Nat):Int)<248) (by omega)];rfl
    rw[a,Amt (by simp),b,Amt (by simp),c3,Amt (by simp),i,Aiv rfl];exact No (by simp) rfl (by rw[show 4-1=2+1 from rfl];show Eh (2+1) (UInt8.ofNat (128+n / 4096 % 64)::UInt8.ofNat (128+n / 64 % 64)::UInt8.ofNat (128+n % 64)::t) _=_;rw[Gb _ (Az5 _ (by omega)),show 2=1+1 from rfl,Gb _ (Az5 _ (by omega)),show 1=0+1 from rfl,Gb _ (Az5 _ (by omega)),GK];exact Ayb some (by omega)) hp (by rw[hI];rfl)
theorem sL(l:List Nat)(h:∀n∈l,NP n=true):GF (C3 l)=HH l:=by
 induction l with
 | nil=>rfl
 | cons n l g=>
  obtain⟨c,r,a,b⟩:=bK n (h n (by simp)) (C3 l);have e:C3 (n::l)=c::(r++C3 l):=by rw[Cu,a];rfl
  unfold GF;rw[e,Aa8,Es,b];have d:(c::(r++C3 l)).drop ((CY n).length:Int).toNat=C3 l:=by rw[show((CY n).length:Int).toNat=(c::r).length by rw[a];simp,<-AsT,AzP]
  simp only;rw[d,Nj _ _ (by simp)];show(n:Int)::GF (C3 l)=_;rw[g λm f=>h m (by simp[f])];rfl
theorem aU{t:Ad}(h:U8 t):((GF t).filter EW).flatMap FF=Em t:=by obtain⟨l,a,rfl⟩:=h;rw[sL l a,Ff l a];unfold HH;rw[List.filter_map];show((l.filter EJ).map λn:Nat=>(n:Int)).flatMap FF=_;unfold C3;rw[List.flatMap_map,show(λn:Nat=>FF (n:Int))=CY from funext M6]
theorem AhJ{n:Int}(h:Br n=true):∃m:Nat,n=m/\NP m=true:=by obtain⟨a,b⟩:=yZ h;refine⟨n.toNat,by omega,?_⟩;rw[<-IJ,show((n.toNat:Nat):Int)=n by omega];exact h
theorem V6:∀l:List Int,(∀x∈l,Br x=true)->U8 (M7 l)
 | [],_=>U8.nil
 | x::l,h=>by have b:M7 (x::l)=vF x++M7 l:=rfl;obtain⟨m,rfl,c⟩:=AhJ (h x (by simp));rw[b];refine U8.app ?_ (V6 l λy d=>h y (by simp[d]));unfold vF;rw[h _ (by simp),Aiv rfl,M6];exact⟨[m],λn a=>by simp at a;rw[a];exact c,by simp[C3]⟩
theorem LV{s:Ad}(h:KK s=true):U8 s:=by
 unfold KK at h;have a:M7 (GF s)=s:=by simpa using h
 rw[<-a];exact V6 _ (WV s)
end Go.Ir

namespace Go.Ir
open Go.Proofs
variable(O:World)
theorem AdZ(l:List Ad):∀y∈l.map V.s,y.ok=true:=by intro y a;obtain⟨x,_,rfl⟩:=Awt.1 a;rfl
def Of(n:Int):Bool:=decide (n>=97)&&decide (n<=122)||decide (n>=65)&&decide (n<=90)||decide (n>=48)&&decide (n<=57)||n==45||n==95
theorem Aal(n:Int):An π O 91 [.i .u8 n] [] (.b (Of n)) []:=by
 generalize hS:Of n=S;unfold Of at hS;refine Ah (vs:=[.b S]) AoC (by simp) (by simp) λn0 a=>?_;clear a;simp only[push_cast,seval,rq]
 repeat' (first|(((first|apply Ac|apply Af|apply Ag)<;>intro _h)<;>simp only[push_cast,seval,rq,_h])|intro _)
 all_goals subst hS
 all_goals (refine Ae ?_;simp only[By,Agp,AfT, *,bq,rq,AmS,Am0,Amq,Amr,Atc,AsM,Atd,Asc,Agw];done)
def JE(s:Ad):Nat:=(s.takeWhile λc=>Of c.toNat).length
theorem AaK(s:Ad)(h:s.length<=2^30):An π O 66 [.s s] [] (.i .i64 (JE s)) []:=by
 generalize hS:JE s=S;refine Ah (vs:=[.i .i64 S]) Anf (by simp) (by simp) λn0 e=>?_;clear e;simp only[push_cast,seval,rq];intros;refine Ak s.length (Inv:=λm st=>∃dn a n,s=dn++a/\m=a.length/\dn.length+JE a=S/\st=⟨[(0,.s s),(3,.i .i64 dn.length)],[],n⟩) ⟨_,Aj.refl,[],s,_,rfl,rfl,by rw[<-hS];simp,rfl⟩ ?_;clear hS;rintro m _ ⟨dn,a,n,b,rfl,d,rfl⟩;cases a with
 | nil=>
  have:dn.length=S:=by rw[<-d];simp[JE]
  subst this;simp only[push_cast,seval,rq,b]
  repeat' (first|(((first|apply Ac|apply Af|apply Ag)<;>intro _h)<;>simp only[push_cast,seval,rq,_h])|intro _)
  exact Ae (by simp[get])
 | cons c a=>
  have f:=Ay b;have hp:=Aal O c.toNat;have g:JE (c::a)=if Of c.toNat then JE a+1 else 0:=by unfold JE;rw[List.takeWhile_cons];split<;>rfl
  rw[g] at d;generalize Of c.toNat=A at *;cases A with
  | true=>
   rw[Aiv rfl] at d;simp only[push_cast,seval,rq,b,AZ c (dn:=dn) (by unfold Am;omega)]
   repeat' (first|(((first|apply Ac|apply Af|apply Ag)<;>intro _h)<;>simp only[push_cast,seval,rq,_h,b,AZ c (dn:=dn) (by unfold Am;omega)])|(refine Ab (by exact hp) ?_;simp only[push_cast,seval,rq,b,AZ c (dn:=dn) (by unfold Am;omega)])|intro _)
   exact⟨_,_,Adx _,Aj.refl,dn++[c],a,_,by simp,rfl,by simp;omega,rfl⟩
  | false=>
   rw[Amt (by simp)] at d;have:dn.length=S:=by omega
   subst this;simp only[push_cast,seval,rq,b,AZ c (dn:=dn) (by unfold Am;omega)]
   repeat' (first|(((first|apply Ac|apply Af|apply Ag)<;>intro _h)<;>simp only[push_cast,seval,rq,_h,b,AZ c (dn:=dn) (by unfold Am;omega)])|(refine Ab (by exact hp) ?_;simp only[push_cast,seval,rq,b,AZ c (dn:=dn) (by unfold Am;omega)])|intro _)
   exact Ae (by simp[get])
def Ej(s:Ad):Bool:=!(s==[])&&((JE s:Int)==s.length&&decide ((s.length:Int)<=40))
theorem Y8(s:Ad)(g:s.length<=2^30):An π O 49 [.s s] [] (.b (Ej s)) []:=by
 have f:=AaK O s g;generalize hS:Ej s=S;unfold Ej at hS;generalize JE s=K at *;cases a:(s==[]) with
 | true=>
  rw[a,Amo,Amr] at hS;subst hS;have d:(s !=[])=false:=by rw[bne,a];rfl
  refine Ah (vs:=[.b false]) dO (by simp) (by simp) λn0 c=>?_;clear c;simp only[push_cast,seval,rq,a,d,Amo]
  repeat' (first|(((first|apply Ac|apply Af|apply Ag)<;>intro _h)<;>simp only[push_cast,seval,rq,_h,a,d,Amo])|intro _)
  exact Ae (by simp[get])
 | false=>
  rw[a,Ain,Amq] at hS;have d:(s !=[])=true:=by rw[bne,a];rfl
  cases e:((K:Int)==s.length) with
  | false=>
   rw[e,Amr] at hS;subst hS;refine Ah (vs:=[.b false]) dO (by simp) (by simp) λn0 c=>?_;clear c;simp only[push_cast,seval,rq,a,d,e,Ain]
   repeat' (first|(((first|apply Ac|apply Af|apply Ag)<;>intro _h)<;>simp only[push_cast,seval,rq,_h,a,d,e,Ain])|(refine Ab (by exact f) ?_;simp only[push_cast,seval,rq,a,d,e,Ain])|intro _)
   exact Ae (by simp[get])
  | true=>
   rw[e,Amq] at hS;subst hS;refine Ah (vs:=[.b (decide ((s.length:Int)<=40))]) dO (by simp) (by simp) λn0 c=>?_;clear c;simp only[push_cast,seval,rq,a,d,e,Ain]
   repeat' (first|(((first|apply Ac|apply Af|apply Ag)<;>intro _h)<;>simp only[push_cast,seval,rq,_h,a,d,e,Ain])|(refine Ab (by exact f) ?_;simp only[push_cast,seval,rq,a,d,e,Ain])|intro _)
   exact Ae (by simp[get])
def Dg(s:Ad):Bool:=decide ((s.length:Int)<=400)&&KK s
theorem ZY(s:Ad)(d:s.length<=2^26):An π O 65 [.s s] [] (.b (Dg s)) []:=by
 have c:=HR O s d;generalize hS:Dg s=S;unfold Dg at hS;generalize KK s=K at *;refine Ah (vs:=[.b S]) Aqf (by simp) (by simp) λn0 a=>?_;clear a;simp only[push_cast,seval,rq]
 repeat' (first|(((first|apply Ac|apply Af|apply Ag)<;>intro _h)<;>simp only[push_cast,seval,rq,_h])|(refine Ab (by exact c) ?_;simp only[push_cast,seval,rq])|intro _)
 all_goals subst hS
 all_goals (first|(refine Ae ?_;simp[get, *]<;>(intros;omega);done)|(refine Ai ?_;simp[push_cast,get, *];done)|skip)
theorem M8(l:List Ad)(s:Ad)(g:l.length<=2^40):An π O 44 [.sl (l.map V.s),.s s] [] (.b (l.contains s)) []:=by
 generalize hS:l.contains s=S;refine Ah (vs:=[.b S]) AfH (by simp) (by simp) λn0 e=>?_;clear e;simp only[push_cast,seval,rq];intros;refine Ak l.length (Inv:=λm st=>∃dn a n,l=dn++a/\m=a.length/\a.contains s=S/\st=⟨[(0,.sl (l.map V.s)),(1,.s s),(5,.i .i64 dn.length)],[],n⟩) ⟨_,Aj.refl,[],l,_,rfl,rfl,hS,rfl⟩ ?_;clear hS;rintro m _ ⟨dn,a,n,d,rfl,c,rfl⟩;cases a with
 | nil=>
  subst c;simp only[push_cast,seval,rq,d]
  repeat' (first|(((first|apply Ac|apply Af|apply Ag)<;>intro _h)<;>(simp only[push_cast,seval,rq,_h];try (have _g:=_h;simp at _g)))|intro _)
  all_goals (first|(refine Ae ?_;simp[get]<;>(intros;omega);done)|(refine Ai ?_;simp[push_cast,get];done)|skip)
 | cons x a=>
  have f:=Ay d;rw[A0w,Bool.beq_comm] at c;simp only[push_cast,seval,rq,d,Aa x (dn:=dn) (by omega)]
  repeat' (first|(((first|apply Ac|apply Af|apply Ag)<;>intro _h)<;>(simp only[push_cast,seval,rq,_h,d,Aa x (dn:=dn) (by omega)];try (have _g:=_h;simp at _g)))|intro _)
  all_goals (first|(exact⟨_,_,Adx _,Aj.refl,dn++[x],a,_,by simp,rfl,by rw[<-c];simp[*],rfl⟩)|skip)
  all_goals subst c
  all_goals (first|(refine Ae ?_;simp[get, *]<;>(intros;omega);done)|(refine Ai ?_;simp[push_cast,get, *];done)|skip)
theorem Zq(l:List Ad)(s:Ad)(id:Id)(p:l.length<=2^40):An π O 44 [.arr id,.s s] [(id,.arr 9 1 (l.map V.s))] (.b (l.contains s)) [(id,.arr 9 1 (l.map V.s))]:=by
 generalize hS:l.contains s=S;refine Ah (vs:=[.b S]) AfH (by simp) Ajx λn0 o=>?_;clear o;simp only[push_cast,seval,rq];intros;refine Ak l.length (Inv:=λm st=>∃dn a n,l=dn++a/\m=a.length/\a.contains s=S/\st=⟨[(0,.arr id),(1,.s s),(5,.i .i64 dn.length)],[(id,.arr 9 1 (l.map V.s))],n⟩) ⟨_,Aj.refl,[],l,_,rfl,rfl,hS,rfl⟩ ?_;clear hS;rintro m _ ⟨dn,a,n,j,rfl,f,rfl⟩;cases a with
 | nil=>
  subst f;have c:decide ((dn.length:Int)<(l.length:Int))=false:=by rw[j];simp
  simp only[push_cast,seval,rq,c,AaT]
  repeat' (first|(((first|apply Ac|apply Af|apply Ag)<;>intro _h)<;>simp only[push_cast,seval,rq,_h,c,AaT])|intro _)
  exact AC (by simp[get]) (λi e h=>h)
 | cons x a=>
  have d:=Ay j;have c:decide ((dn.length:Int)<(l.length:Int))=true:=by rw[j];simp;omega
  have k:(l.map V.s)[dn.length]?=some (.s x):=by rw[j,AtX,At8 (by simp)];simp
  rw[A0w,Bool.beq_comm] at f;cases g:(x==s) with
  | true=>
   rw[g,Atd] at f;subst f;simp only[push_cast,seval,rq,c,k,Aiv d,AaT,g,Aa x (dn:=dn) (by omega)]
   repeat' (first|(((first|apply Ac|apply Af|apply Ag)<;>intro _h)<;>simp only[push_cast,seval,rq,_h,c,k,Aiv d,AaT,g,Aa x (dn:=dn) (by omega)])|intro _)
   exact AC (by simp[get]) (λi e h=>h)
  | false=>
   rw[g,Asc] at f;simp only[push_cast,seval,rq,c,k,Aiv d,AaT,g,Aa x (dn:=dn) (by omega)]
   repeat' (first|(((first|apply Ac|apply Af|apply Ag)<;>intro _h)<;>simp only[push_cast,seval,rq,_h,c,k,Aiv d,AaT,g,Aa x (dn:=dn) (by omega)])|intro _)
   exact⟨_,_,Adx _,Aj.refl,dn++[x],a,_,by rw[j];simp,rfl,f,rfl⟩
theorem UU(l:List Ad)(j:l.length<=2^40)(h:∀s∈l,s.length<=2^26):An π O 28 [.sl (l.map V.s)] [] (.b (l.all Ej)) []:=by
 generalize hS:l.all Ej=S;refine Ah (vs:=[.b S]) Asv (by simp) (by simp) λn0 e=>?_;clear e;simp only[push_cast,seval,rq];intros;refine Ak l.length (Inv:=λm st=>∃dn a n,l=dn++a/\m=a.length/\a.all Ej=S/\st=⟨[(0,.sl (l.map V.s)),(3,.i .i64 dn.length)],[],n⟩) ⟨_,Aj.refl,[],l,_,rfl,rfl,hS,rfl⟩ ?_;clear hS;rintro m _ ⟨dn,a,n,c,rfl,d,rfl⟩;cases a with
 | nil=>
  subst d;simp only[push_cast,seval,rq,c]
  repeat' (first|(((first|apply Ac|apply Af|apply Ag)<;>intro _h)<;>simp only[push_cast,seval,rq,_h])|intro _)
  exact Ae (by simp[get])
 | cons x a=>
  have g:=Ay c;have f:=Y8 O x (by have:=h x (by rw[c];simp);omega);rw[Ax5] at d;generalize Ej x=A at *;cases A
  .rw[Amr] at d;subst d;simp only[push_cast,seval,rq,c,Aa x (dn:=dn) (by omega)]
   repeat' (first|(((first|apply Ac|apply Af|apply Ag)<;>intro _h)<;>simp only[push_cast,seval,rq,_h,c,Aa x (dn:=dn) (by omega)])|(refine Ab (by exact f) ?_;simp only[push_cast,seval,rq,c,Aa x (dn:=dn) (by omega)])|intro _)
   exact Ae (by simp[get])
  .rw[Amq] at d;simp only[push_cast,seval,rq,c,Aa x (dn:=dn) (by omega)]
   repeat' (first|(((first|apply Ac|apply Af|apply Ag)<;>intro _h)<;>simp only[push_cast,seval,rq,_h,c,Aa x (dn:=dn) (by omega)])|(refine Ab (by exact f) ?_;simp only[push_cast,seval,rq,c,Aa x (dn:=dn) (by omega)])|intro _)
   exact⟨_,_,Adx _,Aj.refl,dn++[x],a,_,by simp,rfl,d,rfl⟩
theorem Fw(l:List Ad)(j:l.length<=2^40)(h:∀s∈l,s.length<=2^26):An π O 48 [.sl (l.map V.s)] [] (.b (l.all Dg)) []:=by
 generalize hS:l.all Dg=S;refine Ah (vs:=[.b S]) Aqi (by simp) (by simp) λn0 e=>?_;clear e;simp only[push_cast,seval,rq];intros;refine Ak l.length (Inv:=λm st=>∃dn a n,l=dn++a/\m=a.length/\a.all Dg=S/\st=⟨[(0,.sl (l.map V.s)),(3,.i .i64 dn.length)],[],n⟩) ⟨_,Aj.refl,[],l,_,rfl,rfl,hS,rfl⟩ ?_;clear hS;rintro m _ ⟨dn,a,n,c,rfl,d,rfl⟩;cases a with
 | nil=>
  subst d;simp only[push_cast,seval,rq,c]
  repeat' (first|(((first|apply Ac|apply Af|apply Ag)<;>intro _h)<;>simp only[push_cast,seval,rq,_h])|intro _)
  exact Ae (by simp[get])
 | cons x a=>
  have g:=Ay c;have f:=ZY O x (h x (by rw[c];simp));rw[Ax5] at d;generalize Dg x=A at *;cases A
  .rw[Amr] at d;subst d;simp only[push_cast,seval,rq,c,Aa x (dn:=dn) (by omega)]
   repeat' (first|(((first|apply Ac|apply Af|apply Ag)<;>intro _h)<;>simp only[push_cast,seval,rq,_h,c,Aa x (dn:=dn) (by omega)])|(refine Ab (by exact f) ?_;simp only[push_cast,seval,rq,c,Aa x (dn:=dn) (by omega)])|intro _)
   exact Ae (by simp[get])
  .rw[Amq] at d;simp only[push_cast,seval,rq,c,Aa x (dn:=dn) (by omega)]
   repeat' (first|(((first|apply Ac|apply Af|apply Ag)<;>intro _h)<;>simp only[push_cast,seval,rq,_h,c,Aa x (dn:=dn) (by omega)])|(refine Ab (by exact f) ?_;simp only[push_cast,seval,rq,c,Aa x (dn:=dn) (by omega)])|intro _)
   exact⟨_,_,Adx _,Aj.refl,dn++[x],a,_,by simp,rfl,d,rfl⟩
def Is:List Ad->List Ad->Bool
 | _,[]=>true
 | dn,x::a=>!dn.contains x&&Is (dn++[x]) a
theorem OL(l:List Ad)(p:l.length<=2^40):An π O 63 [.sl (l.map V.s)] [] (.b (Is [] l)) []:=by
 generalize hS:Is [] l=S;refine Ah (vs:=[.b S]) ArQ (by simp) (by simp) λn0 g=>?_;clear g;simp only[push_cast,seval,rq];intros;refine Ak l.length (Inv:=λm st=>∃dn a n,l=dn++a/\m=a.length/\Is dn a=S/\st=⟨[(0,.sl (l.map V.s)),(3,.i .i64 dn.length)],[],n⟩) ⟨_,Aj.refl,[],l,_,rfl,rfl,hS,rfl⟩ ?_;clear hS;rintro m _ ⟨dn,a,n,d,rfl,e,rfl⟩;cases a with
 | nil=>
  rw[Is] at e;subst e;simp only[push_cast,seval,rq,d]
  repeat' (first|(((first|apply Ac|apply Af|apply Ag)<;>intro _h)<;>simp only[push_cast,seval,rq,_h])|intro _)
  exact Ae (by simp[get])
 | cons x a=>
  have k:=Ay d;have j:l.length=dn.length+a.length+1:=by rw[d];simp;omega
  have h:=M8 O dn x (by omega);rw[Is] at e;have c:(∀y:V,y∈List.map V.s (dn++x::a)->(cells y).length=1)=True:=Amy (λy o=>by obtain⟨z,_,rfl⟩:=Awt.1 o;rfl);have f:(List.map V.s dn++V.s x::List.map V.s a).take dn.length=dn.map V.s:=List.take_left' (by simp);generalize dn.contains x=A at *;cases A
  .rw[Ain,Amq] at e;simp only[push_cast,seval,rq,d,f,c,Aa x (dn:=dn) (by omega)]
   repeat' (first|(((first|apply Ac|apply Af|apply Ag)<;>intro _h)<;>simp only[push_cast,seval,rq,_h,d,f,c,Aa x (dn:=dn) (by omega)])|(refine Ab (by exact h) ?_;simp only[push_cast,seval,rq,d,f,c,Aa x (dn:=dn) (by omega)])|intro _)
   exact⟨_,_,Adx _,Aj.refl,dn++[x],a,_,by simp,rfl,e,rfl⟩
  .rw[Amo,Amr] at e;subst e;simp only[push_cast,seval,rq,d,f,c,Aa x (dn:=dn) (by omega)]
   repeat' (first|(((first|apply Ac|apply Af|apply Ag)<;>intro _h)<;>simp only[push_cast,seval,rq,_h,d,f,c,Aa x (dn:=dn) (by omega)])|(refine Ab (by exact h) ?_;simp only[push_cast,seval,rq,d,f,c,Aa x (dn:=dn) (by omega)])|intro _)
   exact Ae (by simp[get])
def GT(l:List AH):Bool:=(l.all λr=>kFive.contains r.cls&&EU r.cond)&&Is [] (l.map (·.cls))
theorem Nc(l:List AH)(G:A9 l<=2^30):An π O 45 [.sl (l.map AH.enc)] [] (.b (GT l)) []:=by
 generalize hS:GT l=S;unfold GT at hS;have x:=ED l;have h:=Uf O;have o:=OL O (l.map (·.cls)) (by rw[AaT];omega);generalize Is [] (l.map (·.cls))=D at *;refine Ah (vs:=[.b S]) Aqw (by simp) (by simp) λn0 q=>?_;clear q;simp only[push_cast,seval,rq];intro k1 k2 k3;generalize n0+1+k1+1+k2+1+k3=y at *;refine Ak l.length (Inv:=λm st=>∃dn a n id,l=dn++a/\m=a.length/\((a.all λr=>kFive.contains r.cls&&EU r.cond)&&D)=S/\id.1<n/\st=⟨[(0,.sl (l.map AH.enc)),(3,.arr id),(4,.i .i64 dn.length)],[(id,.arr 9 1 ((dn.map (·.cls)).map V.s))],n⟩) ⟨_,(Aj.own (s:=3) (e:=9) (sz:=1) (k:=0) rfl).trans (Aj.envD (env':=[(0,.sl (l.map AH.enc)),(3,.arr (y,0)),(4,.i .i64 0)]) (λt=>?_) (AfJ _)),[],l,_,(y,0),rfl,rfl,hS,by simp only;omega,rfl⟩ ?_
 .left;simp only[get];by_cases w:0=t
  .simp[<-w]
  .by_cases z:3=t<;>simp[w,z]
 clear hS;rintro m _ ⟨dn,a,n,id,c,rfl,g,E,rfl⟩;cases a with
 | nil=>
  simp only[Az0,Amq] at g;subst g;rw[AmY] at c;subst c;have f:decide ((l.length:Int)<(l.length:Int))=false:=by simp
  simp only[push_cast,seval,rq,f,AaT]
  repeat' (first|(((first|apply Ac|apply Af|apply Ag)<;>intro _h)<;>simp only[push_cast,seval,rq,_h,f,AaT])|intro _)
  refine GZ (Aj.frzAt (s:=3) (id:=id) rfl (by simp[lk]) (AdZ _) (AfJ _)) ?_;simp only[push_cast,seval,rq,f,AaT]
  repeat' (first|(((first|apply Ac|apply Af|apply Ag)<;>intro _h)<;>simp only[push_cast,seval,rq,_h,f,AaT])|(refine Ab (by exact o) ?_;simp only[push_cast,seval,rq,f,AaT])|intro _)
  exact Ae (by simp[get])
 | cons r a=>
  have C:=Ay c;have F:=E9 (l:=l) (r:=r) (by rw[c];simp);rw[AH.wt] at F;have d:=M8 O kFive r.cls (by decide);have j:=dD O r.cond (by omega);have p:l.length=dn.length+a.length+1:=by rw[c];simp;omega
  have hL:(dn.length+1<=AM)=True:=Amy (by unfold AM;omega);have u:(dn.map (·.cls)).map V.s++[V.s r.cls]=((dn++[r]).map (·.cls)).map V.s:=by simp
  rw[Ax5] at g;generalize kFive.contains r.cls=A at *;generalize EU r.cond=B at *;cases A with
  | false=>
   simp only[Amr] at g;subst g;simp only[push_cast,seval,rq,c,hL,AaT,Aa r (dn:=dn) (by omega)]
   repeat' (first|(((first|apply Ac|apply Af|apply Ag)<;>intro _h)<;>simp only[push_cast,seval,rq,_h,c,hL,AaT,Aa r (dn:=dn) (by omega)])|((first|refine Ab (by exact h) ?_|refine Ab (by exact d) ?_);simp only[push_cast,seval,rq,c,hL,AaT,Aa r (dn:=dn) (by omega)])|intro _)
   exact Ae (by simp[get])
  | true=>
   cases B with
   | false=>
    simp only[Amq,Amr] at g;subst g;simp only[push_cast,seval,rq,c,hL,AaT,Aa r (dn:=dn) (by omega)]
    repeat' (first|(((first|apply Ac|apply Af|apply Ag)<;>intro _h)<;>simp only[push_cast,seval,rq,_h,c,hL,AaT,Aa r (dn:=dn) (by omega)])|((first|refine Ab (by exact h) ?_|refine Ab (by exact d) ?_|refine Ab (by exact j) ?_);simp only[push_cast,seval,rq,c,hL,AaT,Aa r (dn:=dn) (by omega)])|intro _)
    exact Ae (by simp[get])
   | true=>
    simp only[Amq] at g;simp only[push_cast,seval,rq,c,hL,AaT,Aa r (dn:=dn) (by omega)]
    repeat' (first|(((first|apply Ac|apply Af|apply Ag)<;>intro _h)<;>simp only[push_cast,seval,rq,_h,c,hL,AaT,Aa r (dn:=dn) (by omega)])|((first|refine Ab (by exact h) ?_|refine Ab (by exact d) ?_|refine Ab (by exact j) ?_);simp only[push_cast,seval,rq,c,hL,AaT,Aa r (dn:=dn) (by omega)])|intro _)
    rw[u];exact⟨_,_,Adx _,Aj.refl,dn++[r],a,_,_,by simp,rfl,g,by simp only;omega,rfl⟩
def Sw(d g m p:Ad)(a b:Int):Bool:=d==[]&&(g==[]&&(m==[]&&(p==[]&&(a==0&&b==0))))
theorem Aa2(d g m p:Ad)(a b:Int):FT (.eqs false [(0,.str),(1,.str),(2,.str),(3,.str),(4,.int),(5,.int)]) [.agg [.s d,.s g,.s m,.s p,.i .i64 a,.i .i64 b],.agg [.s [],.s [],.s [],.s [],.i .i64 0,.i .i64 0]]=some (.b (Sw d g m p a b)):=by
 unfold Sw;simp only[FT,zH,Azu,AxR,DR,Agp];cases(d==[])<;>try rfl
 cases(g==[])<;>try rfl
 cases(m==[])<;>try rfl
 cases(p==[])<;>try rfl
 cases(a==0)<;>try rfl
 cases(b==0)<;>rfl
def OY(d g m p:Ad)(a b:Int):Bool:=Sw d g m p a b||(!(d==[])&&([d,g,m,p].all Dg&&(decide (a>=0)&&(decide (a<=9)&&(decide (b>=0)&&decide (b<=9))))))
theorem y8(d g m p:Ad)(a b:Int)(h:d.length<=2^26/\g.length<=2^26/\m.length<=2^26/\p.length<=2^26):An π O 46 [.agg [.s d,.s g,.s m,.s p,.i .i64 a,.i .i64 b]] [] (.b (OY d g m p a b)) []:=by
 have f:=Aa2 d g m p a b;have o:=Fw O [d,g,m,p] (by simp) (by intro s l;simp at l;rcases l with rfl|rfl|rfl|rfl;exact h.1;exact h.2.1;exact h.2.2.1;exact h.2.2.2);simp only[Am1,Asz] at o;generalize hS:OY d g m p a b=S;unfold OY at hS;generalize Sw d g m p a b=E at *;generalize[d,g,m,p].all Dg=T at *;cases E with
 | true=>
  rw[Atd] at hS;subst hS;refine Ah (vs:=[.b true]) uX (by simp) (by simp) λn0 e=>?_;clear e;simp only[push_cast,seval,rq,f]
  repeat' (first|(((first|apply Ac|apply Af|apply Ag)<;>intro _h)<;>simp only[push_cast,seval,rq,_h,f])|intro _)
  exact Ae (by simp[get])
 | false=>
  rw[Asc] at hS;cases c:(d==[]) with
  | true=>
   rw[c,Amo,Amr] at hS;subst hS;have j:(d !=[])=false:=by rw[bne,c];rfl
   refine Ah (vs:=[.b false]) uX (by simp) (by simp) λn0 e=>?_;clear e;simp only[push_cast,seval,rq,f,c,j,Amo]
   repeat' (first|(((first|apply Ac|apply Af|apply Ag)<;>intro _h)<;>simp only[push_cast,seval,rq,_h,f,c,j,Amo])|intro _)
   exact Ae (by simp[get])
  | false=>
   rw[c,Ain,Amq] at hS;have j:(d !=[])=true:=by rw[bne,c];rfl
   cases T<;>cases q1:decide (a>=0)<;>cases q2:decide (a<=9)<;>cases q3:decide (b>=0)<;>cases k:decide (b<=9)
   all_goals simp only[q1,q2,q3,k,AmS,Am0,Amq,Amr,Bool.and_self] at hS
   all_goals subst hS
   all_goals refine Ah (vs:=[.b _]) uX (by simp) (by simp) λn0 e=>?_
   all_goals clear e
   all_goals simp only[push_cast,seval,rq,f,c,j,Amo,f,c,j,q1,q2,q3,k,Ain]
   all_goals repeat' (first|(((first|apply Ac|apply Af|apply Ag)<;>intro _h)<;>simp only[push_cast,seval,rq,_h,f,c,j,Amo,f,c,j,q1,q2,q3,k,Ain])|(refine Ab (by exact o) ?_;simp only[push_cast,seval,rq,f,c,j,Amo,f,c,j,q1,q2,q3,k,Ain])|intro _)
   all_goals exact Ae (by simp[get])
def Ur(x:Cp):Ad:=[108,105,115,116,32]++x.style
def bW(x:De):Ad:=[117,110,105,116,32]++x.unit++[32]++x.cls
def Va(x:CJ):Ad:=[100,97,116,101,32]++x.skel
def GB(L:Ce):List Ad:=L.lists.map Ur++L.units.map bW++L.dates.map Va
theorem Cp.sz_eq(x:Cp):x.sz=x.style.length+x.two.length+x.start.length+x.mid.length+x.fin.length+150:=by unfold Cp.sz E6;simp only[Bt,Gp];omega
theorem De.sz_eq(x:De):x.sz=x.unit.length+x.cls.length+x.pat.length+90:=by unfold De.sz E6;simp only[Bt,Gp];omega
theorem CJ.sz_eq(x:CJ):x.sz=x.skel.length+x.pat.length+60:=by unfold CJ.sz E6;simp only[Bt,Gp];omega
structure Aji (L:Ce):Prop where
 l1:L.lists.length<=2^20
 l2:L.units.length<=2^20
 l3:L.dates.length<=2^20
 s1:∀x∈L.lists,x.sz<=2^20
 s2:∀x∈L.units,x.sz<=2^20
 s3:∀x∈L.dates,x.sz<=2^20
theorem AuE{L:Ce}(h:Jr L<=2^20):Aji L:=by
 have b:L.lists.length<=Bt Cp.sz L.lists:=CX (λx=>by rw[x.sz_eq];omega) _;have c:L.units.length<=Bt De.sz L.units:=CX (λx=>by rw[x.sz_eq];omega) _;have d:L.dates.length<=Bt CJ.sz L.dates:=CX (λx=>by rw[x.sz_eq];omega) _;unfold Jr at h;refine⟨by omega,by omega,by omega,λx a=>?_,λx a=>?_,λx a=>?_⟩
 .have:=Jj (f:=Cp.sz) a;omega
 .have:=Jj (f:=De.sz) a;omega
 .have:=Jj (f:=CJ.sz) a;omega
theorem ZG(L:Ce)(X:Aji L):An π O 64 [L.enc] [] (.sl ((GB L).map V.s)) []:=by
 generalize hS:GB L=S;unfold GB at hS;obtain⟨J,K,b3,R,T,Z⟩:=X;rw[Ce.enc_eq];refine Ah (vs:=[.sl (S.map V.s)]) ArR (by simp) (by simp) λn0 F=>?_;clear F;simp only[push_cast,seval,rq];intro k1 k2 k3;obtain⟨x,G⟩:∃x:Id,(n0,1)=x:=⟨_,rfl⟩
 have I:x.1<n0+1+k1+1+k2+1+k3:=by rw[<-G];simp only;omega
 rw[G];generalize n0+1+k1+1+k2+1+k3=N at *;generalize hB:V.agg [.s L.tag,.s L.parent,.s L.dir,.sl (L.card.map AH.enc),.sl (L.ord.map AH.enc),.s L.dec,.s L.grp,.s L.minus,.s L.perc,.i .i64 L.prim,.i .i64 L.sec,.sl (L.lists.map Cp.enc),.sl (L.units.map De.enc),.sl (L.dates.map CJ.enc),.sl (L.months.map V.s),.sl (L.days.map V.s)]=z;have C:(cells z)[11]?=some (.sl (L.lists.map Cp.enc)):=by rw[<-hB];rfl
 have D:(cells z)[12]?=some (.sl (L.units.map De.enc)):=by rw[<-hB];rfl
 have A:(cells z)[13]?=some (.sl (L.dates.map CJ.enc)):=by rw[<-hB];rfl
 clear hB G;refine Ak L.lists.length (Inv:=λm st=>∃dn a n id out,L.lists=dn++a/\m=a.length/\out++a.map Ur++L.units.map bW++L.dates.map Va=S/\out.length<=dn.length/\x.1<id.1/\id.1<n/\st=⟨[(1,.ref x 0),(3,.arr id),(4,.i .i64 dn.length)],[(id,.arr 9 1 (out.map V.s)),(x,.box z)],n⟩) ⟨_,(Aj.own (s:=3) (e:=9) (sz:=1) (k:=0) rfl).trans (Aj.envD (env':=[(1,.ref x 0),(3,.arr (N,0)),(4,.i .i64 0)]) (λt=>?_) (AfJ _)),[],L.lists,_,(N,0),[],rfl,rfl,by rw[<-hS,Aub],by simp,by simp only;omega,by simp only;omega,rfl⟩ ?_
 .left;simp only[get];by_cases M:1=t
  .simp[<-M]
  .by_cases U:3=t<;>simp[M,U]
 clear hS I;rintro m _ ⟨dn,a,n,id,out,c,rfl,h,E,j,i2,rfl⟩;have g:(id=x)=False:=Amp λl=>by rw[l] at j;omega
 have f:(x=id)=False:=Amp λl=>by rw[l] at j;omega
 cases a with
 | cons y a=>
  have d:=Ay c;have b:decide ((dn.length:Int)<(L.lists.length:Int))=true:=by rw[c];simp;omega
  have p:(L.lists.map Cp.enc)[dn.length]?=some (.agg [.s y.style,.s y.two,.s y.start,.s y.mid,.s y.fin]):=by rw[c,AtX,At8 (by simp)];simp[Cp.enc]
  have B:=R y (by rw[c];simp);rw[y.sz_eq] at B;have o:(5+y.style.length<=Am)=True:=Amy (by unfold Am;omega);have hL:(out.length+1<=AM)=True:=Amy (by unfold AM;omega);have Y:out.map V.s++[V.s ([108,105,115,116,32]++y.style)]=(out++[Ur y]).map V.s:=by simp[Ur]
  simp only[push_cast,seval,rq,C,b,p,Aiv d,AaT,g,f,o,hL,Aa y (dn:=dn) (by omega)]
  repeat' (first|(((first|apply Ac|apply Af|apply Ag)<;>intro _h)<;>simp only[push_cast,seval,rq,_h,C,b,p,Aiv d,AaT,g,f,o,hL,Aa y (dn:=dn) (by omega)])|intro _)
  rw[show List.map V.s out++[V.s (108::105::115::116::32::y.style)]=List.map V.s (out++[Ur y]) by simp[Ur]];exact⟨_,_,Adx _,Aj.refl,dn++[y],a,_,_,out++[Ur y],by rw[c];simp,rfl,by rw[<-h];simp,by simp;omega,by simp only;omega,by simp only;omega,rfl⟩
 | nil=>
 rw[AmY] at c;have b:decide ((dn.length:Int)<(L.lists.length:Int))=false:=by rw[c];simp
 rw[Asz,AmY] at h;simp only[push_cast,seval,rq,C,b,AaT,g,f];intros;have w:out.length<=2^20:=by rw[c] at J;omega
 clear c E b C J R;refine Ak L.units.length (Inv:=λm st=>∃dn a n id out,L.units=dn++a/\m=a.length/\out++a.map bW++L.dates.map Va=S/\out.length<=2^20+dn.length/\x.1<id.1/\id.1<n/\st=⟨[(1,.ref x 0),(3,.arr id),(5,.i .i64 dn.length)],[(id,.arr 9 1 (out.map V.s)),(x,.box z)],n⟩) ⟨_,Aj.refl,[],L.units,_,id,out,rfl,rfl,h,by simp;omega,j,by omega,rfl⟩ ?_;clear h g f j i2 w;rintro m _ ⟨dn,a,n,id,out,c,rfl,h,E,j,i2,rfl⟩;have g:(id=x)=False:=Amp λl=>by rw[l] at j;omega
 have f:(x=id)=False:=Amp λl=>by rw[l] at j;omega
 cases a with
 | cons y a=>
  have d:=Ay c;have b:decide ((dn.length:Int)<(L.units.length:Int))=true:=by rw[c];simp;omega
  have p:(L.units.map De.enc)[dn.length]?=some (.agg [.s y.unit,.s y.cls,.s y.pat]):=by rw[c,AtX,At8 (by simp)];simp[De.enc]
  have B:=T y (by rw[c];simp);rw[y.sz_eq] at B;have q:(5+y.unit.length<=Am)=True:=Amy (by unfold Am;omega);have r:(y.unit.length+1+1+1+1+1+1<=Am)=True:=Amy (by unfold Am;omega);have u:((y.unit++[32]).length+1+1+1+1+1+y.cls.length<=Am)=True:=Amy (by unfold Am;rw[Aaf];simp only[Aa8,Adu];omega);have hL:(out.length+1<=AM)=True:=Amy (by unfold AM;omega);simp only[push_cast,seval,rq,D,b,p,Aiv d,AaT,g,f,q,r,u,hL,Aa y (dn:=dn) (by omega)]
  repeat' (first|(((first|apply Ac|apply Af|apply Ag)<;>intro _h)<;>simp only[push_cast,seval,rq,_h,D,b,p,Aiv d,AaT,g,f,q,r,u,hL,Aa y (dn:=dn) (by omega)])|intro _)
  rw[show List.map V.s out++[V.s (117::110::105::116::32::(y.unit++[32]++y.cls))]=List.map V.s (out++[bW y]) by simp[bW]];exact⟨_,_,Adx _,Aj.refl,dn++[y],a,_,_,out++[bW y],by rw[c];simp,rfl,by rw[<-h];simp,by simp;omega,by simp only;omega,by simp only;omega,rfl⟩
 | nil=>
 rw[AmY] at c;have b:decide ((dn.length:Int)<(L.units.length:Int))=false:=by rw[c];simp
 rw[Asz,AmY] at h;simp only[push_cast,seval,rq,D,b,AaT,g,f];intros;have w:out.length<=2^21:=by rw[c] at K;omega
 clear c E b D K T;refine Ak L.dates.length (Inv:=λm st=>∃dn a n id out,L.dates=dn++a/\m=a.length/\out++a.map Va=S/\out.length<=2^21+dn.length/\x.1<id.1/\id.1<n/\st=⟨[(1,.ref x 0),(3,.arr id),(6,.i .i64 dn.length)],[(id,.arr 9 1 (out.map V.s)),(x,.box z)],n⟩) ⟨_,Aj.refl,[],L.dates,_,id,out,rfl,rfl,h,by simp;omega,j,by omega,rfl⟩ ?_;clear h g f j i2 w;rintro m _ ⟨dn,a,n,id,out,c,rfl,h,E,j,i2,rfl⟩;have g:(id=x)=False:=Amp λl=>by rw[l] at j;omega
 have f:(x=id)=False:=Amp λl=>by rw[l] at j;omega
 cases a with
 | cons y a=>
  have d:=Ay c;have b:decide ((dn.length:Int)<(L.dates.length:Int))=true:=by rw[c];simp;omega
  have p:(L.dates.map CJ.enc)[dn.length]?=some (.agg [.s y.skel,.s y.pat]):=by rw[c,AtX,At8 (by simp)];simp[CJ.enc]
  have B:=Z y (by rw[c];simp);rw[y.sz_eq] at B;have o:(5+y.skel.length<=Am)=True:=Amy (by unfold Am;omega);have hL:(out.length+1<=AM)=True:=Amy (by unfold AM;omega);simp only[push_cast,seval,rq,A,b,p,Aiv d,AaT,g,f,o,hL,Aa y (dn:=dn) (by omega)]
  repeat' (first|(((first|apply Ac|apply Af|apply Ag)<;>intro _h)<;>simp only[push_cast,seval,rq,_h,A,b,p,Aiv d,AaT,g,f,o,hL,Aa y (dn:=dn) (by omega)])|intro _)
  rw[show List.map V.s out++[V.s (100::97::116::101::32::y.skel)]=List.map V.s (out++[Va y]) by simp[Va]];exact⟨_,_,Adx _,Aj.refl,dn++[y],a,_,_,out++[Va y],by rw[c];simp,rfl,by rw[<-h];simp,by simp;omega,by simp only;omega,by simp only;omega,rfl⟩
 | nil=>
 rw[AmY] at c;have b:decide ((dn.length:Int)<(L.dates.length:Int))=false:=by rw[c];simp
 rw[Asz,AmY] at h;subst h;simp only[push_cast,seval,rq,A,b,AaT,g,f];intros;refine GZ (Aj.frzAt (s:=3) (id:=id) rfl (by simp[lk,f]) (AdZ _) (AfJ _)) ?_;simp only[push_cast,seval,rq,A,b,AaT,g,f]
 repeat' (first|(((first|apply Ac|apply Af|apply Ag)<;>intro _h)<;>simp only[push_cast,seval,rq,_h,A,b,AaT,g,f])|intro _)
 exact Ae (by simp[get])
def oL(x:Cp):Bool:=Ej x.style&&[x.two,x.start,x.mid,x.fin].all Dg
def oU(x:De):Bool:=Ej x.unit&&((kFive++[Cb]).contains x.cls&&Dg x.pat)
def oD(x:CJ):Bool:=Ej x.skel&&Dg x.pat
def Ov(L:Ce):Bool:=L.lists.all oL&&(L.units.all oU&&(L.dates.all oD&&(Is [] (GB L)&&(decide ((L.lists.length:Int)<=10)&&(decide ((L.units.length:Int)<=100)&&decide ((L.dates.length:Int)<=30))))))
theorem Jp(s:Ad)(h:s.length<=2^26):An π O 28 [.sl [.s s]] [] (.b (Ej s)) []:=by have:=UU O [s] (by simp) (by intro x a;simp at a;subst a;exact h);simpa using this
theorem WI(s:Ad)(h:s.length<=2^26):An π O 48 [.sl [.s s]] [] (.b (Dg s)) []:=by have:=Fw O [s] (by simp) (by intro x a;simp at a;subst a;exact h);simpa using this
theorem Ai8{a b:Id×Be}{x:Id}{E:Be}(c:(a.1=x)=False)(d:(b.1=x)=False):∀i e,lk [(x,E)] i=some e->lk [a,b,(x,E)] i=some e:=by
 intro i e h;simp only[lk] at h⊢;split at h
 .rename_i f;subst f;rw[Amt (by rw[c];exact id),Amt (by rw[d];exact id),Aiv rfl];exact h
 .cases h
theorem N7{a k j q:Nat}:(((a,q):Id)=(a+1+k,j))=False:=Amp λh=>by have:=Ayb Prod.fst h;simp only at this;omega
theorem IA{a k j q:Nat}:(((a+1+k,j):Id)=(a,q))=False:=Amp λh=>by have:=Ayb Prod.fst h;simp only at this;omega
theorem sP(L:Ce)(G:Aji L):An π O 47 [L.enc] [] (.b (Ov L)) []:=by
 have Z:=ZG O L G;have aa:(GB L).length<=2^40:=by have:=G.l1;have:=G.l2;have:=G.l3;unfold GB;simp only[Aaf,AaT];omega
 have Y:=OL O (GB L) aa;generalize hS:Ov L=S;unfold Ov at hS;generalize Is [] (GB L)=M at *;generalize GB L=KL at *;obtain⟨b1,b2,b3,s1,s2,s3⟩:=G;rw[Ce.enc_eq] at Z⊢;refine Ah (vs:=[.b S]) AoN (by simp) (by simp) λn0 ab=>?_;clear ab;simp only[push_cast,seval,rq];intro k1 k2;obtain⟨x,hx⟩:∃x:Id,(n0,1)=x:=⟨_,rfl⟩
 have I:x.1<n0+1+k1+1+k2:=by rw[<-hx];simp only;omega
 rw[hx];generalize n0+1+k1+1+k2=n1 at *;generalize hB:V.agg [.s L.tag,.s L.parent,.s L.dir,.sl (L.card.map AH.enc),.sl (L.ord.map AH.enc),.s L.dec,.s L.grp,.s L.minus,.s L.perc,.i .i64 L.prim,.i .i64 L.sec,.sl (L.lists.map Cp.enc),.sl (L.units.map De.enc),.sl (L.dates.map CJ.enc),.sl (L.months.map V.s),.sl (L.days.map V.s)]=E at Z⊢;have u:(cells E)[11]?=some (.sl (L.lists.map Cp.enc)):=by rw[<-hB];rfl
 have r:(cells E)[12]?=some (.sl (L.units.map De.enc)):=by rw[<-hB];rfl
 have w:(cells E)[13]?=some (.sl (L.dates.map CJ.enc)):=by rw[<-hB];rfl
 have T:(cells E).length=16:=by rw[<-hB];rfl
 have U:V.agg (cells E)=E:=by rw[<-hB];rfl
 clear hB hx;refine Ak L.lists.length (Inv:=λm st=>∃dn d n,L.lists=dn++d/\m=d.length/\(d.all oL&&(L.units.all oU&&(L.dates.all oD&&(M&&(decide ((L.lists.length:Int)<=10)&&(decide ((L.units.length:Int)<=100)&&decide ((L.dates.length:Int)<=30)))))))=S/\x.1<n/\st=⟨[(1,.ref x 0),(3,.i .i64 dn.length)],[(x,.box E)],n⟩) ⟨_,Aj.refl,[],L.lists,_,rfl,rfl,hS,I,rfl⟩ ?_;clear hS I;rintro m _ ⟨dn,d,n,p,rfl,l,N,rfl⟩;cases d with
 | cons y d=>
  have f:=Ay p;have a:decide ((dn.length:Int)<(L.lists.length:Int))=true:=by rw[p];simp;omega
  have o:(L.lists.map Cp.enc)[dn.length]?=some (.agg [.s y.style,.s y.two,.s y.start,.s y.mid,.s y.fin]):=by rw[p,AtX,At8 (by simp)];simp[Cp.enc]
  have J:=s1 y (by rw[p];simp);rw[y.sz_eq] at J;have D:=Jp O y.style (by omega);have F:=Fw O [y.two,y.start,y.mid,y.fin] (by simp) (by intro s hs;simp at hs;rcases hs with rfl|rfl|rfl|rfl<;>omega);simp only[Am1,Asz] at F;rw[Ax5] at l;unfold oL at l;have g:∀k j:Nat,((n+1+k,j)=x)=False:=λk j=>Amp λt=>(by have:=Ayb Prod.fst t;(try simp only at this);omega)
  have c:∀k j:Nat,(x=(n+1+k,j))=False:=λk j=>Amp λt=>Axj (g k j) t.symm;generalize Ej y.style=A at *;generalize[y.two,y.start,y.mid,y.fin].all Dg=B at *;cases A with
  | false=>
   simp only[Amr] at l;subst l;simp only[push_cast,seval,rq,u,a,o,Aiv f,AaT,g,c,Aa y (dn:=dn) (by omega)]
   repeat' (first|(((first|apply Ac|apply Af|apply Ag)<;>intro _h)<;>simp only[push_cast,seval,rq,_h,u,a,o,Aiv f,AaT,g,c,Aa y (dn:=dn) (by omega)])|(refine Ab (by exact D) ?_;simp only[push_cast,seval,rq,u,a,o,Aiv f,AaT,g,c,Aa y (dn:=dn) (by omega)])|intro _)
   exact Ae (by simp[get])
  | true=>
   cases B with
   | false=>
    simp only[Amq,Amr] at l;subst l;simp only[push_cast,seval,rq,u,a,o,Aiv f,AaT,g,c,Aa y (dn:=dn) (by omega)]
    repeat' (first|(((first|apply Ac|apply Af|apply Ag)<;>intro _h)<;>simp only[push_cast,seval,rq,_h,u,a,o,Aiv f,AaT,g,c,Aa y (dn:=dn) (by omega)])|((first|refine Ab (by exact D) ?_|refine Ab (by exact F) ?_);simp only[push_cast,seval,rq,u,a,o,Aiv f,AaT,g,c,Aa y (dn:=dn) (by omega)])|intro _)
    exact Ae (by simp[get])
   | true=>
    simp only[Amq] at l;simp only[push_cast,seval,rq,u,a,o,Aiv f,AaT,g,c,Aa y (dn:=dn) (by omega)]
    repeat' (first|(((first|apply Ac|apply Af|apply Ag)<;>intro _h)<;>simp only[push_cast,seval,rq,_h,u,a,o,Aiv f,AaT,g,c,Aa y (dn:=dn) (by omega)])|((first|refine Ab (by exact D) ?_|refine Ab (by exact F) ?_);simp only[push_cast,seval,rq,u,a,o,Aiv f,AaT,g,c,Aa y (dn:=dn) (by omega)])|intro _)
    exact⟨_,_,Adx _,Aj.drop1 (by simp[lk,g,c]) (AfJ _),dn++[y],d,_,by rw[p];simp,rfl,by rw[<-l];rfl,by omega,rfl⟩
 | nil=>
 rw[AmY] at p;have a:decide ((dn.length:Int)<(L.lists.length:Int))=false:=by rw[p];simp
 rw[Az0,Amq] at l;have ah:(L.lists.map Cp.enc).length=L.lists.length:=by simp
 simp only[push_cast,seval,rq,u,a,AaT];intros;clear p a s1;refine Ak L.units.length (Inv:=λm st=>∃dn d n,L.units=dn++d/\m=d.length/\(d.all oU&&(L.dates.all oD&&(M&&(decide ((L.lists.length:Int)<=10)&&(decide ((L.units.length:Int)<=100)&&decide ((L.dates.length:Int)<=30))))))=S/\x.1<n/\st=⟨[(1,.ref x 0),(5,.i .i64 dn.length)],[(x,.box E)],n⟩) ⟨_,Aj.refl,[],L.units,_,rfl,rfl,l,by omega,rfl⟩ ?_;clear l N;rintro m _ ⟨dn,d,n,p,rfl,l,N,rfl⟩;cases d with
 | cons y d=>
  have f:=Ay p;have a:decide ((dn.length:Int)<(L.units.length:Int))=true:=by rw[p];simp;omega
  have o:(L.units.map De.enc)[dn.length]?=some (.agg [.s y.unit,.s y.cls,.s y.pat]):=by rw[p,AtX,At8 (by simp)];simp[De.enc]
  have J:=s2 y (by rw[p];simp);rw[y.sz_eq] at J;have D:=Jp O y.unit (by omega);have F:=WI O y.pat (by omega);have X:=Tg O;rw[Ax5] at l;unfold oU at l;have g:∀k j:Nat,((n+1+k,j)=x)=False:=λk j=>Amp λt=>(by have:=Ayb Prod.fst t;(try simp only at this);omega)
  have c:∀k j:Nat,(x=(n+1+k,j))=False:=λk j=>Amp λt=>Axj (g k j) t.symm;generalize Ej y.unit=A at *;generalize Dg y.pat=B at *;cases A with
  | false=>
   simp only[Amr] at l;subst l;simp only[push_cast,seval,rq,r,a,o,Aiv f,AaT,g,c,Aa y (dn:=dn) (by omega)]
   repeat' (first|(((first|apply Ac|apply Af|apply Ag)<;>intro _h)<;>simp only[push_cast,seval,rq,_h,r,a,o,Aiv f,AaT,g,c,Aa y (dn:=dn) (by omega)])|(refine Ab (by exact D) ?_;simp only[push_cast,seval,rq,r,a,o,Aiv f,AaT,g,c,Aa y (dn:=dn) (by omega)])|intro _)
   exact Ae (by simp[get])
  | true=>
   simp only[push_cast,seval,rq,r,a,o,Aiv f,AaT,g,c,Aa y (dn:=dn) (by omega)]
   repeat' (first|(((first|apply Ac|apply Af|apply Ag)<;>intro _h)<;>simp only[push_cast,seval,rq,_h,r,a,o,Aiv f,AaT,g,c,Aa y (dn:=dn) (by omega)])|(refine Ab (by exact D) ?_;simp only[push_cast,seval,rq,r,a,o,Aiv f,AaT,g,c,Aa y (dn:=dn) (by omega)])|intro _)
   refine AjE X ?_;have hm:kFive.map V.s++[V.s [111,116,104,101,114]]=(kFive++[Cb]).map V.s:=by simp[Cb]
   have hL:(kFive.length+1<=AM)=True:=Amy (by decide);have z:∀k K j:Nat,(x=(n+1+k+1+K,j))=False:=λk K j=>Amp λt=>by have:=Ayb Prod.fst t;simp only at this;omega
   have q:∀k K j:Nat,((n+1+k+1+K,j)=x)=False:=λk K j=>Amp λt=>by have:=Ayb Prod.fst t;simp only at this;omega
   simp only[push_cast,seval,rq,g,c,z,q,N7,IA,hm,hL,r,a,o,Aiv f,AaT,Aa y (dn:=dn) (by omega)];refine Wg (Zq O (kFive++[Cb]) y.cls _ (by decide)) (λi e h=>BA h) ?_;generalize(kFive++[Cb]).contains y.cls=C at *;cases C with
   | false=>
    simp only[Amq,Amr] at l;subst l;simp only[push_cast,seval,rq,r,a,o,g,c]
    repeat' (first|(((first|apply Ac|apply Af|apply Ag)<;>intro _h)<;>simp only[push_cast,seval,rq,_h,r,a,o,g,c])|intro _)
    exact Ae (by simp[get])
   | true=>
    cases B with
    | false=>
     simp only[Amq,Amr] at l;subst l;simp only[push_cast,seval,rq,g,c,z,q,N7,IA]
     repeat' (first|(((first|apply Ac|apply Af|apply Ag)<;>intro _h)<;>simp only[push_cast,seval,rq,_h,g,c,z,q,N7,IA])|(refine Ab (by exact F) ?_;simp only[push_cast,seval,rq,g,c,z,q,N7,IA])|intro _)
     exact Ae (by simp[get])
    | true=>
     simp only[Amq] at l;simp only[push_cast,seval,rq,g,c,z,q,N7,IA,r,a,Aa y (dn:=dn) (by omega)]
     repeat' (first|(((first|apply Ac|apply Af|apply Ag)<;>intro _h)<;>simp only[push_cast,seval,rq,_h,g,c,z,q,N7,IA,r,a,Aa y (dn:=dn) (by omega)])|(refine Ab (by exact F) ?_;simp only[push_cast,seval,rq,g,c,z,q,N7,IA,r,a,Aa y (dn:=dn) (by omega)])|intro _)
     exact⟨_,_,Adx _,Aj.drop (Ai8 (q _ _ _) (g _ _)) (AfJ _),dn++[y],d,_,by rw[p];simp,rfl,by rw[<-l];rfl,by omega,rfl⟩
 | nil=>
 rw[AmY] at p;have a:decide ((dn.length:Int)<(L.units.length:Int))=false:=by rw[p];simp
 rw[Az0,Amq] at l;simp only[push_cast,seval,rq,r,a,AaT];intros;clear p a s2;refine Ak L.dates.length (Inv:=λm st=>∃dn d n,L.dates=dn++d/\m=d.length/\(d.all oD&&(M&&(decide ((L.lists.length:Int)<=10)&&(decide ((L.units.length:Int)<=100)&&decide ((L.dates.length:Int)<=30)))))=S/\x.1<n/\st=⟨[(1,.ref x 0),(7,.i .i64 dn.length)],[(x,.box E)],n⟩) ⟨_,Aj.refl,[],L.dates,_,rfl,rfl,l,by omega,rfl⟩ ?_;clear l N;rintro m _ ⟨dn,d,n,p,rfl,l,N,rfl⟩;cases d with
 | cons y d=>
  have f:=Ay p;have a:decide ((dn.length:Int)<(L.dates.length:Int))=true:=by rw[p];simp;omega
  have o:(L.dates.map CJ.enc)[dn.length]?=some (.agg [.s y.skel,.s y.pat]):=by rw[p,AtX,At8 (by simp)];simp[CJ.enc]
  have J:=s3 y (by rw[p];simp);rw[y.sz_eq] at J;have D:=Jp O y.skel (by omega);have F:=WI O y.pat (by omega);rw[Ax5] at l;unfold oD at l;have g:∀k j:Nat,((n+1+k,j)=x)=False:=λk j=>Amp λt=>(by have:=Ayb Prod.fst t;(try simp only at this);omega)
  have c:∀k j:Nat,(x=(n+1+k,j))=False:=λk j=>Amp λt=>Axj (g k j) t.symm;generalize Ej y.skel=A at *;generalize Dg y.pat=B at *;cases A with
  | false=>
   simp only[Amr] at l;subst l;simp only[push_cast,seval,rq,w,a,o,Aiv f,AaT,g,c,Aa y (dn:=dn) (by omega)]
   repeat' (first|(((first|apply Ac|apply Af|apply Ag)<;>intro _h)<;>simp only[push_cast,seval,rq,_h,w,a,o,Aiv f,AaT,g,c,Aa y (dn:=dn) (by omega)])|(refine Ab (by exact D) ?_;simp only[push_cast,seval,rq,w,a,o,Aiv f,AaT,g,c,Aa y (dn:=dn) (by omega)])|intro _)
   exact Ae (by simp[get])
  | true=>
   cases B with
   | false=>
    simp only[Amq,Amr] at l;subst l;simp only[push_cast,seval,rq,w,a,o,Aiv f,AaT,g,c,Aa y (dn:=dn) (by omega)]
    repeat' (first|(((first|apply Ac|apply Af|apply Ag)<;>intro _h)<;>simp only[push_cast,seval,rq,_h,w,a,o,Aiv f,AaT,g,c,Aa y (dn:=dn) (by omega)])|((first|refine Ab (by exact D) ?_|refine Ab (by exact F) ?_);simp only[push_cast,seval,rq,w,a,o,Aiv f,AaT,g,c,Aa y (dn:=dn) (by omega)])|intro _)
    exact Ae (by simp[get])
   | true=>
    simp only[Amq] at l;simp only[push_cast,seval,rq,w,a,o,Aiv f,AaT,g,c,Aa y (dn:=dn) (by omega)]
    repeat' (first|(((first|apply Ac|apply Af|apply Ag)<;>intro _h)<;>simp only[push_cast,seval,rq,_h,w,a,o,Aiv f,AaT,g,c,Aa y (dn:=dn) (by omega)])|((first|refine Ab (by exact D) ?_|refine Ab (by exact F) ?_);simp only[push_cast,seval,rq,w,a,o,Aiv f,AaT,g,c,Aa y (dn:=dn) (by omega)])|intro _)
    exact⟨_,_,Adx _,Aj.refl,dn++[y],d,_,by rw[p];simp,rfl,by rw[<-l];rfl,by omega,rfl⟩
 | nil=>
 rw[AmY] at p;have a:decide ((dn.length:Int)<(L.dates.length:Int))=false:=by rw[p];simp
 rw[Az0,Amq] at l;clear p s3;generalize g:decide ((L.lists.length:Int)<=10)=t1 at *;generalize z:decide ((L.units.length:Int)<=100)=t2 at *;generalize R:decide ((L.dates.length:Int)<=30)=t3 at *;cases M<;>cases t1<;>cases t2
 all_goals simp only[AmS,Am0,Amq,Amr] at l
 all_goals subst l
 all_goals simp only[push_cast,seval,rq,u,r,w,T,U,a,g,z,R,AaT]
 all_goals repeat' (first|(((first|apply Ac|apply Af|apply Ag)<;>intro _h)<;>simp only[push_cast,seval,rq,_h,u,r,w,T,U,a,g,z,R,AaT])|((first|refine Ab (by exact Z) ?_|refine Ab (by exact Y) ?_);simp only[push_cast,seval,rq,u,r,w,T,U,a,g,z,R,AaT])|intro _)
 all_goals exact Ae (by simp[get])
def AaG:Ad:=[108,116,114]
def AaE:Ad:=[114,116,108]
def Ali(L:Ce):Bool:=Ej L.tag&&((L.parent==[]||Ej L.parent)&&([[],AaG,AaE].contains L.dir&&(GT L.card&&(GT L.ord&&(OY L.dec L.grp L.minus L.perc L.prim L.sec&&Ov L)))))
def Ajk(L:Ce):Bool:=L.months.all Dg&&(L.days.all Dg&&(((L.months.length:Int)==0||(L.months.length:Int)==12)&&((L.days.length:Int)==0||(L.days.length:Int)==7)))
def Jf(L:Ce):Bool:=Ali L&&Ajk L
theorem PN{l:List Ad}{s:Ad}(h:s∈l):s.length<=E6 l:=by have:=Jj (f:=Gp) h;unfold E6;unfold Gp at this;unfold Gp;omega
theorem WF(l:List Ad):l.length<=E6 l:=CX (λx=>by unfold Gp;omega) l
theorem qO(L:Ce)(r:Jr L<=2^20)(G:A9 L.card+A9 L.ord<=2^24):An π O 27 [L.enc] [] (.b (Jf L)) []:=by
 have l:=sP O L (AuE r);unfold Jr at r;have m:∀s∈[L.tag,L.parent,L.dir,L.dec,L.grp,L.minus,L.perc],s.length<=2^26:=λs h=>by have:=PN h;omega
 have e:=Jp O L.tag (m _ (by simp));have k:=Jp O L.parent (m _ (by simp));have f:=M8 O [[],AaG,AaE] L.dir (by simp);have g:=Nc O L.card (by omega);have i:=Nc O L.ord (by omega);have j:=y8 O L.dec L.grp L.minus L.perc L.prim L.sec ⟨m _ (by simp),m _ (by simp),m _ (by simp),m _ (by simp)⟩;have u:=WF L.months;have t:=WF L.days;have p:=Fw O L.months (by omega) (λs h=>by have:=PN h;omega);have q:=Fw O L.days (by omega) (λs h=>by have:=PN h;omega);simp only[AaG,AaE,Am1,Asz] at f;generalize hS:Jf L=S;unfold Jf Ali Ajk AaG AaE at hS;rw[Ce.enc_eq] at l⊢;generalize Ej L.tag=E at *;generalize Ej L.parent=F at *;generalize[[],[108,116,114],[114,116,108]].contains L.dir=x at *;generalize GT L.card=y at *;generalize GT L.ord=z at *;generalize OY L.dec L.grp L.minus L.perc L.prim L.sec=A at *;generalize Ov L=B at *;generalize L.months.all Dg=C at *;generalize L.days.all Dg=D at *;clear m u t r G;cases E with
 | false=>
  simp only[Amq,Amr,AmS,Am0,Atd,Asc,Atc,AsM] at hS;subst hS;refine Ah (vs:=[.b _]) Eg (by simp) (by simp) λn0 a=>?_;clear a;simp only[push_cast,seval,rq,AaT,Amo,Ain]
  repeat' (first|(((first|apply Ac|apply Af|apply Ag)<;>intro _h)<;>simp only[push_cast,seval,rq,_h,AaT,Amo,Ain])|(refine Ab (by exact e) ?_;simp only[push_cast,seval,rq,AaT,Amo,Ain])|intro _)
  exact Ae (by simp[get])
 | true=>
  simp only[Amq,Amr,AmS,Am0,Atd,Asc,Atc,AsM] at hS;cases c:(L.parent==[]) with
  | true=>
   rw[c] at hS;have d:(L.parent !=[])=false:=by rw[bne,c];rfl
   simp only[Amq,Amr,AmS,Am0,Atd,Asc,Atc,AsM] at hS;cases x with
   | false=>
    simp only[Amq,Amr,AmS,Am0,Atd,Asc,Atc,AsM] at hS;subst hS;refine Ah (vs:=[.b _]) Eg (by simp) (by simp) λn0 a=>?_;clear a;simp only[push_cast,seval,rq,c,d,AaT,Amo,Ain]
    repeat' (first|(((first|apply Ac|apply Af|apply Ag)<;>intro _h)<;>simp only[push_cast,seval,rq,_h,c,d,AaT,Amo,Ain])|((first|refine Ab (by exact e) ?_|refine Ab (by exact f) ?_);simp only[push_cast,seval,rq,c,d,AaT,Amo,Ain])|intro _)
    exact Ae (by simp[get])
   | true=>
    simp only[Amq,Amr,AmS,Am0,Atd,Asc,Atc,AsM] at hS;cases y with
    | false=>
     simp only[Amq,Amr,AmS,Am0,Atd,Asc,Atc,AsM] at hS;subst hS;refine Ah (vs:=[.b _]) Eg (by simp) (by simp) λn0 a=>?_;clear a;simp only[push_cast,seval,rq,c,d,AaT,Amo,Ain]
     repeat' (first|(((first|apply Ac|apply Af|apply Ag)<;>intro _h)<;>simp only[push_cast,seval,rq,_h,c,d,AaT,Amo,Ain])|((first|refine Ab (by exact e) ?_|refine Ab (by exact f) ?_|refine Ab (by exact g) ?_);simp only[push_cast,seval,rq,c,d,AaT,Amo,Ain])|intro _)
     exact Ae (by simp[get])
    | true=>
     simp only[Amq,Amr,AmS,Am0,Atd,Asc,Atc,AsM] at hS;cases z with
     | false=>
      simp only[Amq,Amr,AmS,Am0,Atd,Asc,Atc,AsM] at hS;subst hS;refine Ah (vs:=[.b _]) Eg (by simp) (by simp) λn0 a=>?_;clear a;simp only[push_cast,seval,rq,c,d,AaT,Amo,Ain]
      repeat' (first|(((first|apply Ac|apply Af|apply Ag)<;>intro _h)<;>simp only[push_cast,seval,rq,_h,c,d,AaT,Amo,Ain])|((first|refine Ab (by exact e) ?_|refine Ab (by exact f) ?_|refine Ab (by exact g) ?_|refine Ab (by exact i) ?_);simp only[push_cast,seval,rq,c,d,AaT,Amo,Ain])|intro _)
      exact Ae (by simp[get])
     | true=>
      simp only[Amq,Amr,AmS,Am0,Atd,Asc,Atc,AsM] at hS;cases A with
      | false=>
       simp only[Amq,Amr,AmS,Am0,Atd,Asc,Atc,AsM] at hS;subst hS;refine Ah (vs:=[.b _]) Eg (by simp) (by simp) λn0 a=>?_;clear a;simp only[push_cast,seval,rq,c,d,AaT,Amo,Ain]
       repeat' (first|(((first|apply Ac|apply Af|apply Ag)<;>intro _h)<;>simp only[push_cast,seval,rq,_h,c,d,AaT,Amo,Ain])|((first|refine Ab (by exact e) ?_|refine Ab (by exact f) ?_|refine Ab (by exact g) ?_|refine Ab (by exact i) ?_|refine Ab (by exact j) ?_);simp only[push_cast,seval,rq,c,d,AaT,Amo,Ain])|intro _)
       exact Ae (by simp[get])
      | true=>
       simp only[Amq,Amr,AmS,Am0,Atd,Asc,Atc,AsM] at hS;cases B with
       | false=>
        simp only[Amq,Amr,AmS,Am0,Atd,Asc,Atc,AsM] at hS;subst hS;refine Ah (vs:=[.b _]) Eg (by simp) (by simp) λn0 a=>?_;clear a;simp only[push_cast,seval,rq,c,d,AaT,Amo,Ain]
        repeat' (first|(((first|apply Ac|apply Af|apply Ag)<;>intro _h)<;>simp only[push_cast,seval,rq,_h,c,d,AaT,Amo,Ain])|((first|refine Ab (by exact e) ?_|refine Ab (by exact f) ?_|refine Ab (by exact g) ?_|refine Ab (by exact i) ?_|refine Ab (by exact j) ?_|refine Ab (by exact l) ?_);simp only[push_cast,seval,rq,c,d,AaT,Amo,Ain])|intro _)
        exact Ae (by simp[get])
       | true=>
        simp only[Amq,Amr,AmS,Am0,Atd,Asc,Atc,AsM] at hS;cases C with
        | false=>
         simp only[Amq,Amr,AmS,Am0,Atd,Asc,Atc,AsM] at hS;subst hS;refine Ah (vs:=[.b _]) Eg (by simp) (by simp) λn0 a=>?_;clear a;simp only[push_cast,seval,rq,c,d,AaT,Amo,Ain]
         repeat' (first|(((first|apply Ac|apply Af|apply Ag)<;>intro _h)<;>simp only[push_cast,seval,rq,_h,c,d,AaT,Amo,Ain])|((first|refine Ab (by exact e) ?_|refine Ab (by exact f) ?_|refine Ab (by exact g) ?_|refine Ab (by exact i) ?_|refine Ab (by exact j) ?_|refine Ab (by exact l) ?_|refine Ab (by exact p) ?_);simp only[push_cast,seval,rq,c,d,AaT,Amo,Ain])|intro _)
         exact Ae (by simp[get])
        | true=>
         simp only[Amq,Amr,AmS,Am0,Atd,Asc,Atc,AsM] at hS;cases D with
         | false=>
          simp only[Amq,Amr,AmS,Am0,Atd,Asc,Atc,AsM] at hS;subst hS;refine Ah (vs:=[.b _]) Eg (by simp) (by simp) λn0 a=>?_;clear a;simp only[push_cast,seval,rq,c,d,AaT,Amo,Ain]
          repeat' (first|(((first|apply Ac|apply Af|apply Ag)<;>intro _h)<;>simp only[push_cast,seval,rq,_h,c,d,AaT,Amo,Ain])|((first|refine Ab (by exact e) ?_|refine Ab (by exact f) ?_|refine Ab (by exact g) ?_|refine Ab (by exact i) ?_|refine Ab (by exact j) ?_|refine Ab (by exact l) ?_|refine Ab (by exact p) ?_|refine Ab (by exact q) ?_);simp only[push_cast,seval,rq,c,d,AaT,Amo,Ain])|intro _)
          exact Ae (by simp[get])
         | true=>
          simp only[Amq,Amr,AmS,Am0,Atd,Asc,Atc,AsM] at hS;generalize q1:((L.months.length:Int)==0)=w at *;generalize q2:((L.months.length:Int)==12)=t2 at *;generalize q3:((L.days.length:Int)==0)=t3 at *;generalize o:((L.days.length:Int)==7)=t4 at *;cases w<;>cases t2<;>cases t3
          all_goals simp only[Amq,Amr,AmS,Am0,Atd,Asc,Atc,AsM] at hS
          all_goals subst hS
          all_goals refine Ah (vs:=[.b _]) Eg (by simp) (by simp) λn0 a=>?_
          all_goals clear a
          all_goals simp only[push_cast,seval,rq,c,d,AaT,Amo,Ain,c,d,q1,q2,q3,o,AaT,Amo,Ain]
          all_goals repeat' (first|(((first|apply Ac|apply Af|apply Ag)<;>intro _h)<;>simp only[push_cast,seval,rq,_h,c,d,AaT,Amo,Ain,c,d,q1,q2,q3,o,AaT,Amo,Ain])|((first|refine Ab (by exact e) ?_|refine Ab (by exact f) ?_|refine Ab (by exact g) ?_|refine Ab (by exact i) ?_|refine Ab (by exact j) ?_|refine Ab (by exact l) ?_|refine Ab (by exact p) ?_|refine Ab (by exact q) ?_);simp only[push_cast,seval,rq,c,d,AaT,Amo,Ain,c,d,q1,q2,q3,o,AaT,Amo,Ain])|intro _)
          all_goals exact Ae (by simp[get])
  | false=>
   rw[c] at hS;have d:(L.parent !=[])=true:=by rw[bne,c];rfl
   simp only[Amq,Amr,AmS,Am0,Atd,Asc,Atc,AsM] at hS;cases F with
   | false=>
    simp only[Amq,Amr,AmS,Am0,Atd,Asc,Atc,AsM] at hS;subst hS;refine Ah (vs:=[.b _]) Eg (by simp) (by simp) λn0 a=>?_;clear a;simp only[push_cast,seval,rq,c,d,AaT,Amo,Ain]
    repeat' (first|(((first|apply Ac|apply Af|apply Ag)<;>intro _h)<;>simp only[push_cast,seval,rq,_h,c,d,AaT,Amo,Ain])|((first|refine Ab (by exact e) ?_|refine Ab (by exact k) ?_);simp only[push_cast,seval,rq,c,d,AaT,Amo,Ain])|intro _)
    exact Ae (by simp[get])
   | true=>
    simp only[Amq,Amr,AmS,Am0,Atd,Asc,Atc,AsM] at hS;cases x with
    | false=>
     simp only[Amq,Amr,AmS,Am0,Atd,Asc,Atc,AsM] at hS;subst hS;refine Ah (vs:=[.b _]) Eg (by simp) (by simp) λn0 a=>?_;clear a;simp only[push_cast,seval,rq,c,d,AaT,Amo,Ain]
     repeat' (first|(((first|apply Ac|apply Af|apply Ag)<;>intro _h)<;>simp only[push_cast,seval,rq,_h,c,d,AaT,Amo,Ain])|((first|refine Ab (by exact e) ?_|refine Ab (by exact k) ?_|refine Ab (by exact f) ?_);simp only[push_cast,seval,rq,c,d,AaT,Amo,Ain])|intro _)
     exact Ae (by simp[get])
    | true=>
     simp only[Amq,Amr,AmS,Am0,Atd,Asc,Atc,AsM] at hS;cases y with
     | false=>
      simp only[Amq,Amr,AmS,Am0,Atd,Asc,Atc,AsM] at hS;subst hS;refine Ah (vs:=[.b _]) Eg (by simp) (by simp) λn0 a=>?_;clear a;simp only[push_cast,seval,rq,c,d,AaT,Amo,Ain]
      repeat' (first|(((first|apply Ac|apply Af|apply Ag)<;>intro _h)<;>simp only[push_cast,seval,rq,_h,c,d,AaT,Amo,Ain])|((first|refine Ab (by exact e) ?_|refine Ab (by exact k) ?_|refine Ab (by exact f) ?_|refine Ab (by exact g) ?_);simp only[push_cast,seval,rq,c,d,AaT,Amo,Ain])|intro _)
      exact Ae (by simp[get])
     | true=>
      simp only[Amq,Amr,AmS,Am0,Atd,Asc,Atc,AsM] at hS;cases z with
      | false=>
       simp only[Amq,Amr,AmS,Am0,Atd,Asc,Atc,AsM] at hS;subst hS;refine Ah (vs:=[.b _]) Eg (by simp) (by simp) λn0 a=>?_;clear a;simp only[push_cast,seval,rq,c,d,AaT,Amo,Ain]
       repeat' (first|(((first|apply Ac|apply Af|apply Ag)<;>intro _h)<;>simp only[push_cast,seval,rq,_h,c,d,AaT,Amo,Ain])|((first|refine Ab (by exact e) ?_|refine Ab (by exact k) ?_|refine Ab (by exact f) ?_|refine Ab (by exact g) ?_|refine Ab (by exact i) ?_);simp only[push_cast,seval,rq,c,d,AaT,Amo,Ain])|intro _)
       exact Ae (by simp[get])
      | true=>
       simp only[Amq,Amr,AmS,Am0,Atd,Asc,Atc,AsM] at hS;cases A with
       | false=>
        simp only[Amq,Amr,AmS,Am0,Atd,Asc,Atc,AsM] at hS;subst hS;refine Ah (vs:=[.b _]) Eg (by simp) (by simp) λn0 a=>?_;clear a;simp only[push_cast,seval,rq,c,d,AaT,Amo,Ain]
        repeat' (first|(((first|apply Ac|apply Af|apply Ag)<;>intro _h)<;>simp only[push_cast,seval,rq,_h,c,d,AaT,Amo,Ain])|((first|refine Ab (by exact e) ?_|refine Ab (by exact k) ?_|refine Ab (by exact f) ?_|refine Ab (by exact g) ?_|refine Ab (by exact i) ?_|refine Ab (by exact j) ?_);simp only[push_cast,seval,rq,c,d,AaT,Amo,Ain])|intro _)
        exact Ae (by simp[get])
       | true=>
        simp only[Amq,Amr,AmS,Am0,Atd,Asc,Atc,AsM] at hS;cases B with
        | false=>
         simp only[Amq,Amr,AmS,Am0,Atd,Asc,Atc,AsM] at hS;subst hS;refine Ah (vs:=[.b _]) Eg (by simp) (by simp) λn0 a=>?_;clear a;simp only[push_cast,seval,rq,c,d,AaT,Amo,Ain]
         repeat' (first|(((first|apply Ac|apply Af|apply Ag)<;>intro _h)<;>simp only[push_cast,seval,rq,_h,c,d,AaT,Amo,Ain])|((first|refine Ab (by exact e) ?_|refine Ab (by exact k) ?_|refine Ab (by exact f) ?_|refine Ab (by exact g) ?_|refine Ab (by exact i) ?_|refine Ab (by exact j) ?_|refine Ab (by exact l) ?_);simp only[push_cast,seval,rq,c,d,AaT,Amo,Ain])|intro _)
         exact Ae (by simp[get])
        | true=>
         simp only[Amq,Amr,AmS,Am0,Atd,Asc,Atc,AsM] at hS;cases C with
         | false=>
          simp only[Amq,Amr,AmS,Am0,Atd,Asc,Atc,AsM] at hS;subst hS;refine Ah (vs:=[.b _]) Eg (by simp) (by simp) λn0 a=>?_;clear a;simp only[push_cast,seval,rq,c,d,AaT,Amo,Ain]
          repeat' (first|(((first|apply Ac|apply Af|apply Ag)<;>intro _h)<;>simp only[push_cast,seval,rq,_h,c,d,AaT,Amo,Ain])|((first|refine Ab (by exact e) ?_|refine Ab (by exact k) ?_|refine Ab (by exact f) ?_|refine Ab (by exact g) ?_|refine Ab (by exact i) ?_|refine Ab (by exact j) ?_|refine Ab (by exact l) ?_|refine Ab (by exact p) ?_);simp only[push_cast,seval,rq,c,d,AaT,Amo,Ain])|intro _)
          exact Ae (by simp[get])
         | true=>
          simp only[Amq,Amr,AmS,Am0,Atd,Asc,Atc,AsM] at hS;cases D with
          | false=>
           simp only[Amq,Amr,AmS,Am0,Atd,Asc,Atc,AsM] at hS;subst hS;refine Ah (vs:=[.b _]) Eg (by simp) (by simp) λn0 a=>?_;clear a;simp only[push_cast,seval,rq,c,d,AaT,Amo,Ain]
           repeat' (first|(((first|apply Ac|apply Af|apply Ag)<;>intro _h)<;>simp only[push_cast,seval,rq,_h,c,d,AaT,Amo,Ain])|((first|refine Ab (by exact e) ?_|refine Ab (by exact k) ?_|refine Ab (by exact f) ?_|refine Ab (by exact g) ?_|refine Ab (by exact i) ?_|refine Ab (by exact j) ?_|refine Ab (by exact l) ?_|refine Ab (by exact p) ?_|refine Ab (by exact q) ?_);simp only[push_cast,seval,rq,c,d,AaT,Amo,Ain])|intro _)
           exact Ae (by simp[get])
          | true=>
           simp only[Amq,Amr,AmS,Am0,Atd,Asc,Atc,AsM] at hS;generalize q1:((L.months.length:Int)==0)=w at *;generalize q2:((L.months.length:Int)==12)=t2 at *;generalize q3:((L.days.length:Int)==0)=t3 at *;generalize o:((L.days.length:Int)==7)=t4 at *;cases w<;>cases t2<;>cases t3
           all_goals simp only[Amq,Amr,AmS,Am0,Atd,Asc,Atc,AsM] at hS
           all_goals subst hS
           all_goals refine Ah (vs:=[.b _]) Eg (by simp) (by simp) λn0 a=>?_
           all_goals clear a
           all_goals simp only[push_cast,seval,rq,c,d,AaT,Amo,Ain,c,d,q1,q2,q3,o,AaT,Amo,Ain]
           all_goals repeat' (first|(((first|apply Ac|apply Af|apply Ag)<;>intro _h)<;>simp only[push_cast,seval,rq,_h,c,d,AaT,Amo,Ain,c,d,q1,q2,q3,o,AaT,Amo,Ain])|((first|refine Ab (by exact e) ?_|refine Ab (by exact k) ?_|refine Ab (by exact f) ?_|refine Ab (by exact g) ?_|refine Ab (by exact i) ?_|refine Ab (by exact j) ?_|refine Ab (by exact l) ?_|refine Ab (by exact p) ?_|refine Ab (by exact q) ?_);simp only[push_cast,seval,rq,c,d,AaT,Amo,Ain,c,d,q1,q2,q3,o,AaT,Amo,Ain])|intro _)
           all_goals exact Ae (by simp[get])
theorem Uc(L:Ce)(h:Jr L<=2^20)(j:A9 L.card+A9 L.ord<=2^24):An π O 13 [.agg [.sl [L.enc],.nil,.nil]] [] (.b (Jf L)) []:=by
 have f:=qO O L h j;generalize Jf L=A at *;rw[Ce.enc_eq] at *;generalize hB:V.agg [.s L.tag,.s L.parent,.s L.dir,.sl (L.card.map AH.enc),.sl (L.ord.map AH.enc),.s L.dec,.s L.grp,.s L.minus,.s L.perc,.i .i64 L.prim,.i .i64 L.sec,.sl (L.lists.map Cp.enc),.sl (L.units.map De.enc),.sl (L.dates.map CJ.enc),.sl (L.months.map V.s),.sl (L.days.map V.s)]=a at *;have c:(cells a).length=16:=by rw[<-hB];rfl
 have d:V.agg (cells a)=a:=by rw[<-hB];rfl
 clear hB;refine Ah (vs:=[.b A]) Aov (by simp) (by simp) λn0 e=>?_;clear e;simp only[push_cast,seval,rq];intro k1 k2;obtain⟨x,g⟩:∃x:Id,(n0,1)=x:=⟨_,rfl⟩
 rw[g];clear g;refine Ak 1 (Inv:=λm st=>∃n,(m=1/\st=⟨[(1,.ref x 0),(3,.i .i64 0)],[(x,.box (.agg [.sl [a],.nil,.nil]))],n⟩)\/(m=0/\A=true/\st=⟨[(1,.ref x 0),(3,.i .i64 1)],[(x,.box (.agg [.sl [a],.nil,.nil]))],n⟩)) ⟨_,Aj.refl,_,.inl ⟨rfl,rfl⟩⟩ ?_;rintro m _ ⟨n,⟨rfl,rfl⟩|⟨rfl,rfl,rfl⟩⟩
 .cases A
  .simp only[push_cast,seval,rq,c,d]
   repeat' (first|(((first|apply Ac|apply Af|apply Ag)<;>intro _h)<;>simp only[push_cast,seval,rq,_h,c,d])|(refine Ab (by exact f) ?_;simp only[push_cast,seval,rq,c,d])|intro _)
   exact Ae (by simp[get])
  .simp only[push_cast,seval,rq,c,d]
   repeat' (first|(((first|apply Ac|apply Af|apply Ag)<;>intro _h)<;>simp only[push_cast,seval,rq,_h,c,d])|(refine Ab (by exact f) ?_;simp only[push_cast,seval,rq,c,d])|intro _)
   exact⟨0,_,by omega,Aj.refl,_,by first|exact .inr ⟨rfl,rfl,rfl⟩|exact .inr ⟨rfl,rfl⟩⟩
 .simp only[push_cast,seval,rq];intros;refine Ak 0 (Inv:=λm st=>∃n,st=⟨[(1,.ref x 0),(4,.i .i64 0)],[(x,.box (.agg [.sl [a],.nil,.nil]))],n⟩) ⟨_,Aj.refl,_,rfl⟩ ?_;rintro m _ ⟨n,rfl⟩;simp only[push_cast,seval,rq];intros;refine Ak 0 (Inv:=λm st=>∃n,st=⟨[(1,.ref x 0),(5,.i .i64 0)],[(x,.box (.agg [.sl [a],.nil,.nil]))],n⟩) ⟨_,Aj.refl,_,rfl⟩ ?_;rintro m _ ⟨n,rfl⟩;simp only[push_cast,seval,rq]
  repeat' (first|(((first|apply Ac|apply Af|apply Ag)<;>intro _h)<;>simp only[push_cast,seval,rq,_h])|intro _)
  exact Ae (by simp[get])
def Sy(v:Cg):Bool:=KK v.text&&v.list.all KK
def JY(L:Ce)(ps:List Al)(vs:List Cg):Bool:=vs.all Sy&&(Jf L&&KK (BD ps))
theorem aX(L:Ce)(ps:List Al)(vs:List Cg)(r:Bool)(J:Jr L<=2^20)(K:A9 L.card+A9 L.ord<=2^24)(R:AV ps<=2^20)(N:vs.length<=2^40)(hv:∀v∈vs,v.text.length<=2^26/\v.list.length<=2^40/\∀s∈v.list,s.length<=2^26) :
  An π O 6 [Oc L ps vs r] [] (.b (JY L ps vs)) []:=by
 have w:=Uc O L J K;have G:=Adn O _ ps (Adx _) (by omega);have I:=Rg _ ps (Adx _);have u:=HR O (BD ps) (by omega);generalize hS:JY L ps vs=S;unfold JY at hS;generalize Jf L=A at *;generalize BD ps=T at *;generalize KK T=B at *;rw[Ce.enc_eq] at w;rw[Ft];refine Ah (vs:=[.b S]) AtH (by simp) (by simp) λn0 y=>?_;clear y;simp only[push_cast,seval,rq];intro k1 k2;obtain⟨x,F⟩:∃x:Id,(n0,1)=x:=⟨_,rfl⟩
 rw[F];clear F;generalize hB:V.agg [.s L.tag,.s L.parent,.s L.dir,.sl (L.card.map AH.enc),.sl (L.ord.map AH.enc),.s L.dec,.s L.grp,.s L.minus,.s L.perc,.i .i64 L.prim,.i .i64 L.sec,.sl (L.lists.map Cp.enc),.sl (L.units.map De.enc),.sl (L.dates.map CJ.enc),.sl (L.months.map V.s),.sl (L.days.map V.s),.sl (ps.map Al.enc),.sl (vs.map Cg.enc),.b r]=t;have j:(cells t)[17]?=some (.sl (vs.map Cg.enc)):=by rw[<-hB];rfl
 refine Ak vs.length (Inv:=λm st=>∃dn e n,vs=dn++e/\m=e.length/\(e.all Sy&&(A&&B))=S/\st=⟨[(1,.ref x 0),(3,.i .i64 dn.length)],[(x,.box t)],n⟩) ⟨_,Aj.refl,[],vs,_,rfl,rfl,hS,rfl⟩ ?_;clear hS;rintro m _ ⟨dn,e,n,p,rfl,g,rfl⟩;cases e with
 | cons v e=>
  have c:=Ay p;have a:decide ((dn.length:Int)<(vs.length:Int))=true:=by rw[p];simp;omega
  have l:(vs.map Cg.enc)[dn.length]?=some (.agg [.s v.name,.i .i64 v.type,.s v.text,.i .i64 v.date,.sl (v.list.map V.s)]):=by rw[p,AtX,At8 (by simp)];simp[Cg.enc_eq]
  obtain⟨M,v2,v3⟩:=hv v (by rw[p];simp);have E:=HR O v.text M;rw[Ax5] at g;unfold Sy at g;generalize KK v.text=C at *;cases C with
  | false=>
   simp only[Amr] at g;subst g;simp only[push_cast,seval,rq,j,a,l,Aiv c,AaT,Aa v (dn:=dn) (by omega)]
   repeat' (first|(((first|apply Ac|apply Af|apply Ag)<;>intro _h)<;>simp only[push_cast,seval,rq,_h,j,a,l,Aiv c,AaT,Aa v (dn:=dn) (by omega)])|(refine Ab (by exact E) ?_;simp only[push_cast,seval,rq,j,a,l,Aiv c,AaT,Aa v (dn:=dn) (by omega)])|intro _)
   exact Ae (by simp[get])
  | true=>
   rw[Amq] at g;simp only[push_cast,seval,rq,j,a,l,Aiv c,AaT,Aa v (dn:=dn) (by omega)]
   repeat' (first|(((first|apply Ac|apply Af|apply Ag)<;>intro _h)<;>simp only[push_cast,seval,rq,_h,j,a,l,Aiv c,AaT,Aa v (dn:=dn) (by omega)])|(refine Ab (by exact E) ?_;simp only[push_cast,seval,rq,j,a,l,Aiv c,AaT,Aa v (dn:=dn) (by omega)])|intro _)
   refine Ak v.list.length (Inv:=λm st=>∃k q n,v.list=k++q/\m=q.length/\(q.all KK&&(e.all Sy&&(A&&B)))=S/\st=⟨[(1,.ref x 0),(3,.i .i64 dn.length),(4,.i .i64 k.length)],[(x,.box t)],n⟩) ⟨_,Aj.refl,[],v.list,_,rfl,rfl,by rw[<-g,Bool.and_assoc];rfl,rfl⟩ ?_;clear g;rintro m _ ⟨k,q,n,h,rfl,g,rfl⟩;cases q with
   | nil=>
    rw[AmY] at h;have d:decide ((k.length:Int)<(v.list.length:Int))=false:=by rw[h];simp
    rw[Az0,Amq] at g;simp only[push_cast,seval,rq,j,a,l,d,Aiv c,AaT,Aa v (dn:=dn) (by omega)];intros;exact⟨_,_,Adx _,Aj.refl,dn++[v],e,_,by rw[p];simp,rfl,g,rfl⟩
   | cons s q=>
    have f:=Ay h;have d:decide ((k.length:Int)<(v.list.length:Int))=true:=by rw[h];simp;omega
    have o:(v.list.map V.s)[k.length]?=some (.s s):=by rw[h,AtX,At8 (by simp)];simp
    have z:=HR O s (v3 s (by rw[h];simp));rw[Ax5] at g;generalize KK s=D at *;cases D with
    | false=>
     simp only[Amr] at g;subst g;simp only[push_cast,seval,rq,j,a,l,d,o,Aiv c,Aiv f,AaT,Aa s (dn:=k) (by omega)]
     repeat' (first|(((first|apply Ac|apply Af|apply Ag)<;>intro _h)<;>simp only[push_cast,seval,rq,_h,j,a,l,d,o,Aiv c,Aiv f,AaT,Aa s (dn:=k) (by omega)])|(refine Ab (by exact z) ?_;simp only[push_cast,seval,rq,j,a,l,d,o,Aiv c,Aiv f,AaT,Aa s (dn:=k) (by omega)])|intro _)
     exact Ae (by simp[get])
    | true=>
     rw[Amq] at g;simp only[push_cast,seval,rq,j,a,l,d,o,Aiv c,Aiv f,AaT,Aa s (dn:=k) (by omega)]
     repeat' (first|(((first|apply Ac|apply Af|apply Ag)<;>intro _h)<;>simp only[push_cast,seval,rq,_h,j,a,l,d,o,Aiv c,Aiv f,AaT,Aa s (dn:=k) (by omega)])|(refine Ab (by exact z) ?_;simp only[push_cast,seval,rq,j,a,l,d,o,Aiv c,Aiv f,AaT,Aa s (dn:=k) (by omega)])|intro _)
     exact⟨_,_,Adx _,Aj.refl,k++[s],q,_,by rw[h];simp,rfl,g,rfl⟩
 | nil=>
 rw[AmY] at p;have a:decide ((dn.length:Int)<(vs.length:Int))=false:=by rw[p];simp
 rw[Az0,Amq] at g;simp only[push_cast,seval,rq,j,a,AaT];intros;rw[<-hB];cases A with
 | false=>
  rw[Amr] at g;subst g;simp only[push_cast,seval,rq]
  repeat' (first|(((first|apply Ac|apply Af|apply Ag)<;>intro _h)<;>simp only[push_cast,seval,rq,_h])|(refine Ab (by exact w) ?_;simp only[push_cast,seval,rq])|intro _)
  exact Ae (by simp[get])
 | true=>
  rw[Amq] at g;subst g;simp only[push_cast,seval,rq]
  repeat' (first|(((first|apply Ac|apply Af|apply Ag)<;>intro _h)<;>simp only[push_cast,seval,rq,_h])|((first|refine Ab (by exact w) ?_|refine Ab (by exact G) ?_|refine Ab (by exact u) ?_);simp only[push_cast,seval,rq])|intro _)
  exact Ae (by simp[get])
theorem C8{s:Ad}(h:Dg s=true):U8 s:=by unfold Dg at h;rw[AcR] at h;exact LV h.2
theorem AhX{L:Ce}(h:Jf L=true):Ly L:=by
 unfold Jf Ali Ajk at h;simp only[AcR] at h;obtain⟨⟨_,_,_,_,_,b,i⟩,j,k,_⟩:=h;have a:U8 L.dec/\U8 L.grp/\U8 L.minus/\U8 L.perc:=by
  unfold OY at b;rw[AyS] at b;rcases b with b|b
  .unfold Sw at b;simp only[AcR,Amz] at b;obtain⟨d,e,f,g,_⟩:=b;rw[d,e,f,g];exact⟨U8.nil,U8.nil,U8.nil,U8.nil⟩
  .simp only[AcR,Ax5,Az0,and_true] at b;obtain⟨_,⟨d,e,f,g⟩,_⟩:=b;exact⟨C8 d,C8 e,C8 f,C8 g⟩
 unfold Ov at i;simp only[AcR,As7] at i j k;obtain⟨l,m,o,_⟩:=i;refine⟨a.1,a.2.1,a.2.2.1,a.2.2.2,λx c=>?_,λx c=>?_,λx c=>?_,λx c=>C8 (j x c),λx c=>C8 (k x c)⟩
 .have:=l x c;unfold oL at this;simp only[AcR,Ax5,Az0,and_true] at this;obtain⟨_,d,e,f,g⟩:=this;exact⟨C8 d,C8 e,C8 f,C8 g⟩
 .have:=m x c;unfold oU at this;simp only[AcR] at this;exact C8 this.2.2
 .have:=o x c;unfold oD at this;simp only[AcR] at this;exact C8 this.2
theorem Mm(j:An π O 4 [] [] (.b true) [])(M:BC O)(F:Ca O)(L:Ce)(ps:List Al)(vs:List Cg)(q:Bool)(hp:-9223372036854775808<=L.prim)(y:L.sec<9223372036854775808)(S:Jr L<=2^40)(C:A9 L.card+A9 L.ord<=2^24)(T:AV ps<=2^20)(E:vs.length<=2^40)(U:∀v∈vs,v.list.length<=2^40) :
  An π O 3 [Oc L ps vs q] [] (.b true) []:=by
 have a:=aP O L ps vs q S C (by omega) E U;cases m:(HE L&&JN ps&&CL (decide ((vs.length:Int)<=30)) vs) with
 | false=>
  rw[m] at a;rw[Ft] at a⊢;refine Ah (vs:=[.b true]) Vo (by simp) (by simp) λn0 c=>?_;clear c;simp only[push_cast,seval,rq]
  repeat' (first|(((first|apply Ac|apply Af|apply Ag)<;>intro _h)<;>simp only[push_cast,seval,rq,_h])|((first|refine Ab (by exact j) ?_|refine Ab (by exact a) ?_);simp only[push_cast,seval,rq])|intro _)
  exact Ae (by simp[get])
 | true=>
  rw[m] at a;rw[AcR,AcR] at m;have N:=λi=>AbA O F L vs i hp y C E m.1.1 m.2;have J:Jr L<=2^20:=by have:=m.1.1;unfold HE at this;simp only[AcR,Avx] at this;omega
  have p:=(I5 m.2).2;have d:=aX O L ps vs q J C T E (λv hv=>⟨by have:=(p v hv).2;omega,by have:=(p v hv).1.len;omega,λs y=>by have:=(p v hv).1.list s y;omega⟩);have r:=N6 O M F _ L ps vs false ps (N false) (by omega);have u:=N6 O M F _ L ps vs true ps (N true) (by omega);cases w:JY L ps vs with
  | false=>
   rw[w] at d;rw[Ft] at a d⊢;refine Ah (vs:=[.b true]) Vo (by simp) (by simp) λn0 c=>?_;clear c;simp only[push_cast,seval,rq]
   repeat' (first|(((first|apply Ac|apply Af|apply Ag)<;>intro _h)<;>simp only[push_cast,seval,rq,_h])|((first|refine Ab (by exact j) ?_|refine Ab (by exact a) ?_|refine Ab (by exact d) ?_);simp only[push_cast,seval,rq])|intro _)
   exact Ae (by simp[get])
  | true=>
   rw[w] at d;unfold JY at w;rw[AcR,AcR,As7] at w;obtain⟨V,X,Y⟩:=w;have k:=Abi (ps:=ps) (vs:=vs) (AhX X) (λv hv=>by have:=V v hv;unfold Sy at this;rw[AcR,As7] at this;exact⟨LV this.1,λs y=>LV (this.2 s y)⟩) (LV Y);have la:=SX L vs false ps;have lb:=SX L vs true ps;generalize EM L ps vs false=A at *;generalize EM L ps vs true=B at *;obtain⟨s,e⟩:=A;obtain⟨t,f⟩:=B;simp only at *;rw[Ft] at a d r u⊢;cases g:(e !=0) with
   | true=>
    have z:(e==f||(e==6||f==6))=true:=by
     rcases k with⟨h,_⟩|⟨_,h⟩
     .rw[h] at g;cases g
     .rcases h with h|h|h<;>simp[h]
    cases q1:(e==f) with
    | true=>
     refine Ah (vs:=[.b true]) Vo (by simp) (by simp) λn0 c=>?_;clear c;simp only[push_cast,seval,rq,g,q1]
     repeat' (first|(((first|apply Ac|apply Af|apply Ag)<;>intro _h)<;>simp only[push_cast,seval,rq,_h,g,q1])|((first|refine Ab (by exact j) ?_|refine Ab (by exact a) ?_|refine Ab (by exact d) ?_|refine Ab (by exact r) ?_|refine Ab (by exact u) ?_);simp only[push_cast,seval,rq,g,q1])|intro _)
     exact Ae (by simp[get])
    | false=>
     cases q2:(e==6) with
     | true=>
      refine Ah (vs:=[.b true]) Vo (by simp) (by simp) λn0 c=>?_;clear c;simp only[push_cast,seval,rq,g,q1,q2]
      repeat' (first|(((first|apply Ac|apply Af|apply Ag)<;>intro _h)<;>simp only[push_cast,seval,rq,_h,g,q1,q2])|((first|refine Ab (by exact j) ?_|refine Ab (by exact a) ?_|refine Ab (by exact d) ?_|refine Ab (by exact r) ?_|refine Ab (by exact u) ?_);simp only[push_cast,seval,rq,g,q1,q2])|intro _)
      exact Ae (by simp[get])
     | false=>
      rw[q1,q2] at z;have q3:(f==6)=true:=by simpa using z
      refine Ah (vs:=[.b true]) Vo (by simp) (by simp) λn0 c=>?_;clear c;simp only[push_cast,seval,rq,g,q1,q2,q3]
      repeat' (first|(((first|apply Ac|apply Af|apply Ag)<;>intro _h)<;>simp only[push_cast,seval,rq,_h,g,q1,q2,q3])|((first|refine Ab (by exact j) ?_|refine Ab (by exact a) ?_|refine Ab (by exact d) ?_|refine Ab (by exact r) ?_|refine Ab (by exact u) ?_);simp only[push_cast,seval,rq,g,q1,q2,q3])|intro _)
      exact Ae (by simp[get])
   | false=>
    have G:e=0:=by simpa[bne] using g
    subst G;cases x:(f !=0) with
    | true=>
     have z:f=6:=by
      have o:f≠0:=by simpa[bne] using x
      rcases k with⟨_,h,_⟩|⟨_,h⟩
      .exact absurd h o
      .omega
     subst z;refine Ah (vs:=[.b true]) Vo (by simp) (by simp) λn0 c=>?_;clear c;simp only[push_cast,seval,rq,g]
     repeat' (first|(((first|apply Ac|apply Af|apply Ag)<;>intro _h)<;>simp only[push_cast,seval,rq,_h,g])|((first|refine Ab (by exact j) ?_|refine Ab (by exact a) ?_|refine Ab (by exact d) ?_|refine Ab (by exact r) ?_|refine Ab (by exact u) ?_);simp only[push_cast,seval,rq,g])|intro _)
     exact Ae (by simp[get])
    | false=>
     have o:f=0:=by simpa[bne] using x
     subst o;have I:Ok s t:=by
      rcases k with⟨_,_,h⟩|h
      .exact h
      .omega
     obtain⟨u1,u2,u3⟩:=I;have Z:=S9 O s (by omega);have R:=S9 O t (by omega);have K:=mX O t (by omega);rw[aU u2] at K;rw[<-u3] at R K;generalize Em s=D at *;have l:(D==D)=true:=by simp
     refine Ah (vs:=[.b true]) Vo (by simp) (by simp) λn0 c=>?_;clear c;simp only[push_cast,seval,rq,g,x,l]
     repeat' (first|(((first|apply Ac|apply Af|apply Ag)<;>intro _h)<;>simp only[push_cast,seval,rq,_h,g,x,l])|((first|refine Ab (by exact j) ?_|refine Ab (by exact a) ?_|refine Ab (by exact d) ?_|refine Ab (by exact r) ?_|refine Ab (by exact u) ?_|refine Ab (by exact Z) ?_|refine Ab (by exact R) ?_|refine Ab (by exact K) ?_);simp only[push_cast,seval,rq,g,x,l])|intro _)
     exact Ae (by simp[get])
end Go.Ir

namespace Go.Ir
open Go.Proofs
def bw(s:Ad):Nat:=s.length+1
theorem Avv:Du π 9=some false:=by kernel_rfl
theorem QS(v:V)(h:Fe π 28 [v]):∃l:List Ad,v=.sl (l.map V.s)/\Er bw l+1<=Bo v:=by
 obtain⟨es,rfl,e,g,i⟩:=h.sl_inv Tryz.underlying28;rw[Avv] at e;have ⟨xs,hx,hw⟩:=P3 (G:=λa=>Fe π 9 [a]) V.s bw (λa h=>by
  obtain⟨s,rfl⟩:=h.str_inv Tryz.underlying9;exact⟨s,rfl,by unfold bw;simp[Bo]⟩) es λa d=>by
  have ⟨c,hc,hcc⟩:=e a d;have f:=i a d;have b:=g a d;rw[hcc] at f b;rw[c9] at b
  match c,b with
  | [x],_=>have:a=x:=hc;rw[this];exact f
 exact⟨xs,by rw[hx],by simp only[Bo];omega⟩
theorem oI{a:Type}{w:a->Nat}{l:List a}{x:a}(h:x∈l):w x<=Er w l:=by
 induction l with
 | nil=>cases h
 | cons y l b=>
  simp only[Er];rcases Auy.1 h with rfl|h
  .omega
  .have:=b h;omega
theorem JJ{a:Type}{w:a->Nat}{l:List a}(h:∀x,1<=w x):l.length<=Er w l:=by
 induction l with
 | nil=>simp 
 | cons y l b=>simp only[Er,Aa8];have:=h y;omega
theorem Are{l:List V}(h:l.length=3):∃a b c,l=[a,b,c]:=by
 match l,h with
 | [a,b,c],_=>exact⟨a,b,c,rfl⟩
theorem As1{l:List V}(h:l.length=5):∃a b c d e,l=[a,b,c,d,e]:=by
 match l,h with
 | [a,b,c,d,e],_=>exact⟨a,b,c,d,e,rfl⟩
theorem Af4:π.cellsOf 28=1:=by kernel_rfl
theorem Awg:π.cellsOf 43=5:=by kernel_rfl
theorem Ats:Du π 43=some true:=by kernel_rfl
theorem AiU(c:List V)(h:Fe π 43 c):∃x:Cg,V.agg c=x.enc/\x.wt<=AE c:=by obtain⟨j,a⟩:=h.st_inv Tryz.underlying43;rw[Awg] at j;obtain⟨o,p,q,r,m,rfl⟩:=As1 j;have b:=a _ (by exact Ams);have e:=a _ (by exact Ae0 _ Ams);have f:=a _ (by exact Ae0 _ (Ae0 _ Ams));have g:=a _ (by exact Ae0 _ (Ae0 _ (Ae0 _ Ams)));have i:=a _ (by exact Ae0 _ (Ae0 _ (Ae0 _ (Ae0 _ Ams))));simp only[c9,c3,Af4,AxJ,Ax4,AwE,AxO] at b e f g i;obtain⟨n,rfl⟩:=b.str_inv Tryz.underlying9;obtain⟨t,rfl,_⟩:=e.int_inv Tryz.underlying3;obtain⟨x,rfl⟩:=f.str_inv Tryz.underlying9;obtain⟨d,rfl,_⟩:=g.int_inv Tryz.underlying3;obtain⟨xs,rfl,k⟩:=QS m i;refine⟨⟨n,t,x,d,xs⟩,rfl,?_⟩;have:=JJ (w:=bw) (l:=xs) (λ_=>by unfold bw;omega);simp only[AE,Bo] at k⊢;unfold Cg.wt;simp only;omega
theorem Aa7(v:V)(h:Fe π 32 [v]):∃l:List Cg,v=.sl (l.map Cg.enc)/\Er Cg.wt l<=Bo v:=by obtain⟨xs,rfl,a⟩:=E8 h Tryz.underlying32 Ats Cg.enc Cg.wt AiU;exact⟨xs,rfl,by omega⟩
theorem zM{l:List Cg}{n:Nat}(h:Er Cg.wt l<=n):l.length<=n/\∀v∈l,v.text.length<=n/\v.list.length<=n:=by have:=JJ (w:=Cg.wt) (l:=l) (λx=>by unfold Cg.wt;omega);refine⟨by omega,λv hv=>?_⟩;have a:=oI (w:=Cg.wt) hv;have b:v.wt=1+v.name.length+v.text.length+v.list.length:=rfl;exact⟨by omega,by omega⟩
theorem AtI:π.cellsOf 125=5:=by kernel_rfl
theorem Auu:π.cellsOf 127=3:=by kernel_rfl
theorem Atx:π.cellsOf 129=2:=by kernel_rfl
theorem Aut:π.cellsOf 24=6:=by kernel_rfl
theorem Anz:π.cellsOf 25=1:=by kernel_rfl
theorem AmL:π.cellsOf 26=1:=by kernel_rfl
theorem AnO:π.cellsOf 27=1:=by kernel_rfl
theorem Aq1:π.cellsOf 32=1:=by kernel_rfl
theorem AcJ:π.cellsOf 34=19:=by kernel_rfl
theorem Aup:Du π 125=some true:=by kernel_rfl
theorem AuD:Du π 127=some true:=by kernel_rfl
theorem AvO:Du π 129=some true:=by kernel_rfl
def vJ(x:Cp):Nat:=bw x.style+bw x.two+bw x.start+bw x.mid+bw x.fin
def eP(x:De):Nat:=bw x.unit+bw x.cls+bw x.pat
def mG(x:CJ):Nat:=bw x.skel+bw x.pat
theorem Alp(c:List V)(h:Fe π 125 c):∃x:Cp,V.agg c=x.enc/\vJ x<=AE c:=by obtain⟨i,a⟩:=h.st_inv Tryz.underlying125;rw[AtI] at i;obtain⟨p,q,r,t,u,rfl⟩:=As1 i;have b:=a _ (by exact Ams);have d:=a _ (by exact Ae0 _ Ams);have e:=a _ (by exact Ae0 _ (Ae0 _ Ams));have f:=a _ (by exact Ae0 _ (Ae0 _ (Ae0 _ Ams)));have g:=a _ (by exact Ae0 _ (Ae0 _ (Ae0 _ (Ae0 _ Ams))));simp only[c9,AxJ,Ax4,AwE,AxO] at b d e f g;obtain⟨j,rfl⟩:=b.str_inv Tryz.underlying9;obtain⟨k,rfl⟩:=d.str_inv Tryz.underlying9;obtain⟨l,rfl⟩:=e.str_inv Tryz.underlying9;obtain⟨m,rfl⟩:=f.str_inv Tryz.underlying9;obtain⟨o,rfl⟩:=g.str_inv Tryz.underlying9;exact⟨⟨j,k,l,m,o⟩,rfl,by simp only[vJ,bw,AE,Bo];omega⟩
theorem Al6(c:List V)(h:Fe π 127 c):∃x:De,V.agg c=x.enc/\eP x<=AE c:=by obtain⟨f,a⟩:=h.st_inv Tryz.underlying127;rw[Auu] at f;obtain⟨k,l,m,rfl⟩:=Are f;have b:=a _ (by exact Ams);have d:=a _ (by exact Ae0 _ Ams);have e:=a _ (by exact Ae0 _ (Ae0 _ Ams));simp only[c9,AxJ,Ax4,AwE,AxO] at b d e;obtain⟨g,rfl⟩:=b.str_inv Tryz.underlying9;obtain⟨i,rfl⟩:=d.str_inv Tryz.underlying9;obtain⟨j,rfl⟩:=e.str_inv Tryz.underlying9;exact⟨⟨g,i,j⟩,rfl,by simp only[eP,bw,AE,Bo];omega⟩
theorem Alg(c:List V)(h:Fe π 129 c):∃x:CJ,V.agg c=x.enc/\mG x<=AE c:=by obtain⟨e,d⟩:=h.st_inv Tryz.underlying129;rw[Atx] at e;obtain⟨i,j,rfl⟩:=zV e;have a:=d _ (by exact Ams);have b:=d _ (by exact Ae0 _ Ams);simp only[c9,AxJ,Ax4,AwE,AxO] at a b;obtain⟨f,rfl⟩:=a.str_inv Tryz.underlying9;obtain⟨g,rfl⟩:=b.str_inv Tryz.underlying9;exact⟨⟨f,g⟩,rfl,by simp only[mG,bw,AE,Bo];omega⟩
theorem Ak9{l:List V}(h:l.length=16):∃a b c d e m o p q r t f g i j k,l=[a,b,c,d,e,m,o,p,q,r,t,f,g,i,j,k]:=by
 match l,h with
 | [a,b,c,d,e,m,o,p,q,r,t,f,g,i,j,k],_=>grind
theorem AnZ{n:Int}(h:(Lit.int .i64 n).wf=true):-9223372036854775808<=n/\n<9223372036854775808:=by
 simp only[Lit.wf,AcR,Avx] at h;have a:IntKind.i64.min=-9223372036854775808:=by decide
 have b:IntKind.i64.max=9223372036854775807:=by decide
 omega
theorem Vg(l:List Ad):E6 l<=30*Er bw l:=by
 induction l with
 | nil=>simp[E6,Bt]
 | cons x l a=>unfold E6 at *;simp only[Bt,Er,Gp,bw] at *;omega
theorem PQ{a:Type}{f g:a->Nat}(h:∀x,f x<=30*g x)(l:List a):Bt f l<=30*Er g l:=by
 induction l with
 | nil=>simp[Bt]
 | cons x l b=>simp only[Bt,Er];have:=h x;omega
theorem AjB(c:List V)(h:Fe π 30 c):∃l:Ce,V.agg c=l.enc/\Jr l<=200*AE c/\A9 l.card+A9 l.ord<=AE c/\-9223372036854775808<=l.prim/\l.sec<9223372036854775808:=by
 have ⟨hl,hf⟩:=h.st_inv Tryz.underlying30;rw[Aqm] at hl;obtain⟨x0,x1,x2,x3,x4,y0,y1,y2,y3,y4,y5,x6,x7,x8,x9,r,rfl⟩:=Ak9 hl;have y:=hf _ (by exact Ams);have z:=hf _ (by exact Ae0 _ Ams);have A:=hf _ (by exact Ae0 _ (Ae0 _ Ams));have B:=hf _ (by exact Ae0 _ (Ae0 _ (Ae0 _ Ams)));have C:=hf _ (by exact Ae0 _ (Ae0 _ (Ae0 _ (Ae0 _ Ams))));have k:=hf _ (by exact Ae0 _ (Ae0 _ (Ae0 _ (Ae0 _ (Ae0 _ Ams)))));have f6:=hf _ (by exact Ae0 _ (Ae0 _ (Ae0 _ (Ae0 _ (Ae0 _ (Ae0 _ Ams))))));have D:=hf _ (by exact Ae0 _ (Ae0 _ (Ae0 _ (Ae0 _ (Ae0 _ (Ae0 _ (Ae0 _ Ams)))))));have f8:=hf _ (by exact Ae0 _ (Ae0 _ (Ae0 _ (Ae0 _ (Ae0 _ (Ae0 _ (Ae0 _ (Ae0 _ Ams))))))));have f9:=hf _ (by exact Ae0 _ (Ae0 _ (Ae0 _ (Ae0 _ (Ae0 _ (Ae0 _ (Ae0 _ (Ae0 _ (Ae0 _ Ams)))))))));have b:=hf _ (by exact Ae0 _ (Ae0 _ (Ae0 _ (Ae0 _ (Ae0 _ (Ae0 _ (Ae0 _ (Ae0 _ (Ae0 _ (Ae0 _ Ams))))))))));clear hf;simp only[c9,Aib,Aut,Anz,AmL,AnO,Af4,AxJ,Ax4,AwE,AxO] at y z A B C k f6 D f8 f9 b;obtain⟨j,rfl⟩:=y.str_inv Tryz.underlying9;obtain⟨i,rfl⟩:=z.str_inv Tryz.underlying9;obtain⟨a,rfl⟩:=A.str_inv Tryz.underlying9;obtain⟨xs,rfl,M⟩:=E8 B Tryz.underlying22 Ag9 AH.enc AH.wt WD;obtain⟨ys,rfl,e⟩:=E8 C Tryz.underlying22 Ag9 AH.enc AH.wt WD;have ⟨_,hs⟩:=k.st_inv Tryz.underlying24;have E:=hs _ (by exact Ams);have F:=hs _ (by exact Ae0 _ Ams);have G:=hs _ (by exact Ae0 _ (Ae0 _ Ams));have I:=hs _ (by exact Ae0 _ (Ae0 _ (Ae0 _ Ams)));have J:=hs _ (by exact Ae0 _ (Ae0 _ (Ae0 _ (Ae0 _ Ams))));have K:=hs _ (by exact Ae0 _ (Ae0 _ (Ae0 _ (Ae0 _ (Ae0 _ Ams)))));clear hs k;simp only[c9,c3,AxJ,Ax4,AwE,AxO] at E F G I J K;obtain⟨R,rfl⟩:=E.str_inv Tryz.underlying9;obtain⟨S,rfl⟩:=F.str_inv Tryz.underlying9;obtain⟨T,rfl⟩:=G.str_inv Tryz.underlying9;obtain⟨U,rfl⟩:=I.str_inv Tryz.underlying9;obtain⟨Y,rfl,u4⟩:=J.int_inv Tryz.underlying3;obtain⟨Z,rfl,u5⟩:=K.int_inv Tryz.underlying3;obtain⟨N,rfl,m⟩:=E8 f6 Tryz.underlying25 Aup Cp.enc vJ Alp;obtain⟨us,rfl,o⟩:=E8 D Tryz.underlying26 AuD De.enc eP Al6;obtain⟨t,rfl,p⟩:=E8 f8 Tryz.underlying27 AvO CJ.enc mG Alg;obtain⟨ms,rfl,q⟩:=QS x9 f9;obtain⟨u,rfl,d⟩:=QS r b;refine⟨⟨j,i,a,xs,ys,R,S,T,U,Y,Z,N,us,t,ms,u⟩,rfl,?_,?_,(AnZ u4).1,(AnZ u5).2⟩
 .have X:=Vg [j,i,a,R,S,T,U];have h2:=Vg u;have h3:=Vg ms;have h4:=PQ (f:=Cp.sz) (g:=vJ) (λx=>by simp only[Cp.sz,E6,Bt,Gp,vJ,bw];omega) N;have h5:=PQ (f:=De.sz) (g:=eP) (λx=>by simp only[De.sz,E6,Bt,Gp,eP,bw];omega) us;have h6:=PQ (f:=CJ.sz) (g:=mG) (λx=>by simp only[CJ.sz,E6,Bt,Gp,mG,bw];omega) t;have h7:=JJ (w:=AH.wt) (l:=xs) (λ_=>by unfold AH.wt;omega);have h8:=JJ (w:=AH.wt) (l:=ys) (λ_=>by unfold AH.wt;omega);simp only[Er,bw] at X;unfold Jr;simp only[AE,Bo] at M e m o p q d⊢;omega
 .simp only[bG];simp only[AE,Bo] at M e⊢;omega
theorem Ac9(c:List V)(h:Fe π 34 c):∃L ps vs d,V.agg c=Oc L ps vs d/\Jr L<=200*AE c/\A9 L.card+A9 L.ord<=AE c/\AV ps<=AE c/\Er Cg.wt vs<=AE c/\-9223372036854775808<=L.prim/\L.sec<9223372036854775808:=by
 have ⟨hl,hf⟩:=h.st_inv Tryz.underlying34;rw[AcJ] at hl;obtain⟨a,r,rfl,u,x⟩:∃a r,c=a++r/\a.length=16/\r.length=3:=⟨c.take 16,c.drop 16,(Az6 16 c).symm,by simp;omega,by simp;omega⟩
 obtain⟨g,e,f,rfl⟩:=Are x;have o:=hf _ (by exact Ams);have p:=hf _ (by exact Ae0 _ Ams);have q:=hf _ (by exact Ae0 _ (Ae0 _ Ams));have t:=hf _ (by exact Ae0 _ (Ae0 _ (Ae0 _ Ams)));clear hf;have b:(a++[g,e,f]).drop 16=[g,e,f]:=by rw[<-u,AzP]
 have k:(a++[g,e,f]).drop 17=[e,f]:=by rw[<-AzC (i:=1) (j:=16),b];rfl
 have l:(a++[g,e,f]).drop 18=[f]:=by rw[<-AzC (i:=2) (j:=16),b];rfl
 have m:(a++[g,e,f]).take 16=a:=by rw[<-u,List.take_left]
 simp only[Aqm,c31,Aq1,Af9,AxJ,b,k,l,m,AwE,AxO] at o p q t;have ⟨L,hL,hb1,hb2,hb3,hb4⟩:=AjB a o;obtain⟨ps,rfl,w⟩:=m8 _ g (AfJ _) p;obtain⟨vs,rfl,y⟩:=Aa7 e q;obtain⟨d,rfl⟩:=t.bool_inv Tryz.underlying4;refine⟨L,ps,vs,d,?_,?_,?_,?_,?_,hb3,hb4⟩
 .rw[Ce.enc_eq] at hL;cases hL;rw[Ft,Ig];rfl
 all_goals (rw[FM];simp only[AE];omega)
end Go.Ir
