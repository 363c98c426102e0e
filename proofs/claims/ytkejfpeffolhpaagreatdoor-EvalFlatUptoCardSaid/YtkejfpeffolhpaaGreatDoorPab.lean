/- A part of the proof that the law EvalFlat answers true at every input of a bulk of at most 2^20. -/
import Derived.Test.YtkejfpeffolhpaaGreatDoorPaa
import Derived.Laws.NewFold
import Derived.Lib.UnsafeStr
import Derived.Test.YtkejfpeffolhpaaGreatDoorProg
import Derived.Shelf.Strings.Builder1
import Derived.KernelRfl
set_option linter.all false
set_option maxHeartbeats 2000000
set_option maxRecDepth 100000
section
namespace Go.Ir
open Go.RowKit
def okG(ops:Array Oper):Option (Nat×Bool)->Option (Nat×Bool)->Bool
 | none,none=>true
 | some (j,w),some (s,w')=>w==w'&&((ops[j]?).bind (·.dst))==some s
 | _,_=>false
def Vb(P:Program)(nt:Nat)(ops:Array Oper)(o:Oper)(i:I):Bool:=
 AbU P o.op i.op&&o.dst==i.dst&&(match i.dst with|some d=>decide (d<nt)|none=>true)&&okG ops o.guard i.gd&&(!MY i.op||i.dst.isNone)
def Iu(P:Program)(nt:Nat)(ops:Array Oper):List Oper->List I->Bool
 | [],[]=>true
 | o::b,i::is=>Vb P nt ops o i&&Iu P nt ops b is
 | _,_=>false
def DG(is:List I):Bool:=decide (is.filterMap (·.dst)).Nodup
theorem Ja{P nt ops}:∀{b is},Iu P nt ops b is=true->b.length=is.length/\∀k o,b[k]?=some o->Vb P nt ops o (is.getD k default)=true
 | [],[],_=>⟨rfl,λk o h=>by simp at h⟩
 | o::b,i::is,h=>by simp only[Iu,AaS] at h;have ⟨h1,h2⟩:=Ja h.2;grind
 | [],_::_,h=>by simp[Iu] at h
 | _::_,[],h=>by simp[Iu] at h
theorem ZP{is}(h:DG is=true){j k d}(hj:j<is.length)(hk:k<is.length)(hdj:(is.getD j default).dst=some d)(hdk:(is.getD k default).dst=some d):j=k:=by
 unfold DG at h
 simp only[Avv] at h
 induction is generalizing j k with
 | nil=>simp at hj
 | cons i is ih=>
  have mem:∀m,m<is.length->(is.getD m default).dst=some d->d∈is.filterMap (·.dst):=by
   grind
  have hn:(is.filterMap (·.dst)).Nodup:=by
   grind
  have hh:∀m,m<is.length->(is.getD m default).dst=some d->i.dst≠some d:=by
   grind
  cases j with
  | zero=>
   grind
  | succ j=>
   cases k with
   | zero=>
    grind
   | succ k=>
    grind
section
variable{P:Program}{O:World}{ep nt:Nat}{ops:Array Oper}{env:BB}{σ σ':Aq}{n:Nat}{μ:Id→Option Value}{H:Addr→Option Value}{a:Act}{w:World}{v:V}
theorem Ko{k:Nat}{o:Oper}{i:I}(ho:ops[k]?=some o)(z:Vb P nt ops o i=true)(hr:Rl μ H nt env a)(hp:Hp O σ n μ H w)(hn:ep<n)(hf:∀X,i.dst=some X->μ (ep,X)=none)
  (q:Dz P O ep i (get env) σ v σ')(next:Act->World->Prop)(Q:Exit->Act->World->Prop)
  (K:∀val n' p A w',J1 O ep i.dst σ n μ H w v σ' val n' p A w'->next (a.put i.dst val) w'):wpOp P ops Q k next a w:=by
 unfold Vb at z;simp only[AaS,AjK] at z;obtain⟨⟨⟨⟨h1,J⟩,h3⟩,F⟩,Z⟩:=z;have M:MY i.op=true->i.dst=none:=by intro h;rw[h] at Z;simpa using Z
 have Y:∀{v σ'},E P O ep i.dst i.op (get env) σ v σ'->(∀val n' p A w',J1 O ep i.dst σ n μ H w v σ' val n' p A w'->next (a.put i.dst val) w')->o.wp P a w next Q:=λhE K'=>
  TP hr hp h1 J hn hf M hE next Q (λval n' p A w' hd=>by rw[J];exact K' val n' p A w' hd)
 have skip:v=.tup []/\σ'=σ->next (a.put o.dst undef) w:=by rintro⟨rfl,rfl⟩;rw[J];exact K undef n μ H w (J1.same hp (.tup [] [] rfl (λk c v hk=>by simp at hk)))
 unfold wpOp;simp only[ho];unfold Dz at q;cases C:o.guard with
 | none=>
  cases e:i.gd with
  | some x=>obtain⟨x,y⟩:=x;simp[C,e,okG] at F
  | none=>
   simp only[e] at q;have G:Region.wanted o (yielded ops a.tmps)=true:=by simp[Region.wanted,C]
   rw[Amm G];exact .inl (Y q.1 K)
 | some jw=>
  obtain⟨j,D⟩:=jw;cases e:i.gd with
  | none=>simp[C,e,okG] at F
  | some sw=>
   obtain⟨s,W⟩:=sw;simp only[C,e,okG,AaS,AjK] at F;obtain⟨rfl,hj⟩:=F;simp only[e] at q;have r:=hr.at_ s;have U:yielded ops a.tmps j=match a.tmps[s]? with|some (.bool b)=>some b|_=>none:=by unfold yielded;rw[hj];rfl
   have g:∀b,yielded ops a.tmps j=b->Region.wanted o (yielded ops a.tmps)=(b==some D):=by intro b B;simp[Region.wanted,C,B]
   split at q
   .rename_i t u;rw[u] at r;have B:=r.b_inv;have R:a.tmps[s]?=some (.bool t):=by
     cases h:a.tmps[s]? with
     | none=>simp[AvD,h,undef] at B
     | some x=>simp[AvD,h] at B;rw[B]
    rw[R] at U;have G:=g _ U;split at q
    .rename_i N;subst N;rw[Amm (by rw[G];simp)];exact .inl (Y q.1 K)
    .rename_i N;rw[AfL (by rw[G];simpa using N)];exact skip q
   .rename_i u;rw[u] at r;obtain⟨ac,hv,am⟩:=r.tup_inv;have L:yielded ops a.tmps j=none:=by
     rw[U];cases h:a.tmps[s]? with
     | none=>rfl
     | some x=>simp[AvD,h] at hv;rw[hv]
    rw[AfL (by rw[g _ L];simp)];exact skip q
   .exact q.elim
structure RI (O:World) (nt ep n0:Nat) (is:List I) (μ0:Id->Option Value) (H0:Addr->Option Value) (σ0:Aq) (w0:World) (rem:List Nat) (env:BB) (σ:Aq) (a:Act) (w:World) (n:Nat) (μ:Id->Option Value) (H:Addr->Option Value):Prop where
 rl:Rl μ H nt env a
 hp:Hp O σ n μ H w
 ep_lt:ep<n
 n0_le:n0<=ep
 free:∀k∈rem,∀d,(is.getD k default).dst=some d->μ (ep,d)=none
 fr:Fr μ0 H0 σ0 w0 μ H σ w
 old:∀id,id.1<n0->μ0 id=none->μ id=none
theorem RI.step{n0:Nat}{is:List I}{μ0:Id->Option Value}{H0:Addr->Option Value}{σ0:Aq}{w0:World}{rem rem':List Nat}{k:Nat}(hri:RI O nt ep n0 is μ0 H0 σ0 w0 rem env σ a w n μ H)(hd:DG is=true)(hlen:∀j∈rem,j<is.length)(hk:k∈rem)
  (hsub:∀j∈rem',j∈rem/\j≠k)(hnt:∀d,(is.getD k default).dst=some d->d<nt){val:Value}{n':Nat}{μ':Id->Option Value}{H':Addr->Option Value}{w':World}(hdone:J1 O ep (is.getD k default).dst σ n μ H w v σ' val n' μ' H' w') :
  RI O nt ep n0 is μ0 H0 σ0 w0 rem' (put env (is.getD k default).dst v) σ' (a.put (is.getD k default).dst val) w' n' μ' H' where
 rl:=(hri.rl.mono hdone.fr.mu hdone.fr.hp).put hnt hdone.rel
 hp:=hdone.hp
 ep_lt:=AuD hri.ep_lt hdone.le
 n0_le:=hri.n0_le
 free j hj d hd':=by
  obtain⟨h1,h2⟩:=hsub j hj
  refine hdone.fresh (ep,d) hri.ep_lt (fun dd hdd he=>?_) (hri.free j h1 d hd')
  cases he
  exact h2 (ZP hd (hlen j h1) (hlen k hk) hd' hdd)
 fr:=hri.fr.trans hdone.fr
 old id hid h0:=by
  refine hdone.fresh id (AuD (AuD hid hri.n0_le) (Nat.le_of_lt hri.ep_lt)) (fun dd _ he=>?_) (hri.old id hid h0)
  have:=hri.n0_le
  rw[he] at hid
  simp at hid
  omega
variable{n0:Nat}{is:List I}{μ0:Id→Option Value}{H0:Addr→Option Value}{σ0:Aq}{w0:World}{K:BB→Aq→Prop}{Q:Exit→Act→World→Prop}
theorem Qu(t:Iu P nt ops ops.toList is=true)(B:DG is=true)
  (A:∀env σ a w n μ H,K env σ->RI O nt ep n0 is μ0 H0 σ0 w0 [] env σ a w n μ H->Q .normal a w) :
  ∀(c:List Nat) (env:BB) (σ:Aq) (a:Act) (w:World) (n:Nat) (μ:Id->Option Value) (H:Addr->Option Value),c.Nodup->(∀k∈c,k<is.length)->Ay P O ep (c.map λk=>is.getD k default) env σ K->
   RI O nt ep n0 is μ0 H0 σ0 w0 c env σ a w n μ H->wpOps P ops Q c a w
 | [],env,σ,a,w,n,μ,H,_,_,o,b=>A _ _ _ _ _ _ _ o b
 | k::c,env,σ,a,w,n,μ,H,s,p,o,b=>by
  obtain⟨r,x⟩:=Ja t;rw[wpOps_cons];have E:k<ops.toList.length:=by rw[r];exact p k (by simp)
  have y:k<ops.size:=by simpa using E
  have C:ops[k]?=some ops[k]:=AxK y;have g:=x k ops[k] (by rw[AxN];exact C);simp only[Ao7,Ay] at o;rw[CL] at o;obtain⟨v,σ',q,o⟩:=o;refine Ko C g b.rl b.hp b.ep_lt (λd h=>b.free k (by simp) d h) q _ Q (λval n' z D w' i=>?_);refine Qu t B A c _ σ' _ w' n' z D (AzI.1 s).2 (λj u=>p j (by simp[u])) o
   (b.step B p (by simp) (λj u=>⟨by simp[u],λe=>(AzI.1 s).1 (by rw[<-e];exact u)⟩) (λd h=>?_) i)
  unfold Vb at g;simp only[AaS] at g;have:=g.1.1.2;rw[h] at this;simpa using this
def AbR(ops:Array Oper)(j i:Nat):Bool:=
 match ops[i]? with
 | some o=>o.after.any λe=>e.on==j&&Region.binds .any e
 | none=>false
def LU(ops:Array Oper):List Nat->Bool
 | []=>false
 | [_]=>true
 | j::i::r=>AbR ops j i&&LU ops (i::r)
def KB(ops:Array Oper)(is:List I)(paths:List (List Nat)):Bool:=
 (List.range is.length).all λi=>(List.range i).all λj=>
  M7 (is.getD j default) ((is.getD i default).dropd ((is.drop j).take (i-j)))||paths.any λp=>p.head? == some j&&p.getLast? == some i&&LU ops p
def G1(ops:Array Oper):Bool:=
 (List.range ops.size).all λi=>match ops[i]? with
  | some o=>o.after.all λe=>!Region.binds .any e||decide (e.on<i)
  | none=>true
def Vx(ops:Array Oper)(b:Array Bool):Prop:=∀i j,b.getD i true=true->i<ops.size->AbR ops j i=true->b.getD j false=true
theorem MA{b j i}(g:G1 ops=true)(c:i∈Region.ready .any ops b)(e:AbR ops j i=true):b.getD j false=true:=by unfold Region.ready at c;simp only[Ayd,A0A,AaS] at c;have ⟨hi,_,h⟩:=c;unfold AbR at e;grind
theorem IK{b}(o:G1 ops=true)(q:Vx ops b)(k:b.size=ops.size){i}(s:i∈Region.ready .any ops b):∀(p) (j),p.head?=some j->p.getLast?=some i->LU ops p=true->j≠i->b.getD j false=true
 | [],_,h,_,_,_=>by simp at h
 | [x],j,c,e,_,g=>by simp at c e;omega
 | x::y::r,j,c,e,hp,g=>by
  simp only[List.head?_cons,Ao3] at c;subst c;simp only[LU,AaS] at hp;by_cases t:y=i
  .subst t;exact MA o s hp.1
  .have:=IK o q k s (y::r) y rfl (by simpa using e) hp.2 t;have u:y<b.size:=by grind
   refine q y x ?_ (by omega) hp.1;grind
theorem UC{m x:Nat}(hm:m<=ops.size)(hls:is.length=m)(hat:∀k o,k<m->ops[k]?=some o->Vb P nt ops o (is.getD k default)=true)(hd:DG is=true)(hb:G1 ops=true){paths:List (List Nat)}(hord:KB ops is paths=true)
  (hlast:∀k,m<=k->k<ops.size->∀j,j<m->∃p,List.head? p=some j/\List.getLast? p=some k/\LU ops p=true)(hK:TU K)
  (hQ:∀listed env σ a w n μ H,listed.size=ops.size->(∀k,k<ops.size->(listed.getD k true=false↔m<=k))->K env σ->RI O nt ep n0 is μ0 H0 σ0 w0 [] env σ a w n μ H->wpAny P .any ops Q x listed a w) :
  ∀(fuel:Nat) (rem:List Nat) (listed:Array Bool) (env:BB) (σ:Aq) (a:Act) (w:World) (n:Nat) (μ:Id->Option Value) (H:Addr->Option Value),
   rem.length=fuel->rem.Pairwise (· < ·)->(∀k,k∈rem↔k<m/\listed.getD k true=false)->(∀k,m<=k->k<ops.size->listed.getD k true=false)->listed.size=ops.size->Vx ops listed->Ay P O ep (rem.map fun k=>is.getD k default) env σ K->
   RI O nt ep n0 is μ0 H0 σ0 w0 rem env σ a w n μ H->wpAny P .any ops Q (fuel+x) listed a w:=by
 intro fuel
 have readyNil:∀(rem:List Nat) (listed:Array Bool),rem.Pairwise (· < ·)->(∀k,k∈rem↔k<m/\listed.getD k true=false)->listed.size=ops.size->Region.ready .any ops listed=[]->rem=[]:=by
  intro rem listed hsort hmem hsz hnil
  cases rem with
  | nil=>rfl
  | cons k r=>
   exfalso
   obtain⟨hkm,hkl⟩:=(hmem k).1 (by simp)
   have hk:k<ops.size:=AuD hkm hm
   have:k∈Region.ready .any ops listed:=by
    unfold Region.ready
    have ho:ops[k]?=some ops[k]:=AxK hk
    simp only[Ayd,A0A,AaS,ho,Azw,Option.getD_some]
    refine⟨hk,by simpa using hkl,A1v.2 fun e he=>?_⟩
    unfold G1 at hb
    have hbi:=Ao8.1 hb k (by simpa using hk)
    rw[ho] at hbi
    have hbe:=A1v.1 hbi e he
    cases hbnd:Region.binds .any e with
    | false=>rfl
    | true=>
    simp only[hbnd,Azx,A0Q,Avv] at hbe⊢
    have hon:e.on<k:=hbe
    have hnr:e.on∉k::r:=by
     intro h
     rcases Ahk.1 h with h|h
     .omega
     .have:=(A1w.1 hsort).1 _ h;omega
    have hlt:e.on<listed.size:=by omega
    have h2:¬(listed.getD e.on true=false):=fun h=>hnr ((hmem _).2 ⟨by omega,h⟩)
    have h3:listed.getD e.on true=listed.getD e.on false:=by simp[Array.getD,hlt]
    rw[<-h3]
    simpa using h2
   rw[hnil] at this
   cases this
 induction fuel with
 | zero=>
  intro rem listed env σ a w n μ H hfuel hsort hmem hge hsz hc hi hri
  have:rem=[]:=Axx hfuel
  subst this
  rw[AzN]
  refine hQ _ _ _ _ _ _ _ _ hsz (fun k hk=>⟨fun h=>?_,fun h=>hge k h hk⟩) hi hri
  rcases Az0 k m with hlt|hge2
  .exact absurd ((hmem k).2 ⟨hlt,h⟩) (by simp)
  .exact hge2
 | succ fuel ih=>
  intro rem listed env σ a w n μ H hfuel hsort hmem hge hsz hc hi hri
  rw[show fuel+1+x=(fuel+x)+1 by omega]
  refine⟨fun hnil=>?_,fun k hk=>?_⟩
  .have:=readyNil rem listed hsort hmem hsz hnil
   subst this
   simp at hfuel
  .have hk':=hk
   unfold Region.ready at hk'
   simp only[Ayd,A0A,AaS,AsZ] at hk'
   have hkm:k<m:=by
    rcases Az0 k m with h|h
    .exact h
    .exfalso
     cases rem with
     | nil=>simp at hfuel
     | cons j r=>
      obtain⟨hjm,hjf⟩:=(hmem j).1 (by simp)
      obtain⟨p,hp1,hp2,hp3⟩:=hlast k h hk'.1 j hjm
      have hl:=IK hb hc hsz hk p j hp1 hp2 hp3 (by omega)
      have hlt:j<listed.size:=by omega
      have h3:listed.getD j true=listed.getD j false:=by simp[Array.getD,hlt]
      rw[h3,hl] at hjf
      cases hjf
   have hkrem:k∈rem:=(hmem k).2 ⟨hkm,hk'.2.1⟩
   obtain⟨l1,l2,rfl⟩:=List.append_of_mem hkrem
   have hs1:∀y∈l1,y<k:=fun y hy=>(AzX.1 hsort).2.2 y hy k (by simp)
   have hs2:∀y∈l2,k<y:=fun y hy=>(A1w.1 (AzX.1 hsort).2.1).1 y hy
   have hrl:∀j∈l1++k::l2,j<is.length:=fun j hj=>by rw[hls];exact((hmem j).1 hj).1
   have hi':Ay P O ep ((is.getD k default).dropd (l1.map fun k=>is.getD k default)::((l1++l2).map fun k=>is.getD k default)) env σ K:=by
    rw[A0D] at hi⊢
    rw[Ao7] at hi
    have none_lk:∀j∈l1++k::l2,∀d,(is.getD j default).dst=some d->lk σ (ep,d)=none:=by
     intro j hj d hd'
     cases hx:lk σ (ep,d) with
     | none=>rfl
     | some x=>
      have hm:=hri.free j hj d hd'
      obtain⟨_,hm'⟩:=(hri.hp.ents _ _ hx).named
      rw[hm] at hm';cases hm'
    have hfree:∀l:List Nat,l.Pairwise (· < ·)->(∀j∈l,j∈l1)->Vf (is.getD k default) (l.map fun k=>is.getD k default):=by
     intro l
     induction l with
     | nil=>intro _ _;trivial
     | cons j l ih=>
      intro hp hl
      have hj:=hl j (by simp)
      refine⟨?_,ih (A1w.1 hp).2 (fun m hm=>hl m (by simp[hm]))⟩
      refine Xd (l:=(is.drop j).take (k-j)) (Qk fun y hy d hd'=>?_) ?_
      .obtain⟨m,hm,rfl⟩:=Aov.1 (show y∈(j::l).map (fun k=>is.getD k default) from hy)
       have hmk:=hs1 m (hl m hm)
       have hjm:j<=m:=by
        rcases Ahk.1 hm with h|h
        .omega
        .exact Nat.le_of_lt ((A1w.1 hp).1 m h)
       have hml:=hrl m (Axe _ (hl m hm))
       refine⟨is.getD m default,?_,hd'⟩
       refine AxL.2 ⟨m-j,?_⟩
       rw[A0w,Amm (by omega),A1u,show j+(m-j)=m by omega]
       simp[List.getD,hml]
      .have hjk:=hs1 j hj
       unfold KB at hord
       have h1:=Ao8.1 hord k (by rw[A0A,hls];exact hkm)
       have h2:=Ao8.1 h1 j (by simpa using hjk)
       simp only[AzS] at h2
       rcases h2 with h2|h2
       .exact h2
       .exfalso
        obtain⟨p,_,hp⟩:=A0z.1 h2
        simp only[AaS,AjK] at hp
        have hl:=IK hb hc hsz hk p j hp.1.1 hp.1.2 hp.2 (by omega)
        have hjr:=(hmem j).1 (Axe _ hj)
        have hlt:j<listed.size:=by omega
        have h3:listed.getD j true=listed.getD j false:=by simp[Array.getD,hlt]
        rw[h3,hl] at hjr
        exact absurd hjr.2 (by simp)
    refine lW hK (hfree l1 (AzX.1 hsort).1 (fun j hj=>hj)) ?_ (fun y hy d hd'=>?_) (fun d hd'=>none_lk k (by simp) d hd') (fun s hs y hy d hd' hre=>?_) hi
    .have hnd1:l1.Nodup:=((AzX.1 hsort).1).imp (fun h=>Nat.ne_of_lt h)
     have:∀(l:List Nat),l.Nodup->(∀j∈l,j<is.length)->((l.map fun k=>is.getD k default).filterMap (·.dst)).Nodup:=by
      intro l
      induction l with
      | nil=>intro _ _;simp
      | cons j l ih=>
       intro hn hl
       rw[Ao7,List.filterMap_cons]
       split
       .exact ih (AzI.1 hn).2 (fun m hm=>hl m (by simp[hm]))
       .rename_i b hb
        refine AzI.2 ⟨fun hmem=>?_,ih (AzI.1 hn).2 (fun m hm=>hl m (by simp[hm]))⟩
        obtain⟨z,hz,hzd⟩:=A2q.1 hmem
        obtain⟨m,hm,rfl⟩:=Aov.1 hz
        have:=ZP hd (hl j (by simp)) (hl m (by simp[hm])) hb hzd
        subst this
        exact(AzI.1 hn).1 hm
     exact this l1 hnd1 (fun j hj=>hrl j (Axe _ hj))
    .obtain⟨j,hj,rfl⟩:=Aov.1 hy
     exact none_lk j (Axe _ hj) d hd'
    .obtain⟨j,hj,rfl⟩:=Aov.1 hy
     have hm:=hri.free j (Axe _ hj) d hd'
     have hv:=hri.rl.at_ s
     cases hg:get env s with
     | ref id off=>rw[hg] at hv hre;obtain⟨bk,hm',_⟩:=hv.ref_inv;cases hre;rw[hm] at hm';cases hm'
     | aref id ix sz off=>rw[hg] at hv hre;obtain⟨_,_,_,hm',_⟩:=hv.aref_inv;cases hre;rw[hm] at hm';cases hm'
     | arr id=>rw[hg] at hv hre;obtain⟨hm',_⟩:=hv.arr_inv;cases hre;rw[hm] at hm';cases hm'
     | _=>rw[hg] at hre;simp[C3] at hre
   have ho:ops[k]?=some ops[k]:=AxK hk'.1
   have hokk:=hat k ops[k] hkm ho
   simp only[Ay] at hi'
   rw[CL] at hi'
   obtain⟨v,σ',hstep,hi'⟩:=hi'
   have hknt:∀d,(is.getD k default).dst=some d->d<nt:=fun d hd'=>by
    unfold Vb at hokk
    simp only[AaS] at hokk
    have:=hokk.1.1.2
    rw[hd'] at this
    simpa using this
   have hnotin:k∉l1++l2:=fun h=>by
    rcases AfJ.1 h with h|h
    .exact Nat.lt_irrefl _ (hs1 k h)
    .exact Nat.lt_irrefl _ (hs2 k h)
   have hsub:∀j∈l1++l2,j∈l1++k::l2/\j≠k:=fun j hj=>⟨by
    rcases AfJ.1 hj with h|h
    .exact Axe _ h
    .exact Axf _ (by simp[h]),fun e=>hnotin (e ▸ hj)⟩
   refine Ko (i:=(is.getD k default).dropd (l1.map fun k=>is.getD k default)) ho (show Vb P nt ops ops[k] ((is.getD k default).dropd (l1.map fun k=>is.getD k default))=true from hokk) hri.rl hri.hp hri.ep_lt (fun d hd'=>hri.free k hkrem d hd') hstep _ Q (fun val n' μ' H' w' hdone=>?_)
   have hget:∀j,(listed.setIfInBounds k true).getD j true=if j=k then true else listed.getD j true:=by
    intro j
    by_cases hjk:j=k
    .subst hjk
     simp[AvD,Array.getElem?_setIfInBounds]
     split<;>rfl
    .simp[AvD,A1t (Ao0 hjk),hjk]
   refine ih (l1++l2) (listed.setIfInBounds k true) _ σ' _ w' n' μ' H' ?_ ?_ ?_ (fun j hj hj2=>by rw[hget,AfL (by omega)];exact hge j hj hj2) ?_ ?_ hi' (hri.step hd hrl hkrem hsub hknt hdone)
   .simp at hfuel⊢;omega
   .refine AzX.2 ⟨(AzX.1 hsort).1,(A1w.1 (AzX.1 hsort).2.1).2,fun x hx y hy=>(AzX.1 hsort).2.2 x hx y (by simp[hy])⟩
   .intro j
    rw[hget]
    constructor
    .intro hj
     obtain⟨h1,h2⟩:=hsub j hj
     rw[AfL h2]
     exact(hmem j).1 h1
    .rintro⟨h1,h2⟩
     split at h2
     .cases h2
     .rename_i hne
      have:=(hmem j).2 ⟨h1,h2⟩
      rcases AfJ.1 this with h|h
      .exact Axe _ h
      .rcases Ahk.1 h with h|h
       .exact absurd h hne
       .exact Axf _ h
   .simpa using hsz
   .intro i j hi hlt he
    rw[hget] at hi
    have hlist:listed.getD j false=true:=by
     by_cases hik:i=k
     .subst hik;exact MA hb hk he
     .rw[AfL hik] at hi;exact hc i j hi hlt he
    have hjl:j<listed.size:=by
     rcases Az0 j listed.size with h|h
     .exact h
     .simp[Array.getD,A2d.2 h] at hlist
    have h1:(listed.setIfInBounds k true).getD j false=(listed.setIfInBounds k true).getD j true:=by simp[Array.getD,hjl]
    rw[h1,hget]
    by_cases hjk:j=k
    .rw[Amm hjk]
    .have h3:listed.getD j true=listed.getD j false:=by simp[Array.getD,hjl]
     rw[AfL hjk,h3];exact hlist
theorem gC(hok:Iu P nt ops ops.toList is=true)(hd:DG is=true)(hb:G1 ops=true){paths:List (List Nat)}(hord:KB ops is paths=true)(hK:TU K)
  (hQ:∀env σ a w n μ H,K env σ->RI O nt ep n0 is μ0 H0 σ0 w0 [] env σ a w n μ H->Q .normal a w) :
  ∀(fuel:Nat) (rem:List Nat) (listed:Array Bool) (env:BB) (σ:Aq) (a:Act) (w:World) (n:Nat) (μ:Id->Option Value) (H:Addr->Option Value),
   rem.length=fuel->rem.Pairwise (· < ·)->(∀k,k∈rem↔k<ops.size/\listed.getD k true=false)->listed.size=ops.size->Vx ops listed->Ay P O ep (rem.map fun k=>is.getD k default) env σ K->
   RI O nt ep n0 is μ0 H0 σ0 w0 rem env σ a w n μ H->wpAny P .any ops Q fuel listed a w:=by
 obtain⟨hlen,hat⟩:=Ja hok
 have hls:is.length=ops.size:=by rw[<-hlen];simp
 intro fuel rem listed env σ a w n μ H h1 h2 h3 h4 h5 h6 h7
 refine UC (x:=0) (Ab6 _) hls (fun k o hk ho=>hat k o (by rw[AxN];exact ho)) hd hb hord (fun k h1 h2=>by omega) hK (fun listed env σ a w n μ H hsz hl hk hri=>?_) fuel rem listed env σ a w n μ H h1 h2 h3 (fun k h1 h2=>by omega) h4 h5 h6 h7
 refine⟨?_,hQ _ _ _ _ _ _ _ hk hri⟩
 cases h:Region.ready .any ops listed with
 | nil=>rfl
 | cons k r=>
  exfalso
  have hk:k∈Region.ready .any ops listed:=by rw[h];simp
  unfold Region.ready at hk
  simp only[Ayd,A0A,AaS,AsZ] at hk
  have:=(hl k hk.1).1 hk.2.1
  omega
end
end Go.Ir
end
section
namespace Go.Ir
open Go.RowKit
structure St where
 env:BB
 σ:Aq
 n:Nat
structure Sg where
 μ:Id->Option Value
 H:Addr->Option Value
 σ:Aq
 w:World
 n:Nat
def At(O:World)(nt:Nat)(B:Sg)(st:St)(a:Act)(w:World):Prop:=
 ∃μ H,Rl μ H nt st.env a/\Hp O st.σ st.n μ H w/\Fr B.μ B.H B.σ B.w μ H st.σ w/\(∀id,id.1<B.n->B.μ id=none->μ id=none)/\B.n<=st.n
def restrict(live:List Nat)(env:BB):BB:=live.map λs=>(s,get env s)
theorem Cm live env s:get (restrict live env) s=get env s\/get (restrict live env) s=.any:=by
 induction live with
 | nil=>exact .inr rfl
 | cons t r b=>
  simp only[restrict,Ao7,get];by_cases h:t=s
  .grind
  .simp only[AfL h];exact b
def WZ(nt:Nat)(ops:Array Oper)(b e:Nat)(x:X):Bool:=
 match ops.toList with
 | [o1,c]=>o1.dst==some b&&o1.guard.isNone&&(match o1.op with|.next x' false=>CF x' x|_=>false)&&c.dst==some e&&c.guard.isNone&&(match c.op with|.extract (.tmp t) 0=>t==b|_=>false)&&decide (b<nt)&&decide (e<nt)
 | _=>false
def Jj(P:Program)(nt:Nat)(o:Oper)(d:Nat)(f:FuncId)(args:List X):Bool:=
 o.dst==some d&&decide (d<nt)&&o.guard.isNone&&(match o.op with|.call c=>(match c.callee with|.value (.func b)=>b==f&&Bg c.args.toList args|_=>false)|_=>false)
def Xp(P:Program)(nt:Nat)(ops:Array Oper)(l1:List I)(d:Nat)(f:FuncId)(args:List X)(b:List I):Bool:=
 Iu P nt ops (ops.toList.take l1.length) l1&&(match ops[l1.length]? with|some o=>Jj P nt o d f args|none=>false)&&Iu P nt ops (ops.toList.drop (l1.length+1)) b&&DG l1&&DG b
def V1(P:Program)(nt:Nat)(ops:Array Oper)(l1:List I)(d:Nat)(f:FuncId)(args:List X)(paths:List (List Nat)):Bool:=
 Iu P nt ops (ops.toList.take l1.length) l1&&(match ops[l1.length]? with|some o=>Jj P nt o d f args|none=>false)&&decide (ops.size=l1.length+1)&&DG l1&&(P.follows .mixedOrders&&G1 ops&&KB ops l1 paths) &&
  (List.range l1.length).all λj=>paths.any λp=>p.head? == some j&&p.getLast? == some l1.length&&LU ops p
def Bf(P:Program)(nt:Nat):Code->IC->Bool
 | .region _ ops g,.ops l _ paths=>Iu P nt ops ops.toList l&&DG l&&(!g||(P.follows .mixedOrders&&G1 ops&&KB ops l paths))
 | .region _ ops false,.mnext i j x live=>WZ nt ops i j x
 | .region _ ops false,.seqr l _=>Iu P nt ops ops.toList l&&DG l
 | .region _ ops false,.opx l1 _ d f args k _=>Xp P nt ops l1 d f args k
 | .region _ ops true,.opxd l1 _ d f args _ paths=>V1 P nt ops l1 d f args paths
 | .seq x y,.seq a b=>Bf P nt x a&&Bf P nt y b
 | .cond c x y,.cond h a b=>CF c h&&Bf P nt x a&&Bf P nt y b
 | .block id x,.block e a=>id==e&&Bf P nt x a
 | .loop x,.loop a=>Bf P nt x a
 | .exit id,.exit e=>id==e
 | .ret,.ret=>true
 | .skip,.skip=>true
 | x,.wk a=>Bf P nt x a
 | _,.opxe ..=>true
 | _,_=>false
def It(P:Program)(O:World)(nt:Nat)(ic:IC)(Q:Exit->St->Prop)(st:St):Prop:=
 ∀b,Bf P nt b ic=true->∀B a w,At O nt B st a w->b.wp P (λe g w'=>∃c,Q e c/\At O nt B c g w') a w
theorem AkO{P O nt ic Q st}(h:It P O nt ic Q st):It P O nt (.wk ic) Q st:=λb c=>h b (by cases b<;>simpa only[Bf] using c)
def AvJ(P:Program)(O:World)(nt:Nat)(b:IC)(Q:Exit->St->Prop):Exit->St->Prop
 | .normal,st=>It P O nt b Q st
 | e,st=>Q e st
def Ek(id:Nat)(Q:Exit->St->Prop):Exit->St->Prop
 | .exit b,st=>if b=id then Q .normal st else Q (.exit b) st
 | e,st=>Q e st
section rules
variable{P:Program}{O:World}{nt:Nat}{Q Q':Exit→St→Prop}{st:St}
theorem UV{ic}(h:It P O nt ic Q st)(o:∀e st,Q e st->Q' e st):It P O nt ic Q' st:=
 λb k B a w c=>wp_mono (h b k B a w c) λe a w ⟨i,g,j⟩=>⟨i,o _ _ g,j⟩
theorem Ad2{x y}(h:It P O nt x (AvJ P O nt y Q) st):It P O nt (.seq x y) Q st:=by
 intro o g B a w k;unfold Bf at g;split at g<;>try (cases g;done)
 all_goals rename_i j
 all_goals try (cases j;done)
 rename_i p q x' t;cases j;simp only[AaS] at g;refine wp_seq (wp_mono (h p g.1 B a w k) λe a w r=>?_);obtain⟨b,i,c⟩:=r;cases e with
 | normal=>exact i q g.2 B a w c
 | exit id=>exact⟨b,i,c⟩
 | goto l=>exact⟨b,i,c⟩
 | ret=>exact⟨b,i,c⟩
 | panic s=>exact⟨b,i,c⟩
 | outgrown=>exact⟨b,i,c⟩
theorem pN(h:Q .normal st):It P O nt .skip Q st:=by intro b e B a w c;cases b<;>simp[Bf] at e;exact wp_skip ⟨st,h,c⟩
theorem Acx(h:Q .ret st):It P O nt .ret Q st:=by intro b e B a w c;cases b<;>simp[Bf] at e;exact wp_ret ⟨st,h,c⟩
theorem zS{id}(h:Q (.exit id) st):It P O nt (.exit id) Q st:=by intro b e B a w c;cases b<;>simp[Bf] at e;subst e;exact wp_exit ⟨st,h,c⟩
theorem iB{id x}(h:It P O nt x (Ek id Q) st):It P O nt (.block id x) Q st:=by
 intro j k B a w o;cases j<;>simp[Bf] at k;obtain⟨rfl,k⟩:=k;refine wp_block (wp_mono (h _ k B a w o) λe a w p=>?_);obtain⟨b,c,g⟩:=p;cases e with
 | exit q=>
  simp only[Ek] at c;simp only[Exit.inBlock];split
  .rename_i i;rw[Amm i] at c;exact⟨b,c,g⟩
  .rename_i i;rw[AfL i] at c;exact⟨b,c,g⟩
 | normal=>exact⟨b,c,g⟩
 | goto l=>exact⟨b,c,g⟩
 | ret=>exact⟨b,c,g⟩
 | panic r=>exact⟨b,c,g⟩
 | outgrown=>exact⟨b,c,g⟩
theorem TJ{c x y t}(r:ev (get st.env) c=.b t)(s:t=true->It P O nt x Q st)(u:t=false->It P O nt y Q st):It P O nt (.cond c x y) Q st:=by intro g j B a w i;cases g<;>simp[Bf] at j;obtain⟨⟨k,o⟩,p⟩:=j;have e:=i;obtain⟨μ,H,q,_⟩:=i;have:=Ar q k;rw[r] at this;exact wp_cond_split this.b_inv (λh=>s h _ o B a w e) (λh=>u h _ p B a w e)
theorem aZ{c x y}(s:ev (get st.env) c=.ub)(u:It P O nt x Q st)(z:It P O nt y Q st):It P O nt (.cond c x y) Q st:=by intro g j B a w i;cases g<;>simp[Bf] at j;obtain⟨⟨o,p⟩,q⟩:=j;have b:=i;obtain⟨μ,H,r,_⟩:=i;have k:=Ar r o;rw[s] at k;obtain⟨t,e⟩:=k.ub_inv;exact wp_cond_split e (λh=>u _ p B a w b) (λh=>z _ q B a w b)
theorem SZ{c:Code}{B:Exit->Act->World->Prop}(I:Nat->Act->World->Prop)(r:∀m a w,I m a w->c.wp P (Exit.then (λs w'=>∃A,A<m/\I A s w') B) a w)(m:Nat)(a:Act)(w:World)(y:I m a w):(Code.loop c).wp P B a w:=by
 intro b k cs;have key:∀n a w,I n a w->∃e s w',B e s w'/\Arrives P (lone (b.at a (.code c :: .inLoop c::k)) cs w) b k cs e s w':=by
  intro n
  induction n using Nat.strongRecOn with
  | _ n D=>
   intro a w hI;obtain⟨e,h,i,o,g⟩:=r n a w hI b (.inLoop c::k) cs;cases e with
   | normal=>obtain⟨A,C,p⟩:=o;obtain⟨u,t,z,q,j⟩:=D A C h i p;exact⟨u,t,z,q,.of_steps (Steps.trans g (.one step_inLoop)) j⟩
   | exit id=>exact⟨_,h,i,o,.pass (x:=.inLoop c) rfl (λ_ _=>.inl (by simp)) g⟩
   | goto l=>exact⟨_,h,i,o,.pass (x:=.inLoop c) rfl (λ_ _=>.inl (by simp)) g⟩
   | ret=>exact⟨_,h,i,o,.pass (x:=.inLoop c) rfl (λ_ _=>.inl (by simp)) g⟩
   | panic E=>exact⟨_,h,i,o,.pass (x:=.inLoop c) rfl (λ_ _=>.inl (by simp)) g⟩
   | outgrown=>exact⟨_,h,i,o,.pass (x:=.inLoop c) rfl (λ_ _=>.inl (by simp)) g⟩
 obtain⟨e,s,w',o,g⟩:=key m a w y;exact⟨e,s,w',o,.of_steps (.one step_loop) g⟩
def Zn(Inv:Nat->St->Prop)(m:Nat)(Q:Exit->St->Prop):Exit->St->Prop
 | .normal,st=>∃b,b<m/\Inv b st
 | e,st=>Q e st
theorem Abf{c Inv}(g:∀m st,Inv m st->It P O nt c (Zn Inv m Q) st) m (h:Inv m st):It P O nt (.loop c) Q st:=by
 intro o u B a w r;cases o<;>simp[Bf] at u;rename_i k;refine SZ (λm a w=>∃st,Inv m st/\At O nt B st a w) (λm a w hI=>?_) m a w ⟨st,h,r⟩;obtain⟨t,q,p⟩:=hI;refine wp_mono (g m t q k u B a w p) λe a w x=>?_;obtain⟨b,j,i⟩:=x;cases e with
 | normal=>obtain⟨z,s,y⟩:=j;exact⟨z,s,b,y,i⟩
 | exit id=>exact⟨b,j,i⟩
 | goto l=>exact⟨b,j,i⟩
 | ret=>exact⟨b,j,i⟩
 | panic A=>exact⟨b,j,i⟩
 | outgrown=>exact⟨b,j,i⟩
theorem Hp.more{σ n n' μ H w}(h:Hp O σ n μ H w)(c:n<=n'):Hp O σ n' μ H w:=
 ⟨h.base,h.pins,h.ents,h.unp,h.sep,λid b=>h.bd id (AoW c b)⟩
theorem Hp.drew{σ n μ H w}(h:Hp O σ n μ H w):Hp O σ n μ H w.drew:=by refine⟨h.base.drew,h.pins,λid e b=>?_,h.unp,h.sep,h.bd⟩;exact(h.ents id e b).keep (λ_ _ h=>h) (λ_ _ h=>h) (λ_ _=>rfl)
theorem RF{l live paths}
  (h:Ay P O st.n l st.env st.σ λenv σ=>∀n',st.n<n'->Q .normal ⟨restrict live env,σ,n'⟩):It P O nt (.ops l live paths) Q st:=by
 intro D W B a w Y;cases D<;>simp only[Bf] at W<;>try (cases W;done)
 rename_i id ops E;simp only[AaS,AzS,AsZ] at W;obtain⟨⟨A,hd⟩,o⟩:=W;obtain⟨μ,H,hr,hp,y,M,hn⟩:=Y;obtain⟨J,_⟩:=Ja A;have z:l.length=ops.size:=by rw[<-J];simp
 have r:(List.range l.length).map (λk=>l.getD k default)=l:=by
  apply Az7;intro k;by_cases p:k<l.length
  .simp[p,List.getD]
  .simp[p]
 replace h:Ay P O st.n l st.env st.σ λenv σ=>∃τ,DP σ τ/\∀n',st.n<n'->Q .normal ⟨restrict live env,τ,n'⟩:=Ec (λenv σ X=>⟨σ,DP.refl _,X⟩) h
 have hK:TU λenv σ=>∃τ,DP σ τ/\∀n',st.n<n'->Q .normal ⟨restrict live env,τ,n'⟩:=by
  intro env env' σ σ' hg hs X;obtain⟨τ,h1,h2⟩:=X;refine⟨τ,hs.symm.trans h1,λn' ad=>?_⟩;have:restrict live env'=restrict live env:=A0v λs _=>by rw[hg s]
  rw[this];exact h2 n' ad
 have F:∀w0,(∀(env:BB) (σ:Aq) (a:Act) (w:World) (n:Nat) (c:Id->Option Value) (x:Addr->Option Value),(∃τ,DP σ τ/\∀n',st.n<n'->Q .normal ⟨restrict live env,τ,n'⟩)->Fr B.μ B.H B.σ B.w μ H st.σ w0->RI O nt st.n st.n l μ H st.σ w0 [] env σ a w n c x->
   ∃U,Q .normal U/\At O nt B U a w):=by
  intro w0 env σ a w n c x C aa b;obtain⟨τ,hs,C⟩:=C;have u:∀id e,lk τ id=some e->lk σ id=some e:=λid e h=>by rw[hs id];exact h
  have g:=aa.trans b.fr;refine⟨⟨restrict live env,τ,n⟩,C n b.ep_lt,c,x,⟨b.rl.size,b.rl.defers,λs=>?_⟩,b.hp.part u,⟨g.mu,g.hp,g.size,g.keep,g.pin,λbk hb ho=>g.dom bk hb ?_⟩,λid G h0=>?_,AoW hn (Nat.le_of_lt b.ep_lt)⟩;rotate_left 1
  .obtain⟨id,e,hl,Z⟩:=ho;exact⟨id,e,u _ _ hl,Z⟩
  rotate_left 1
  .rcases Cm live env s with h|h
   .rw[h];exact b.rl.at_ s
   .rw[h];exact .any _
  .exact b.old id (AuD G hn) (M id G h0)
 have q:∀(R:List Nat),∀k∈R,∀d,(l.getD k default).dst=some d->μ (st.n,d)=none:=λR k _ d _=>hp.bd (st.n,d) (Ab6 _);cases E with
 | false=>
  refine wp_region ?_;refine Qu (O:=O) (ep:=st.n) (n0:=st.n) (μ0:=μ) (H0:=H) (σ0:=st.σ) (w0:=w) A hd (λenv σ a w n c x C b=>F _ env σ a w n c x C y b) (List.range ops.size) st.env st.σ a w (st.n+1) μ H List.nodup_range (λk p=>by rw[z];simpa using p) ?_
   ⟨hr,hp.more (Avb _),Ab4 _,Ab6 _,q _,Fr.refl _ _ _ _,λ_ _ h=>h⟩
  rw[<-z,r];exact h
 | true=>
  simp only[Bool.true_eq_false,false_or] at o;obtain⟨⟨L,he⟩,N⟩:=o;refine wp_region_draw λt=>?_;simp only[Region.schedule,L,Bool.true_or,AbA];refine wpAny_sound ops.size t _ a _ ?_;have ab:Fr B.μ B.H B.σ B.w μ H st.σ w.drew:=⟨y.mu,y.hp,y.size,y.keep,y.pin,y.dom⟩
  refine gC (O:=O) (ep:=st.n) (n0:=st.n) (μ0:=μ) (H0:=H) (σ0:=st.σ) (w0:=w.drew) A hd he N hK (λenv σ a w n c x C b=>F _ env σ a w n c x C ab b) ops.size (List.range ops.size) (Array.replicate ops.size false) st.env st.σ a w.drew (st.n+1) μ H (by simp) List.pairwise_lt_range (λk=>?_) (by simp) (λi j hi ac X=>?_) ?_
   ⟨hr,hp.drew.more (Avb _),Ab4 _,Ab6 _,q _,Fr.refl _ _ _ _,λ_ _ h=>h⟩
  .simp only[A0A];constructor
   .intro p;exact⟨p,by simp[Array.getD,p]⟩
   .intro p;exact p.1
  .simp[Array.getD,ac] at hi
  .rw[<-z,r];exact h
theorem sZ{l live}
  (h:Ay P O st.n l st.env st.σ λenv σ=>∀n',st.n<n'->Q .normal ⟨restrict live env,σ,n'⟩):It P O nt (.seqr l live) Q st:=by
 intro b e;refine RF (live:=live) (paths:=[]) h b ?_;cases b with
 | region rid ops c=>
  cases c with
  | true=>simp[Bf] at e
  | false=>simpa[Bf] using e
 | _=>simp[Bf] at e
end rules
end Go.Ir
end
section
namespace Go.Ir
open Go.RowKit
inductive JI (φ:Id->Option (List V)):V->V->Prop where
 | refl (v:V):JI φ v v
 | any (v:V):JI φ v .any
 | nil:JI φ .nil (.sl [])
 | arr (id:Id) (es es':List V) (h:φ id=some es) (hl:es.length=es'.length) (hc:∀(k:Nat) (c c':V),es[k]?=some c->es'[k]?=some c'->JI φ c c') (hk:∀(k:Nat) (c c':V),es[k]?=some c->es'[k]?=some c'->(cells c').length=(cells c).length/\c.ok=true/\c'.ok=true):JI φ (.arr id) (.sl es')
 | sl (es es':List V) (hl:es.length=es'.length) (hc:∀(k:Nat) (c c':V),es[k]?=some c->es'[k]?=some c'->JI φ c c') (hk:∀(k:Nat) (c c':V),es[k]?=some c->es'[k]?=some c'->(cells c').length=(cells c).length/\c.ok=true/\c'.ok=true):JI φ (.sl es) (.sl es')
 | agg (cs cs':List V) (hl:cs.length=cs'.length) (hc:∀(k:Nat) (c c':V),cs[k]?=some c->cs'[k]?=some c'->JI φ c c'):JI φ (.agg cs) (.agg cs')
 | tup (cs cs':List V) (hl:cs.length=cs'.length) (hc:∀(k:Nat) (c c':V),cs[k]?=some c->cs'[k]?=some c'->JI φ c c'):JI φ (.tup cs) (.tup cs')
theorem Vq{μ:Id->Option Value}{H:Addr->Option Value}{e:V}(c:e.ok=true){b:List Value}(h:AY μ H (cells e) b):∃val,Ap μ H e val/\val.cells.toList=b:=by
 have one:cells e=[e]->∃val,Ap μ H e val/\val.cells.toList=b:=by
  intro g;rw[g] at h
  match b,h with
  | [x],h=>refine⟨x,h.at_ 0 e x rfl rfl,?_⟩;have:=h.one x (by simp);cases x<;>first|rfl|simp[Value.oneCell'] at this
  | [],h=>have:=h.len;simp at this
  | _::_::_,h=>have:=h.len;simp at this
 cases e with
 | agg cs=>exact⟨.agg b.toArray,.agg cs b h.len h.one h.at_,rfl⟩
 | tup=>simp[V.ok] at c
 | any=>simp[V.ok] at c
 | _=>exact one rfl
theorem L7{μ:Id->Option Value}{H r:Addr->Option Value}:∀{es es':List V},es.length=es'.length->
  (∀(k:Nat) (c i:V),es[k]?=some c->es'[k]?=some i->(∀val,Ap μ H c val->Ap μ r i val)/\(cells i).length=(cells c).length/\c.ok=true/\i.ok=true)->
  ∀{g:List Value},AY μ H (AQ es) g->AY μ r (AQ es') g
 | [],[],_,_,g,h=>by have:g=[]:=Axx (by rw[<-h.len];rfl);subst this;exact AY.nil_
 | e::es,e'::es',j,u,g,h=>by
  have p:=u 0 e e' rfl rfl;have x:AQ (e::es)=cells e++AQ es:=by simp[AQ]
  have q:AQ (e'::es')=cells e'++AQ es':=by simp[AQ]
  rw[x] at h;rw[q];have s:=h.take (cells e).length;have t:=h.drop (cells e).length;rw[List.take_left] at s;rw[A2m] at t;have ⟨val,hv,hseg⟩:=Vq p.2.2.1 s;have o:=((p.1 val hv).toCells p.2.2.2).1;rw[hseg] at o;have y:=L7 (es:=es) (es':=es') (by simpa using j) (λk c i a b=>u (k+1) c i (by simpa using a) (by simpa using b)) t;have:=o.append y;simp_all
 | [],_::_,j,_,_,_=>by simp at j
 | _::_,[],j,_,_,_=>by simp at j
theorem Ap.le{φ μ H z}(W:∀a x,H a=some x->z a=some x)
  (U:∀id es,φ id=some es->∀val,μ id=some val->(∃A j,val=.slice A es.length j/\es.length<=j/\es.length<=AJ/\
   (es=[]\/∃(q:Addr) (sz:Nat) (g:List Value),A=some q/\(∀e∈es,(cells e).length=sz)/\AY μ H (AQ es) g/\∀(k) (v),g[k]?=some v->z (q.add k)=some v)))
  {v X}(R:JI φ v X):∀{val},Ap μ H v val->Ap μ z X val:=by
 have t:∀(es es':List V) (q:Addr) (j sz:Nat) (g:List Value),es.length=es'.length->
   (∀(k:Nat) (c p:V),es[k]?=some c->es'[k]?=some p->(∀val,Ap μ H c val->Ap μ z p val)/\(cells p).length=(cells c).length/\c.ok=true/\p.ok=true)->
   AY μ H (AQ es) g->es.length<=j->es.length<=AJ->(∀e∈es,(cells e).length=sz)->
   (∀(k:Nat) (v:Value),g[k]?=some v->z (q.add k)=some v)->Ap μ z (.sl es') (.slice (some q) es.length j):=by
  intro es es' q j sz g o L y G J M Y;have C:=L7 o L y;have:=Ap.slC (μ:=μ) (H:=z) es' q j sz g (by rw[<-o];exact G) (by rw[<-o];exact J) (λe D=>?_) C.len C.one Y C.at_
  .rw[o];exact this
  .obtain⟨k,u⟩:=AxL.1 D;have r:k<es.length:=by grind
   have Z:es[k]?=some es[k]:=Am7 r;grind
 induction R with
 | refl v=>intro val h;exact h.mono (λ_ _ h=>h) W
 | any v=>intro val h;exact .any val
 | nil=>intro val h;rw[h.nil_inv];exact .slE none 0
 | arr id es es' N o L u F=>
  intro val h;obtain⟨hm,_⟩:=h.arr_inv;obtain⟨A,j,rfl,G,J,M⟩:=U id es N val hm;rcases M with rfl|⟨q,sz,g,rfl,E,i,s⟩
  .have:es'=[]:=Axx (by rw[<-o];rfl);subst this;exact .slE _ _
  .exact t es es' q j sz g o (λk c p a b=>⟨λval y=>F k c p a b y,u k c p a b⟩) i G J E s
 | sl es es' o L u F=>
  intro val h;obtain⟨A,j,rfl,G,J,M⟩:=h.sl_inv;rcases M with rfl|⟨q,sz,g,rfl,E,i,s⟩
  .have:es'=[]:=Axx (by rw[<-o];rfl);subst this;exact .slE _ _
  .exact t es es' q j sz g o (λk c p a b=>⟨λval y=>F k c p a b y,u k c p a b⟩) i G J E (λk v u=>W _ _ (s k v u))
 | agg cs B o L F=>
  intro val h;obtain⟨g,rfl,i⟩:=h.isA_inv rfl;refine .agg B g (by rw[<-o];exact i.len) i.one (λk p v u y=>?_);have r:k<cs.length:=by grind
  have D:cs[k]?=some cs[k]:=Am7 r;exact F k _ _ D u (i.at_ k _ v D y)
 | tup cs B o L F=>
  intro val h;obtain⟨g,rfl,i⟩:=h.tup_inv;refine .tup B g (by rw[<-o];exact i.len) (λk p v u y=>?_);have r:k<cs.length:=by grind
  have D:cs[k]?=some cs[k]:=Am7 r;exact F k _ _ D u (i.at_ k _ v D y)
inductive Oy (φ:Id->Option (List V)):AP->AP->Prop where
 | box (v v':V) (h:JI φ v v') (hl:(cells v').length=(cells v).length) (ho:v.ok=true) (ho':v'.ok=true):Oy φ (.box v) (.box v')
 | tbox (t:TypeId) (v v':V) (h:JI φ v v') (hl:(cells v').length=(cells v).length) (ho:v.ok=true) (ho':v'.ok=true):Oy φ (.tbox t v) (.tbox t v')
 | arr (e sz:Nat) (es es':List V) (hl:es.length=es'.length) (hc:∀(k:Nat) (c c':V),es[k]?=some c->es'[k]?=some c'->JI φ c c'/\(cells c').length=(cells c).length/\c.ok=true/\c'.ok=true):Oy φ (.arr e sz es) (.arr e sz es')
 | refl (e:AP):Oy φ e e
/- cells pinned when the slices of φ are frozen -/
open Classical in
noncomputable def Bu(φ:Id->Option (List V))(μ:Id->Option Value)(H:Addr->Option Value)(w:World):Addr->Option Value:=λb=>
 match H b with
 | some v=>some v
 | none=>if ∃id es,φ id=some es/\Cl (μ id)=some b.block then w.cell? b else none
theorem At.weak{O:World}{nt:Nat}{B:Sg}{st:St}{a:Act}{w:World}(h:At O nt B st a w)(φ:Id->Option (List V)){env':BB}{σ':Aq}
  (ah:∀id es,φ id=some es->(∃e sz,lk st.σ id=some (.arr e sz es))/\lk σ' id=none)
  (aj:∀s,JI φ (get st.env s) (get env' s))(Z:∀id e',lk σ' id=some e'->∃e,lk st.σ id=some e/\Oy φ e e'){n':Nat}(hn:st.n<=n'):At O nt B ⟨env',σ',n'⟩ a w:=by
 obtain⟨μ,H,hr,hp,hf,al,au⟩:=h;have D:∀z v,H z=some v->Bu φ μ H w z=some v:=by intro z v u;simp only[Bu,u]
 have ac:∀{id es j},φ id=some es->Cl (μ id)=some j->GW μ st.σ j:=by intro id es j i J;obtain⟨⟨e,sz,hl⟩,_⟩:=ah id es i;exact⟨id,_,hl,J⟩
 have am:∀id es,φ id=some es->∀val,μ id=some val->(∃A F,val=.slice A es.length F/\es.length<=F/\es.length<=AJ/\
   (es=[]\/∃(z:Addr) (sz:Nat) (b:List Value),A=some z/\(∀e∈es,(cells e).length=sz)/\AY μ H (AQ es) b/\∀(k:Nat) (v:Value),b[k]?=some v->Bu φ μ H w (z.add k)=some v)):=by
  intro id es i val Y;obtain⟨⟨e,sz,hl⟩,_⟩:=ah id es i;obtain⟨b,_,R,M,aB,o⟩:=DO hp hl Y;rcases A1H es.length with h0|h0
  .have:es=[]:=Axx h0;subst this;rcases R.2 with⟨rfl,_⟩|⟨g,F,aq,rfl,_⟩
   .exact⟨none,0,rfl,Ab6 _,M,.inl rfl⟩
   .exact⟨_,F,rfl,Avz _,M,.inl rfl⟩
  .obtain⟨g,F,aq,rfl,hB,hg,aR,ai,aJ,aC⟩:=Hy R h0;refine⟨_,F,rfl,ai,M,.inr ⟨⟨g,0,none⟩,sz,b,rfl,aB,o,λk v hk=>?_⟩⟩;have af:=R.cells (g:=g) rfl k v hk;have r:H ((⟨g,0,none⟩:Addr).add k)=none:=hp.unp g (ac i (by simp[Y,Cl])) _ (by rw[CJ]);have ay:∃id es,φ id=some es/\Cl (μ id)=some ((⟨g,0,none⟩:Addr).add k).block:=⟨id,es,i,by rw[CJ,Y];rfl⟩;simp only[Bu,r];rw[Amm ay];exact af
 have o:∀{v v':V} {val:Value},JI φ v v'->Ap μ H v val->Ap μ (Bu φ μ H w) v' val:=λC u=>Ap.le D am C u;have ad:∀j,GW μ σ' j->GW μ st.σ j/\∀id es,φ id=some es->Cl (μ id)≠some j:=by rintro j ⟨id,e',hl,J⟩;obtain⟨e,X,_⟩:=Z id e' hl;refine⟨⟨id,e,X,J⟩,λaF es i L=>?_⟩;obtain⟨⟨e2,sz,G⟩,r⟩:=ah aF es i;have:=hp.sep _ _ _ _ j X G J L;subst this;rw[hl] at r;cases r
 refine⟨μ,Bu φ μ H w,⟨hr.size,hr.defers,λs=>o (aj s) (hr.at_ s)⟩,⟨hp.base,?_,?_,?_,?_,λid i=>hp.bd id (AoW hn i)⟩,⟨hf.mu,λz v u=>D z v (hf.hp z v u),hf.size,hf.keep,?_,?_⟩,al,AoW au hn⟩
 .intro z v u;simp only[Bu] at u;split at u
  .rename_i x hx;rw[<-u];exact hp.pins z x hx
  .split at u
   .exact u
   .cases u
 .intro id e' hl;obtain⟨e,X,C⟩:=Z id e' hl;have E:=hp.ents id e X;cases C with
  | refl=>exact E.keep (λ_ _ h=>h) D (λ_ _=>rfl)
  | box v v' C aw W N=>
   obtain⟨j,b,t,Y,hB,hh,hc⟩:=E;refine⟨j,b,t,Y,hB,hh,?_⟩;obtain⟨val,u,U⟩:=Vq W hc;have:=((o C u).toCells N).1
   rwa [U] at this
  | tbox t v v' C aw W N=>
   obtain⟨j,b,Y,hB,hh,hc⟩:=E;refine⟨j,b,Y,hB,hh,?_⟩;obtain⟨val,u,U⟩:=Vq W hc;have:=((o C u).toCells N).1
   rwa [U] at this
  | arr e sz es es' G ae=>
   obtain⟨v,b,Y,h1,h2,h3,h4,h5⟩:=E;refine⟨v,b,Y,h1,by rw[<-G];exact h2,by rw[<-G];exact h3,λx hx=>?_,L7 G (λk c c' p q=>⟨λval u=>o (ae k c c' p q).1 u,(ae k c c' p q).2⟩) h5⟩;obtain⟨k,hk⟩:=AxL.1 hx;have ak:k<es.length:=by rw[G];exact(Ao5.1 hk).1
   have ax:es[k]?=some es[k]:=Am7 ak;rw[(ae k _ _ ax hk).2.1];exact h4 _ (A18 ak)
 .intro j W z J;obtain⟨N,az⟩:=ad j W;simp only[Bu,hp.unp j N z J];rw[AfL];rintro⟨id,es,i,L⟩;exact az id es i (by rw[<-J];exact L)
 .intro id e aE e' j l1 l2 b1 b2;obtain⟨x,aG,_⟩:=Z id e l1;obtain⟨y,aH,_⟩:=Z aE e' l2;exact hp.sep _ _ _ _ j aG aH b1 b2
 .intro z J W;have h1:=hf.pin z J W;cases hh:H z with
  | some v=>simp only[Bu,hh];rw[<-h1,hh]
  | none=>
   simp only[Bu,hh];rw[AfL]
   .rw[<-h1,hh]
   .rintro⟨id,es,i,L⟩;exact W (hf.dom z.block J (ac i L))
 .intro j J W;exact hf.dom j J (ad j W).1
end Go.Ir
end
section
namespace Go.Ir
open Go.RowKit
inductive R where
 | t (s:Nat)
 | c (s n:Nat) (ag:Bool)
 deriving Inhabited
def okR(P:Program):ResultVar->R->Bool
 | .tmp t,.t s=>t==s
 | .cell t b,.c s n ag=>t==s&&CI P b==some n&&DU P b==some ag
 | _,_=>false
def SH(P:Program):List ResultVar->List R->Bool
 | [],[]=>true
 | x::xs,y::ys=>okR P x y&&SH P xs ys
 | _,_=>false
def M5(st:St):R->V->Prop
 | .t s,v=>get st.env s=v
 | .c s n ag,v=>∃id b u,get st.env s=.ref id b/\lk st.σ id=some (.box u)/\sub u b n ag=some v
def DZ(st:St):List R->List V->Prop
 | [],[]=>True
 | r::b,v::vs=>M5 st r v/\DZ st b vs
 | _,_=>False
def Kf:List V->V
 | [v]=>v
 | vs=>.tup vs
def Ao(P:Program)(f:FuncId)(nt:Nat)(ic:IC)(rs:List R):Bool:=
 match P.funcs[f]? with
 | some fn => (match fn.body with | some c => Bf P nt c ic | none => false)&&fn.ntmps==nt&&SH P fn.results.toList rs&&!(fn.name == "runtime.NumGoroutine")
 | none=>false
def params:Nat->List V->BB
 | _,[]=>[]
 | k,v::vs=>(k,v)::params (k+1) vs
theorem Kd:∀(k) (vs) (s),get (params k vs) s=if k<=s then(vs[s-k]?).getD .any else .any
 | k,[],s=>by simp[params,get]
 | k,v::vs,s=>by
  simp only[params,get];by_cases h:k=s
  .subst h;simp
  .rw[AfL h,Kd (k+1) vs s];grind
def Nw(tmps:Array Value):ResultVar->Sem Value
 | .tmp t=>pure (tmps.getD t undef)
 | .cell a t=>do loadVar t (<-asAddr (tmps.getD a undef))
theorem W6 b tmps:results b tmps=(do
  let vs <-b.results.mapM (Nw tmps)
  pure (if h:vs.size=1 then vs[0] else .tuple vs)):=by
 unfold results;have:(λx:ResultVar=>match x with
  | .tmp t=>(pure (tmps.getD t undef):Sem Value)
  | .cell a t=>do loadVar t (<-asAddr (tmps.getD a undef)))=Nw tmps:=by
  funext x;cases x<;>rfl
 rw[<-this];rfl
section
variable{P:Program}{O:World}{nt:Nat}
theorem Zt{st a w μ H}(z:Rl μ H nt st.env a)(hp:Hp O st.σ st.n μ H w) :
  ∀(rv) (rs) (vs),SH P rv rs=true->DZ st rs vs->∃c,
   (rv.mapM (Nw a.tmps)).run P w=.ok c w/\VRels μ H vs c
 | [],[],[],_,_=>⟨[],by simp,VRels.nil_⟩
 | x::xs,y::ys,v::vs,i,s=>by
  simp only[SH,AaS] at i;obtain⟨b,o⟩:=s;obtain⟨c,D,r⟩:=Zt z hp xs ys vs i.2 o;have one:∃val,(Nw a.tmps x).run P w=.ok val w/\Ap μ H v val:=by
   have p:=i.1;unfold okR at p;split at p
   .have:=beq_iff_eq.1 p;subst this;simp only[M5] at b;refine⟨_,rfl,?_⟩;rw[<-b];exact z.at_ _
   .rename_i Y ty ss nn ag;simp only[AaS,AjK] at p;obtain⟨⟨rfl,A⟩,t⟩:=p;obtain⟨id,B,u,M,U,X⟩:=b;have E:=z.at_ Y;rw[M] at E;obtain⟨C,W,G⟩:=E.ref_inv;obtain⟨F,g,t',q,_,N,L⟩:=hp.ents _ _ U;rw[W] at q;cases q;obtain⟨val,e,j⟩:=Mv A t w g.toList ⟨C,0,none⟩ B L (λk v R=>by rw[CJ,cell_of_row w C k g t' (0,0) N];simpa using R) X;refine⟨val,?_,j⟩;rw[CJ] at e;simp only[Nw,Ao1,G,asAddr,Aur,Aow,e]
   .cases p
  obtain⟨val,Z,J⟩:=one;refine⟨val::c,?_,VRels.cons J r⟩;simp_all
 | [],_::_,_,h,_=>by simp[SH] at h
 | _::_,[],_,h,_=>by simp[SH] at h
 | [],[],_::_,_,h=>h.elim
 | _::_,_::_,[],_,h=>h.elim
theorem GK{j st a w μ H}(k:Rl μ H nt st.env a)(hp:Hp O st.σ st.n μ H w){i vs}
  (h:SH P j.results.toList i=true)(c:DZ st i vs):∃val,(results j a.tmps).run P w=.ok val w/\Ap μ H (Kf vs) val:=by
 obtain⟨g,e,b⟩:=Zt k hp _ i vs h c;rw[W6,Array.mapM_eq_mapM_toList];simp only[Ao1,Sem.run_map,e,Aow]
 match vs,g,b with
 | [v],[val],b=>exact⟨val,by simp,b.at_ 0 v val rfl rfl⟩
 | [],[],b=>exact⟨.tuple #[],by simp,.tup [] [] rfl b.at_⟩
 | v::o::vs,x::x'::xs,b=>exact⟨.tuple (x::x'::xs).toArray,by simp,.tup _ _ b.len b.at_⟩
 | [],_::_,b=>have:=b.len;simp at this
 | [v],[],b=>have:=b.len;simp at this
 | [v],_::_::_,b=>have:=b.len;simp at this
 | _::_::_,[],b=>have:=b.len;simp at this
 | _::_::_,[_],b=>have:=b.len;simp at this
def Fin(b:List R)(vs:List V)(σ':Aq):Exit->St->Prop
 | .normal,st|.ret,st=>DZ st b vs/\∀id e,lk σ' id=some e->lk st.σ id=some e
 | _,_=>False
def Aqq(s:Nat)(x:AP)(σ':Aq):Exit->St->Prop
 | .normal,st|.ret,st=>∃id,get st.env s=.arr id/\lk st.σ id=some x/\lk σ' id=none/\∀id e,lk σ' id=some e->lk st.σ id=some e
 | _,_=>False
theorem Jd{f ic i}(h:Ao P f nt ic i=true):∃b c,P.funcs[f]?=some b/\b.body=some c/\Bf P nt c ic=true/\b.ntmps=nt/\SH P b.results.toList i=true/\callable P f=true:=by
 unfold Ao at h;cases g:P.funcs[f]? with
 | none=>simp[g] at h
 | some b=>
  cases e:b.body with
  | none=>simp[g,e] at h
  | some c=>simp only[g,e,AaS,AjK] at h;exact⟨b,c,rfl,e,h.1.1.1,h.1.1.2,h.1.2,by unfold callable;grind⟩
theorem Nk{args:List V}{σ:Aq}{n:Nat}{w:World}{μ:Id->Option Value}{H:Addr->Option Value}{vals:List Value}(hargs:args.length<=nt)(hp:Hp O σ n μ H w)(hv:VRels μ H args vals) :
  At O nt ⟨μ,H,σ,w,n⟩ ⟨params 0 args,σ,n⟩ { tmps:=vals.toArray++Array.replicate (nt-vals.toArray.size) undef,defers:=[] } w:=by
 refine⟨μ,H,⟨?_,rfl,fun s=>?_⟩,hp,Fr.refl _ _ _ _,fun _ _ h=>h,Ab6 _⟩
 .have:=hv.len
  simp
  omega
 .rw[Kd]
  simp only[Avz,AbA,A1I]
  cases hs:args[s]? with
  | none=>exact .any _
  | some v=>
   obtain⟨val,hval,hrel⟩:=hv.get hs
   have hlt:s<vals.length:=(Ao5.1 hval).1
   have:(vals.toArray++Array.replicate (nt-vals.toArray.size) undef).getD s undef=val:=by
    rw[AvD,A1C (by simpa using hlt)]
    simp[hval]
   simp only[this]
   exact hrel
theorem AlT{f ic R}(G:Ao P f nt ic R=true){args}(k:args.length<=nt){σ σ' vs}(s:∀id,lk σ' id≠none->lk σ id≠none)
  (h:∀n,(∀id e,lk σ id=some e->id.1<n)->It P O nt ic (Fin R vs σ') ⟨params 0 args,σ,n⟩):Ak P O f args σ (Kf vs) σ':=by
 obtain⟨Z,c,hf,E,o,L,N,r⟩:=Jd G;refine⟨r,s,λn w μ H W hp hv=>?_⟩;subst L;refine calls_of_wp hf E ?_;have t:∀id e,lk σ id=some e->id.1<n:=by
  intro id e J;rcases Az0 id.1 n with h|h
  .exact h
  .have hm:=hp.bd id h;obtain⟨_,u⟩:=(hp.ents id e J).named;rw[hm] at u;cases u
 refine wp_mono (h n t c o _ _ _ (Nk k hp hv)) λe a w' hh=>?_;obtain⟨p,M,U,X,z,y,g,x,hn⟩:=hh;have q:(DZ p R vs/\∀id e,lk σ' id=some e->lk p.σ id=some e)->a.defers=[]/\∃v,(results Z a.tmps).run P w'=.ok v w'/\
   ∃val b j D,Ending.returned v=Ending.returned val/\Ap b j (Kf vs) val/\Hp O σ' D b j w'/\n<=D/\Fr μ H σ w b j σ' w'/\∀id:Id,id.1<n->μ id=none->b id=none:=by
  rintro⟨B,i⟩;obtain⟨val,C,A⟩:=GK z y N B;refine⟨z.defers,val,C,val,U,X,p.n,rfl,A,y.part i,hn,⟨g.mu,g.hp,g.size,g.keep,g.pin,λY E ho=>g.dom Y E ?_⟩,x⟩;obtain⟨id,e,J,F⟩:=ho;exact⟨id,e,i _ _ J,F⟩
 cases e with
 | normal=>exact q M
 | ret=>exact q M
 | _=>exact M.elim
theorem An8{f ic s}(ab:Ao P f nt ic [.t s]=true){args}(u:args.length<=nt){σ σ' x}(F:∀id,lk σ' id≠none->lk σ id≠none)
  (h:∀n,(∀id e,lk σ id=some e->id.1<n)->It P O nt ic (Aqq s x σ') ⟨params 0 args,σ,n⟩):Kk P O f args σ x σ':=by
 obtain⟨fn,c,hf,Z,z,ah,ak,E⟩:=Jd ab;refine⟨E,F,λn w μ H ao hp hv=>?_⟩;subst ah;refine calls_of_wp hf Z ?_;have J:∀id e,lk σ id=some e->id.1<n:=by
  intro id e hl;rcases Az0 id.1 n with h|h
  .exact h
  .have hm:=hp.bd id h;obtain⟨_,o⟩:=(hp.ents id e hl).named;rw[hm] at o;cases o
 refine wp_mono (h n J c z _ _ _ (Nk u hp hv)) λe' a w' hh=>?_;obtain⟨b,hq,am,H',N,q,k,L,hn⟩:=hh;simp only at hn;have D:(∃id,get b.env s=.arr id/\lk b.σ id=some x/\lk σ' id=none/\∀id e,lk σ' id=some e->lk b.σ id=some e)->a.defers=[]/\∃v,(results fn a.tmps).run P w'=.ok v w'/\
   ∃val j B W id,Ending.returned v=Ending.returned val/\j id=some val/\val.oneCell'=true/\μ id=none/\lk σ' id=none/\Hp O ((id,x)::σ') W j B w'/\n<=W/\Fr μ H σ w j B ((id,x)::σ') w'/\∀id:Id,id.1<n->μ id=none->j id=none:=by
  rintro⟨id,hg,hl,ad,r⟩;obtain⟨val,U,R⟩:=GK N q ak (vs:=[.arr id]) ⟨hg,trivial⟩;obtain⟨hm,Y⟩:=R.arr_inv;have p:∀i C,lk ((id,x)::σ') i=some C->lk b.σ i=some C:=by
   intro i C X;simp only[lk] at X;split at X
   .rename_i h3;subst h3;cases X;exact hl
   .exact r _ _ X
  have A:=(q.part p).more (Avb b.n);have g:am (b.n,0)=none:=q.bd _ (Ab6 _);obtain⟨ai,M⟩:=A.rename hm ad g (Ab4 _);refine⟨N.defers,val,U,val,_,H',b.n+1,(b.n,0),rfl,Au _ _ _,Y,hp.bd _ hn,?_,ai,AoW hn (Avb _),⟨λid y hx=>BQ g id y (k.mu id y hx),k.hp,k.size,k.keep,k.pin,λbk Z ho=>?_⟩,λi G h0=>?_⟩
  .cases hx:lk σ' (b.n,0) with
   | none=>rfl
   | some y=>obtain⟨_,o⟩:=(q.ents _ _ (r _ _ hx)).named;rw[g] at o;cases o
  .obtain⟨i,C,ae,aa⟩:=M bk ho;exact k.dom bk Z ⟨i,C,p _ _ ae,aa⟩
  .rw[Ce _ _ (by rintro rfl;simp at G;omega)];exact L i G h0
 cases e' with
 | normal=>exact D hq
 | ret=>exact D hq
 | _=>exact hq.elim
end
end Go.Ir
end
section
namespace Go.Ir
open Go.RowKit
theorem SV{b:Array MapEntry}(g:∀(k) (m:MapEntry),b.toList[k]?=some m->m.born=k){last}(j:last=b.size):(!b.isEmpty&&b.all λe=>decide (e.born>=last))=false:=by
 cases c:b.toList with
 | nil=>simp_all
 | cons x xs=>
  have i:=g 0 x (by rw[c];rfl);have h:0<b.size:=by grind
  have:(b.all λe=>decide (e.born>=last))=false:=by rw[<-Array.all_toList,c];grind
  rw[this,A0j]
theorem sE{P:Program}{w:World}{r m:Nat}{seen:List Nat}{mes:Array MapEntry}{t:TypeId}(hr:w.heap[r]?=some (.mapIter (some m) mes.size seen.toArray mes.size))(hm:w.heap[m]?=some (.map mes mes.size))
  (hb:∀(k:Nat) (e:MapEntry),mes.toList[k]?=some e->e.born=k) :
  (∃(i:Nat) (e:MapEntry) (w1:World),(w1=w\/w1=w.drew)/\mes.toList[i]?=some e/\i∉seen/\(Instr.next (.pointer (some ⟨r,0,none⟩)) false t).run P w=.ok (.tuple #[.bool true,e.key,e.val]) { w1 with heap:=w1.heap.setIfInBounds r (.mapIter (some m) mes.size (seen++[i]).toArray mes.size) })\/
  ((∀i,i<mes.size->i∈seen)/\(Instr.next (.pointer (some ⟨r,0,none⟩)) false t).run P w=.ok (.tuple #[.bool false]) w):=by
 have hall:=SV hb (last:=mes.size) rfl
 have hguard:(!seen.toArray.isEmpty&&!mes.isEmpty&&mes.all fun e=>decide (e.born>=mes.size))=false:=by grind
 have ⟨left,hleft⟩:∃left,left=mes.filter fun e=>!seen.toArray.contains e.born:=⟨_,rfl⟩
 have hin:∀e∈mes,e.born<mes.size:=by
  intro e he
  have ⟨k,hk⟩:=AxL.1 (Array.mem_toList_iff.2 he)
  grind
 have hold:left.filter (fun e=>decide (e.born<mes.size))=left:=by
  rw[Array.filter_eq_self]
  grind
 have hnew:left.filter (fun e=>decide (e.born>=mes.size))=#[]:=by
  rw[Array.filter_eq_empty_iff]
  grind
 have hrun:(Instr.next (.pointer (some ⟨r,0,none⟩)) false t).run P w=((choose (.mapNext ((if left.isEmpty then #[none] else #[])++left.map some).size)).run P w).andThen fun j w1=>
   (match((if left.isEmpty then #[none] else #[])++left.map some)[j]? with
    | some (some e)=>do setObj r (.mapIter (some m) mes.size (seen.toArray.push e.born) mes.size);pure (.tuple #[.bool true,e.key,e.val])
    | some none=>pure (.tuple #[.bool false])
    | none => stuck "Next: no such candidate" : Sem Value).run P w1 := by
  have g1:(getObj r).run P w=.ok (.mapIter (some m) mes.size seen.toArray mes.size) w:=IT hr
  have g2:(getObj m).run P w=.ok (.map mes mes.size) w:=A0g hm
  simp only[Instr.next,Ao1,g1,Aow,g2,hguard,Ab7,Ab9]
  rw[<-hleft,hold,hnew]
  simp only[Array.append_empty]
  rfl
 by_cases he:left.isEmpty
 .refine .inr ⟨fun i hi=>?_,?_⟩
  .have hi':i<mes.toList.length:=by simpa using hi
   have h0:mes.toList[i]?=some mes.toList[i]:=Am7 hi'
   have hbi:=hb i _ h0
   cases hc:decide (i∈seen) with
   | true=>exact Awz hc
   | false=>
    exfalso
    have:mes.toList[i]∈left:=by
     grind
    grind
  .have hz:left=#[]:=by simpa using he
   rw[hrun,hz]
   simp[Question.forced]
 .have hne:0<left.size:=by
   grind
  rw[AfL he] at hrun
  simp only[Array.empty_append,Array.size_map] at hrun
  have ⟨j,w1,hj,hw1,hch⟩:∃j w1,j<left.size/\(w1=w\/w1=w.drew)/\(choose (.mapNext left.size)).run P w=.ok j w1:=by
   rw[run_choose_drew]
   split
   .exact⟨0,w,hne,.inl rfl,rfl⟩
   .exact⟨_,_,Nat.mod_lt _ hne,.inr rfl,rfl⟩
  have hjl:left[j]?=some left[j]:=AxK hj
  have hmem:left[j]∈left:=Array.getElem_mem hj
  generalize left[j]=ej at hjl hmem
  rw[hleft,Array.mem_filter] at hmem
  have ⟨i,hi⟩:=AxL.1 (Array.mem_toList_iff.2 hmem.1)
  have hbi:=hb i _ hi
  refine .inl ⟨i,ej,w1,hw1,hi,?_,?_⟩
  .grind
  .have hheap:w1.heap[r]?=some (.mapIter (some m) mes.size seen.toArray mes.size):=by rcases hw1 with rfl|rfl<;>exact hr
   have hmap:(left.map some)[j]?=some (some ej):=by simp[hjl]
   have hpush:seen.toArray.push i=(seen++[i]).toArray:=by simp
   rw[hrun,hch]
   simp only[Aow,hmap,Ao1,OB _ hheap,Aur,hbi,hpush]
section
variable{P:Program}{O:World}{nt:Nat}{Q:Exit→St→Prop}{st:St}
theorem dK{d1 d2 x live id mid es seen}(hx:ev (get st.env) x=.arr id)(hl:lk st.σ id=some (.mit mid es.length seen es.length))(hlm:lk st.σ mid=some (.map es))
  (hmore:∀i kv,es[i]?=some kv->i∉seen->Q .normal ⟨restrict live ((d2,.b true)::st.env),upd st.σ id (.mit mid es.length (seen++[i]) es.length),st.n+1⟩)
  (hend:(∀i,i<es.length->i∈seen)->Q .normal ⟨restrict live ((d2,.b false)::st.env),st.σ,st.n+1⟩)(hd1:d1∉live)(hlive:d1≠d2):It P O nt (.mnext d1 d2 x live) Q st:=by
 intro code hc B a w hat
 obtain⟨rid,ops,rfl,hk⟩:∃rid ops,code=.region rid ops false/\WZ nt ops d1 d2 x=true:=by
  cases code with
  | region rid ops draw=>
   cases draw with
   | true=>simp[Bf] at hc
   | false=>exact⟨rid,ops,rfl,by simpa[Bf] using hc⟩
  | _=>simp[Bf] at hc
 have hc0:False\/True:=.inr trivial
 rcases hc0 with h|_
 .exact h.elim
 .clear hc
  have hc:=hk
  unfold WZ at hc
  split at hc
  .rename_i o1 o2 hops
   simp only[AaS,AjK,Avv,A1F] at hc
   obtain⟨⟨⟨⟨⟨⟨⟨c1,c2⟩,c3⟩,c4⟩,c5⟩,c6⟩,c7⟩,c8⟩:=hc
   split at c3
   .rename_i x' hop1
    split at c6
    .rename_i t hop2
     have ht:d1=t:=(beq_iff_eq.1 c6).symm
     subst ht
     obtain⟨μ,H,hr,hp,hf,hold,hn⟩:=hat
     have hxr:=Ar hr c3
     rw[hx] at hxr
     obtain⟨r,mb,hmu,_,hmm,hh⟩:=hp.ents _ _ hl
     obtain⟨bk,mes,clock,hmu2,_,hh2,hrel⟩:=hp.ents _ _ hlm
     rw[hmm] at hmu2
     cases hmu2
     have e1:a.eval x'=.pointer (some ⟨r,0,none⟩):=by
      have:=(hxr.arr_inv).1
      rw[hmu] at this
      exact(A2e this).symm
     have hlen:es.length=mes.size:=by simpa using hrel.len
     have hclock:clock=mes.size:=by have:=hrel.now;simpa using this
     subst hclock
     rw[hlen] at hh
     have hsz:ops.size=2:=by have:ops.toList.length=2:=by rw[hops];rfl
                             simpa using this
     have ho1:ops[0]?=some o1:=by rw[<-AxN,hops];rfl
     have ho2:ops[1]?=some o2:=by rw[<-AxN,hops];rfl
     have two:∀(t:Bool) (val:List Value) (w':World) (σ':Aq),(Instr.next (.pointer (some ⟨r,0,none⟩)) false o1.type).run P w=.ok (.tuple (.bool t::val).toArray) w'->Hp O σ' st.n μ H w'->Fr μ H st.σ w μ H σ' w'->Q .normal ⟨restrict live ((d2,.b t)::st.env),σ',st.n+1⟩->
       (Code.region rid ops false).wp P (fun e a' w'=>∃st',Q e st'/\At O nt B st' a' w') a w:=by
      intro t val w' σ' hrun hp' hfr hq
      refine wp_region ?_
      rw[hsz]
      show wpOps P ops _ [0,1] a w
      unfold wpOps
      simp only[ho1]
      have w1:Region.wanted o1 (yielded ops a.tmps)=true:=by simp[Region.wanted,c2]
      rw[Amm w1]
      refine .inl ?_
      unfold Oper.wp
      have hx1:(execOp a.eval o1).run P w=.ok (.value (.tuple (.bool t::val).toArray)) w':=by
       simp only[execOp,hop1,e1,Ao1,hrun,Aow,Aur]
      rw[hx1]
      show wpOps P ops _ [1] (a.put o1.dst (.tuple (.bool t::val).toArray)) w'
      unfold wpOps
      simp only[ho2]
      have w2:Region.wanted o2 (yielded ops (a.put o1.dst (.tuple (.bool t::val).toArray)).tmps)=true:=by simp[Region.wanted,c5]
      rw[Amm w2]
      refine .inl ?_
      unfold Oper.wp
      have hev:(a.put o1.dst (.tuple (.bool t::val).toArray)).eval (.tmp d1)=.tuple (.bool t::val).toArray:=by
       have hd:d1<a.tmps.size:=by rw[hr.size];exact c7
       rw[c1]
       simp[Act.eval,Act.put,hd]
      have hx2:(execOp (a.put o1.dst (.tuple (.bool t::val).toArray)).eval o2).run P w'=.ok (.value (.bool t)) w':=by
       simp only[execOp,hop2,hev,Instr.extract,Ao1]
       simp
      rw[hx2]
      show ∃st',Q .normal st'/\At O nt B st' ((a.put o1.dst (.tuple (.bool t::val).toArray)).put o2.dst (.bool t)) w'
      rw[c1,c4]
      have hr1:Rl μ H nt (put st.env (some d1) .any) (a.put (some d1) (.tuple (.bool t::val).toArray)):=hr.put (fun dd hdd=>by cases hdd;exact c7) (.any _)
      have hr2:Rl μ H nt (put (put st.env (some d1) .any) (some d2) (.b t)) ((a.put (some d1) (.tuple (.bool t::val).toArray)).put (some d2) (.bool t)):=hr1.put (fun dd hdd=>by cases hdd;exact c8) (.b _)
      refine⟨_,hq,μ,H,⟨hr2.size,hr2.defers,fun s=>?_⟩,hp'.more (Avb _),hf.trans hfr,hold,AoW hn (Avb _)⟩
      have hsame:restrict live ((d2,.b t)::st.env)=restrict live (put (put st.env (some d1) .any) (some d2) (.b t)):=by
       refine A0v fun s hs=>?_
       have hne:d1≠s:=by rintro rfl;exact hd1 hs
       simp[put,get,hne]
      simp only
      rw[hsame]
      rcases Cm live (put (put st.env (some d1) .any) (some d2) (.b t)) s with h|h
      .rw[h];exact hr2.at_ s
      .rw[h];exact .any _
     rcases sE (P:=P) (t:=o1.type) hh hh2 hrel.born with⟨i,e,w1,hw1,hi,hns,hrun⟩|⟨hall,hrun⟩
     .have hi':i<es.length:=by rw[hlen];have:=(Ao5.1 hi).1;simpa using this
      have hp1:Hp O st.σ st.n μ H w1:=by rcases hw1 with rfl|rfl;exact hp;exact hp.drew
      have hh1:w1.heap[r]?=some (.mapIter (some mb) mes.size seen.toArray mes.size):=by rcases hw1 with rfl|rfl<;>exact hh
      have hset:=hp1.set_ (e:=.mit mid es.length (seen++[i]) es.length) hl ((By.setObj w1 r (.mapIter (some mb) mes.size (seen++[i]).toArray mes.size)).to (fun k hk=>by subst hk;simp[hmu,Cl])) ⟨r,mb,hmu,by
       obtain⟨r',mb',hmu',hB',_⟩:=hp.ents _ _ hl
       rw[hmu] at hmu';cases hmu';exact hB',hmm,by
       have:r<w1.heap.size:=(AuO.1 hh1).1
       simp[this,hlen]⟩
      have hfr0:Fr μ H st.σ w μ H st.σ w1:=by rcases hw1 with rfl|rfl;exact Fr.refl _ _ _ _;exact⟨fun _ _ h=>h,fun _ _ h=>h,Ab6 _,fun _ _ _=>rfl,fun _ _ _=>rfl,fun _ _ h=>h⟩
      have h0:es[i]?=some es[i]:=Am7 hi'
      exact two true [e.key,e.val] _ _ hrun hset.1 (hfr0.trans hset.2) (hmore i _ h0 hns)
     .exact two false [] w st.σ hrun hp (Fr.refl _ _ _ _) (hend (fun i hi=>hall i (by rw[<-hlen];exact hi)))
    .cases c6
   .cases c3
  .cases hc
end
end Go.Ir
end
section
namespace Go.Ir
open Go.RowKit
structure FK (P:Program) (O:World) (f:FuncId) (args:List V) (σ:Aq) (R:Nat->Nat->V->Aq->Prop):Prop where
 callable:callable P f=true
 run:∀n w μ H vals,Hp O σ n μ H w->VRels μ H args vals->Calls P f vals.toArray w fun e w'=>
  ∃val μ' H' n' v σ',e=.returned val/\R n n' v σ'/\Ap μ' H' v val/\Hp O σ' n' μ' H' w'/\n<=n'/\Fr μ H σ w μ' H' σ' w'/\∀id,id.1<n->μ id=none->μ' id=none
section
variable{P:Program}{O:World}{nt:Nat}{ops:Array Oper}
theorem Sm{B:Sg}{ep:Nat}{QQ:Exit->Act->World->Prop}{tail:List Nat}{K:BB->Aq->Prop}(hBn:B.n<=ep)
  (hK:∀env σ a w n μ H,K env σ->Rl μ H nt env a->Hp O σ n μ H w->ep<n->Fr B.μ B.H B.σ B.w μ H σ w->(∀id,id.1<B.n->B.μ id=none->μ id=none)->wpOps P ops QQ tail a w) :
  ∀(l:List I) (k:Nat),(∀(j:Nat) (i:I),l[j]?=some i->∃o,ops[k+j]?=some o/\Vb P nt ops o i=true)->(l.filterMap (·.dst)).Nodup->
  ∀env σ a w n μ H,Rl μ H nt env a->Hp O σ n μ H w->ep<n->(∀i∈l,∀dd,i.dst=some dd->μ (ep,dd)=none)->Fr B.μ B.H B.σ B.w μ H σ w->(∀id,id.1<B.n->B.μ id=none->μ id=none)->
   Ay P O ep l env σ K->wpOps P ops QQ (List.range' k l.length++tail) a w:=by
 intro l
 induction l with
 | nil=>intro k _ _ env σ a w n μ H hr hp hn _ hf hold hi;exact hK _ _ _ _ _ _ _ hi hr hp hn hf hold
 | cons i l ih=>
  intro k hat hnd env σ a w n μ H hr hp hn hfree hf hold hi
  obtain⟨o,ho,hok⟩:=hat 0 i rfl
  rw[A1f] at ho
  rw[An9,List.range'_succ,AvC,wpOps_cons]
  simp only[Ay] at hi
  rw[CL] at hi
  obtain⟨v,σ',hstep,hi⟩:=hi
  refine Ko ho hok hr hp hn (fun d hd'=>hfree i (by simp) d hd') hstep _ QQ (fun val n' μ' H' w' hdone=>?_)
  have hnd2:(l.filterMap (·.dst)).Nodup:=by
   cases hd:i.dst with
   | none=>rwa [List.filterMap_cons_none hd] at hnd
   | some d=>rw[A1q hd] at hnd;exact(AzI.1 hnd).2
  have hnt:∀d,i.dst=some d->d<nt:=by
   intro d hd'
   unfold Vb at hok
   simp only[AaS] at hok
   have:=hok.1.1.2
   rw[hd'] at this
   simpa using this
  refine ih (k+1) (fun j i' hj=>?_) hnd2 _ _ _ _ n' μ' H' ((hr.mono hdone.fr.mu hdone.fr.hp).put hnt hdone.rel) hdone.hp (AuD hn hdone.le) (fun i' hi' d hd'=>?_) (hf.trans hdone.fr) (fun id hid h0=>?_) hi
  .obtain⟨o',ho',hok'⟩:=hat (j+1) i' (by simpa using hj)
   exact⟨o',by rw[show k+1+j=k+(j+1) by omega];exact ho',hok'⟩
  .refine hdone.fresh (ep,d) hn (fun dd hdd he=>?_) (hfree i' (by simp[hi']) d hd')
   cases he
   rw[A1q hdd] at hnd
   exact(AzI.1 hnd).1 (A2q.2 ⟨i',hi',hd'⟩)
  .refine hdone.fresh id (by omega) (fun dd _ he=>?_) (hold id hid h0)
   rw[he] at hid;simp at hid;omega
def Qx(P:Program)(O:World)(n:Nat)(d:Nat)(f:FuncId)(vs:List V)(env:BB)(σ:Aq)(K:Nat->BB->Aq->Prop):Prop:=
 ∃σi R,FK P O f vs σi R/\(∀id e,lk σi id=some e->lk σ id=some e)/\∀b v σo,n<=b->R n b v σo->K b ((d,v)::env) (over σi σo σ)
theorem OD{b l}(h:Iu P nt ops b l=true):b.length=l.length/\∀(j:Nat) (i),l[j]?=some i->∃o,b[j]?=some o/\Vb P nt ops o i=true:=by
 have ⟨h1,h2⟩:=Ja h;refine⟨h1,λj i e=>?_⟩;have c:j<b.length:=by grind
 refine⟨b[j],Am7 c,?_⟩;have:=h2 j b[j] (Am7 c);grind
theorem Aap{code:Code}{okc:Array Oper->Oper->Bool}{T:Nat->BB->Aq->(Nat->BB->Aq->Prop)->Prop}{l1 l2:List I}{live1 live:List Nat}{d:Nat}{Q:Exit->St->Prop}{st:St}
  (hT:∀ops o,okc ops o=true->o.dst=some d/\d<nt/\∀n env σ K a w μ H,T n env σ K->Rl μ H nt env a->Hp O σ n μ H w->(Region.wanted o (yielded ops a.tmps)=false/\K n ((d,.tup [])::env) σ)\/(Region.wanted o (yielded ops a.tmps)=true/\∃f vals vargs σi R,(execOp a.eval o).run P w=.ok (.enter f vals) w/\VRels μ H vargs vals.toList/\FK P O f vargs σi R/\(∀id e,lk σi id=some e->lk σ id=some e)/\∀n2 v σo,n<=n2->R n n2 v σo->K n2 ((d,v)::env) (over σi σo σ)))
  (hcode:∃rid ops,code=.region rid ops false/\Iu P nt ops (ops.toList.take l1.length) l1=true/\(∃o,ops[l1.length]?=some o/\okc ops o=true)/\Iu P nt ops (ops.toList.drop (l1.length+1)) l2=true/\DG l1=true/\DG l2=true)
  (h:Ay P O st.n l1 st.env st.σ fun env σ=>∀n1,st.n<n1->T n1 (restrict live1 env) σ fun n2 env σ=>Ay P O n2 l2 env σ fun env σ=>∀n3,n2<n3->Q .normal ⟨restrict live env,σ,n3⟩){B:Sg}{a:Act}{w:World}(hat:At O nt B st a w) :
  code.wp P (fun e a' w'=>∃st',Q e st'/\At O nt B st' a' w') a w:=by
 obtain⟨rid,ops,rfl,hc1,⟨o,ho,hoc⟩,hc2,hd1,hd2⟩:=hcode
 obtain⟨hdst,hdnt,hT⟩:=hT ops o hoc
 obtain⟨hl1,hat1⟩:=OD hc1
 obtain⟨hl2,hat2⟩:=OD hc2
 have hlen:l1.length<ops.size:=(AuO.1 ho).1
 have hsz:ops.size=l1.length+(1+l2.length):=by
  rw[A1W] at hl2
  have:ops.toList.length=ops.size:=by simp
  omega
 obtain⟨μ,H,hr,hp,hf,hold,hn⟩:=hat
 refine wp_region ?_
 have hrange:List.range ops.size=List.range' 0 l1.length++(l1.length::(List.range' (l1.length+1) l2.length++[])):=by
  rw[At9,hsz,List.range_eq_range',<-List.range'_append,AzN,Nat.one_mul,Nat.add_comm 1 l2.length,List.range'_succ]
 rw[hrange]
 have free:∀{n:Nat} {σ:Aq} {μ:Id->Option Value} {H:Addr->Option Value} {w:World} (l:List I),Hp O σ n μ H w->∀i∈l,∀dd,i.dst=some dd->μ (n,dd)=none:=fun l hp i _ dd _=>hp.bd (_,dd) (Ab6 _)
 refine Sm (B:=B) (ep:=st.n) hn ?_ l1 0 (fun j i hj=>?_) (Awz hd1) st.env st.σ a w (st.n+1) μ H hr (hp.more (Avb _)) (Ab4 _) (free l1 hp) hf hold h
 .
  intro env σ a w n1 μ H hcall hr hp hn1 hf hold
  have hr1:Rl μ H nt (restrict live1 env) a:=⟨hr.size,hr.defers,fun s=>by
   rcases Cm live1 env s with h|h
   .rw[h];exact hr.at_ s
   .rw[h];exact .any _⟩
  rw[wpOps_cons]
  unfold wpOp
  simp only[ho]
  rcases hT n1 _ _ _ a w μ H (hcall n1 hn1) hr1 hp with⟨hw,hk⟩|⟨hw,f,vals,vargs,σi,R,hrun,hargs,hret,hsub,hK⟩
  .rw[AfL (by rw[hw];simp)]
   have hr2:Rl μ H nt ((d,.tup [])::restrict live1 env) (a.put o.dst undef):=by
    rw[hdst]
    exact hr1.put (d:=some d) (fun dd hdd=>by cases hdd;exact hdnt) (.tup [] [] rfl (fun k c v hk=>by simp at hk))
   refine Sm (B:=B) (ep:=n1) (by omega) ?_ l2 (l1.length+1) (fun j i hj=>?_) (Awz hd2) _ _ _ _ (n1+1) μ H hr2 (hp.more (Avb _)) (Ab4 _) (free l2 hp) hf hold hk
   .intro env σ a w n3 μ H hq hr hp hn3 hf hold
    show ∃st',Q .normal st'/\At O nt B st' a w
    refine⟨_,hq n3 hn3,μ,H,⟨hr.size,hr.defers,fun s=>?_⟩,hp,hf,hold,by simp only;omega⟩
    rcases Cm live env s with h|h
    .simp only;rw[h];exact hr.at_ s
    .simp only;rw[h];exact .any _
   .obtain⟨o',ho',hok'⟩:=hat2 j i hj
    refine⟨o',?_,hok'⟩
    rw[A1u] at ho'
    rw[<-AxN];exact ho'
  rw[Amm hw]
  refine .inl ?_
  unfold Oper.wp
  rw[hrun]
  have:=hret.run n1 w μ H vals.toList (hp.part hsub) hargs
  simp only[Oper.upon]
  rw[A1k] at this
  refine Az5 this ?_
  rintro e w' ⟨val,μ',H',n2,v,σo,rfl,hR,hv,hp',hle,hfr,hfresh⟩
  have hb:=hp.back hsub hp' hfr
  have hk:=hK n2 v σo hle hR
  show wpOps P ops _ (List.range' (l1.length+1) l2.length++[]) (a.put o.dst val) w'
  have hr2:Rl μ' H' nt ((d,v)::restrict live1 env) (a.put o.dst val):=by
   rw[hdst]
   exact(hr1.mono hb.2.mu hb.2.hp).put (d:=some d) (fun dd hdd=>by cases hdd;exact hdnt) hv
  refine Sm (B:=B) (ep:=n2) (by omega) ?_ l2 (l1.length+1) (fun j i hj=>?_) (Awz hd2) _ _ _ _ (n2+1) μ' H' hr2 (hb.1.more (Avb _)) (Ab4 _) (free l2 hb.1) (hf.trans hb.2) (fun id hid h0=>hfresh id (by omega) (hold id hid h0)) hk
  .intro env σ a w n3 μ H hq hr hp hn3 hf hold
   show ∃st',Q .normal st'/\At O nt B st' a w
   refine⟨_,hq n3 hn3,μ,H,⟨hr.size,hr.defers,fun s=>?_⟩,hp,hf,hold,by simp only;omega⟩
   rcases Cm live env s with h|h
   .simp only;rw[h];exact hr.at_ s
   .simp only;rw[h];exact .any _
  .obtain⟨o',ho',hok'⟩:=hat2 j i hj
   refine⟨o',?_,hok'⟩
   rw[A1u] at ho'
   rw[<-AxN];exact ho'
 .obtain⟨o',ho',hok'⟩:=hat1 j i hj
  refine⟨o',?_,hok'⟩
  rw[A0w] at ho'
  split at ho'
  .rw[AzN,<-AxN];exact ho'
  .cases ho'
theorem Uj{ops l1 b d f args}(h:Xp P nt ops l1 d f args b=true):Iu P nt ops (ops.toList.take l1.length) l1=true/\(∃o,ops[l1.length]?=some o/\Jj P nt o d f args=true)/\Iu P nt ops (ops.toList.drop (l1.length+1)) b=true/\DG l1=true/\DG b=true:=by unfold Xp at h;grind
theorem Adz{l1 C b live d f args Q st}
  (h:Ay P O st.n l1 st.env st.σ λenv σ=>∀E,st.n<E->Qx P O E d f (args.map (ev (get (restrict b env)))) (restrict b env) σ λF env σ=>Ay P O F C env σ λenv σ=>∀G,F<G->Q .normal ⟨restrict live env,σ,G⟩) :
  It P O nt (.opx l1 b d f args C live) Q st:=by
 intro g y B a w x;obtain⟨rid,ops,rfl,L⟩:∃rid ops,g=.region rid ops false/\Xp P nt ops l1 d f args C=true:=by
  cases g with
  | region rid ops q=>
   cases q with
   | true=>simp[Bf] at y
   | false=>exact⟨rid,ops,rfl,by simpa[Bf] using y⟩
  | _=>simp[Bf] at y
 refine Aap (d:=d) (okc:=λ_ o=>Jj P nt o d f args) (T:=λn env σ K=>Qx P O n d f (args.map (ev (get env))) env σ K) (λops o p=>?_) ⟨rid,ops,rfl,Uj L⟩ h x;unfold Jj at p;simp only[AaS,AjK,Avv,A1F] at p;obtain⟨⟨⟨t,s⟩,z⟩,e⟩:=p;refine⟨t,s,λn env σ K a w μ H k M hp=>.inr ⟨by simp[Region.wanted,z],?_⟩⟩;obtain⟨σi,R,i,u,J⟩:=k;split at e
 .rename_i c A;split at e
  .rename_i D r;simp only[AaS,AjK] at e;obtain⟨rfl,N⟩:=e;have j:VRels μ H (args.map (ev (get env))) (c.args.map a.eval).toList:=by have:=Et M N;simpa using this
   exact⟨_,_,_,σi,R,Eq (a:=a) i.callable A r (show a.eval (.func D)=.func (.func D) #[] #[] from rfl) w,by simpa using j,i,u,J⟩
  .cases e
 .cases e
def gdQ(v:V)(c:Bool)(A B:Prop):Prop:=
 match v with
 | .b t=>(t=c->A)/\(t≠c->B)
 | .tup []=>B
 | _=>False
theorem iF{ops:Array Oper}{k:Nat}{o:Oper}{h:Exit->Act->World->Prop}{K:Act->World->Prop}{a:Act}{w:World}{f:FuncId}{b:Array Value}{post:Ending->World->Prop}(q:ops[k]?=some o)(g:o.guard=none)
  (c:(execOp a.eval o).run P w=.ok (.enter f b) w)(j:Calls P f b w post)(i:∀e w',post e w'->∃val,e=.returned val/\K (a.put o.dst val) w'):wpOp P ops h k K a w:=by
 unfold wpOp;simp only[q];have r:Region.wanted o (yielded ops a.tmps)=true:=by simp[Region.wanted,g]
 rw[Amm r];refine .inl ?_;unfold Oper.wp;rw[c];simp only[Oper.upon];refine Az5 j λe w' hp=>?_;obtain⟨val,rfl,p⟩:=i e w' hp;exact p
theorem y8{l1 live1 live d f args paths Q st}
  (h:Ay P O st.n l1 st.env st.σ fun env σ=>∀n1,st.n<n1->Qx P O n1 d f (args.map (ev (get (restrict live1 env)))) (restrict live1 env) σ fun n2 env σ=>∀n3,n2<n3->Q .normal ⟨restrict live env,σ,n3⟩) :
  It P O nt (.opxd l1 live1 d f args live paths) Q st:=by
 intro code hc B a w hat
 obtain⟨rid,ops,rfl,hk⟩:∃rid ops,code=.region rid ops true/\V1 P nt ops l1 d f args paths=true:=by
  cases code with
  | region rid ops draw=>
   cases draw with
   | false=>simp[Bf] at hc
   | true=>exact⟨rid,ops,rfl,by simpa[Bf] using hc⟩
  | _=>simp[Bf] at hc
 unfold V1 at hk
 simp only[AaS,Avv] at hk
 obtain⟨⟨⟨⟨⟨hc1,hcc⟩,hsz⟩,hd⟩,⟨hmix,he⟩,hord⟩,hlast⟩:=hk
 obtain⟨μ,H,hr,hp,hf,hold,hn⟩:=hat
 obtain⟨hl1,hat1⟩:=Ja hc1
 have hlt:l1.length<ops.size:=by omega
 have ho:ops[l1.length]?=some ops[l1.length]:=AxK hlt
 rw[ho] at hcc
 simp only at hcc
 generalize ops[l1.length]=o at ho hcc
 unfold Jj at hcc
 simp only[AaS,AjK,Avv,A1F] at hcc
 obtain⟨⟨⟨hdst,hdnt⟩,hgd⟩,hop⟩:=hcc
 have hmap:(List.range l1.length).map (fun k=>l1.getD k default)=l1:=by
  apply Az7
  intro k
  by_cases hk:k<l1.length
  .simp[hk,List.getD]
  .simp[hk]
 replace h:Ay P O st.n l1 st.env st.σ fun env σ=>∃τ,DP σ τ/\∀n1,st.n<n1->Qx P O n1 d f (args.map (ev (get (restrict live1 env)))) (restrict live1 env) τ fun n2 env σ=>∀n3,n2<n3->Q .normal ⟨restrict live env,σ,n3⟩:=
  Ec (fun env σ hh=>⟨σ,DP.refl _,hh⟩) h
 have hK:TU fun env σ=>∃τ,DP σ τ/\∀n1,st.n<n1->Qx P O n1 d f (args.map (ev (get (restrict live1 env)))) (restrict live1 env) τ fun n2 env σ=>∀n3,n2<n3->Q .normal ⟨restrict live env,σ,n3⟩:=by
  intro env env' σ σ' hg hs hh
  obtain⟨τ,h1,h2⟩:=hh
  have:restrict live1 env'=restrict live1 env:=A0v fun s _=>by rw[hg s]
  exact⟨τ,hs.symm.trans h1,by rw[this];exact h2⟩
 have free:∀(rem:List Nat),∀k∈rem,∀d,(l1.getD k default).dst=some d->μ (st.n,d)=none:=fun rem k _ d _=>hp.bd (st.n,d) (Ab6 _)
 refine wp_region_draw fun t=>?_
 simp only[Region.schedule,hmix,Bool.true_or,AbA]
 refine wpAny_sound ops.size t _ a _ ?_
 rw[hsz]
 have hfd:Fr B.μ B.H B.σ B.w μ H st.σ w.drew:=⟨hf.mu,hf.hp,hf.size,hf.keep,hf.pin,hf.dom⟩
 have hmem:∀k,l1.length<=k->k<ops.size->k=l1.length:=fun k h1 h2=>by omega
 rw[<-hsz]
 have hss:ops.size=(List.range l1.length).length+1:=by rw[A1R];exact hsz
 have key:=UC (O:=O) (ep:=st.n) (n0:=st.n) (μ0:=μ) (H0:=H) (σ0:=st.σ) (w0:=w.drew) (ops:=ops) (is:=l1) (nt:=nt) (P:=P) (m:=l1.length) (x:=1) (Q:=fun e a' w'=>∃st',Q e st'/\At O nt B st' a' w') (Nat.le_of_lt hlt) rfl
  (fun k o hk ho=>hat1 k o (by rw[A0w,Amm hk,AxN];exact ho)) hd he hord (fun k h1 h2 j hj=>by
   have:=hmem k h1 h2
   subst this
   have h3:=Ao8.1 hlast j (by simpa using hj)
   obtain⟨p,_,hp⟩:=A0z.1 h3
   simp only[AaS,AjK] at hp
   exact⟨p,hp.1.1,hp.1.2,hp.2⟩) hK ?_ l1.length (List.range l1.length) (Array.replicate ops.size false) st.env st.σ a w.drew (st.n+1) μ H (by simp) List.pairwise_lt_range (fun k=>?_) (fun k h1 h2=>by simp[Array.getD,h2]) (by simp) (fun i j hi hlt hh=>?_) ?_
   ⟨hr,hp.drew.more (Avb _),Ab4 _,Ab6 _,free _,Fr.refl _ _ _ _,fun _ _ h=>h⟩
 .rw[show ops.size=l1.length+1 from hsz]
  rw[show ops.size=l1.length+1 from hsz] at key
  exact key
 .
  intro listed env σ a w n μ' H' hls hli hq hri
  obtain⟨τ,hs,hq⟩:=hq
  have hsub0:∀id e,lk τ id=some e->lk σ id=some e:=fun id e h=>by rw[hs id];exact h
  obtain⟨σi,R,hret,hsub,hKK⟩:=hq n hri.ep_lt
  have hfr:=hfd.trans hri.fr
  refine⟨fun hnil=>?_,fun k hk=>?_⟩
  .exfalso
   have:l1.length∈Region.ready .any ops listed:=by
    unfold Region.ready
    simp only[Ayd,A0A,AaS,ho,Azw,Option.getD_some]
    refine⟨hlt,by rw[(hli _ hlt).2 (Ab6 _)];rfl,A1v.2 fun e hem=>?_⟩
    unfold G1 at he
    have hbi:=Ao8.1 he l1.length (by simpa using hlt)
    rw[ho] at hbi
    have hbe:=A1v.1 hbi e hem
    cases hbnd:Region.binds .any e with
    | false=>rfl
    | true=>
     simp only[hbnd,Azx,A0Q,Avv] at hbe⊢
     have h2:¬(listed.getD e.on true=false):=fun h=>by have:=(hli _ (by omega)).1 h;omega
     have h3:listed.getD e.on true=listed.getD e.on false:=by
      have:e.on<listed.size:=by omega
      simp[Array.getD,this]
     rw[<-h3]
     simpa using h2
   rw[hnil] at this
   cases this
  .unfold Region.ready at hk
   simp only[Ayd,A0A,AaS,AsZ] at hk
   have hkl:=hmem k ((hli k hk.1).1 hk.2.1) hk.1
   subst hkl
   have hr1:Rl μ' H' nt (restrict live1 env) a:=⟨hri.rl.size,hri.rl.defers,fun s=>by
    rcases Cm live1 env s with h|h
    .rw[h];exact hri.rl.at_ s
    .rw[h];exact .any _⟩
   have hpτ:Hp O τ n μ' H' w:=hri.hp.part hsub0
   split at hop
   .rename_i c hoc
    split at hop
    .rename_i f' hcal
     simp only[AaS,AjK] at hop
     obtain⟨rfl,hx⟩:=hop
     have hargs:VRels μ' H' (args.map (ev (get (restrict live1 env)))) (c.args.map a.eval).toList:=by
      have:=Et hr1 hx
      simpa using this
     have hrun:=Eq (a:=a) hret.callable hoc hcal (show a.eval (.func f')=.func (.func f') #[] #[] from rfl) w
     have hcalls:=hret.run n w μ' H' (c.args.map a.eval).toList (hpτ.part hsub) hargs
     rw[A1k] at hcalls
     simp only[Array.empty_append,Array.append_empty] at hrun
     refine iF ho hgd hrun hcalls ?_
     rintro e w' ⟨val,μ2,H2,n2,v,σo,rfl,hR,hv,hp',hle,hfr2,hfresh⟩
     have hb:=hpτ.back hsub hp' hfr2
     have hk2:=hKK n2 v σo hle hR
     refine⟨val,rfl,?_,?_⟩
     .cases h:Region.ready .any ops (listed.setIfInBounds l1.length true) with
      | nil=>rfl
      | cons k r=>
       exfalso
       have hkr:k∈Region.ready .any ops (listed.setIfInBounds l1.length true):=by rw[h];simp
       unfold Region.ready at hkr
       simp only[Ayd,A0A,AaS,AsZ] at hkr
       by_cases hkl:k=l1.length
       .rw[hkl] at hkr
        simp[AvD,Array.getElem?_setIfInBounds] at hkr
        rw[Amm (by omega)] at hkr
        simp at hkr
       .have:=hkr.2.1
        rw[AvD,A1t (Ao0 hkl),<-AvD] at this
        exact hkl (hmem k ((hli k hkr.1).1 this) hkr.1)
     .have hr2:Rl μ2 H2 nt ((d,v)::restrict live1 env) (a.put o.dst val):=by
       rw[hdst]
       exact(hr1.mono hb.2.mu hb.2.hp).put (d:=some d) (fun dd hdd=>by cases hdd;exact hdnt) hv
      have hfrτ:Fr B.μ B.H B.σ B.w μ' H' τ w:=⟨hfr.mu,hfr.hp,hfr.size,hfr.keep,hfr.pin,fun bk hbk ho=>hfr.dom bk hbk (by obtain⟨id,e,h1,h2⟩:=ho;exact⟨id,e,hsub0 _ _ h1,h2⟩)⟩
      refine⟨⟨restrict live ((d,v)::restrict live1 env),over σi σo τ,n2+1⟩,hk2 (n2+1) (Ab4 _),μ2,H2,⟨hr2.size,hr2.defers,fun s=>?_⟩,hb.1.more (Avb _),hfrτ.trans hb.2,fun id hid h0=>hfresh id (by have:=hri.ep_lt;omega) (hri.old id (AuD hid hn) (hold id hid h0)),by have:=hri.ep_lt;simp only;omega⟩
      rcases Cm live ((d,v)::restrict live1 env) s with h|h
      .simp only;rw[h];exact hr2.at_ s
      .simp only;rw[h];exact .any _
    .cases hop
   .cases hop
 .simp only[A0A]
  constructor
  .intro hk;exact⟨hk,by have:k<ops.size:=(by omega);simp[Array.getD,this]⟩
  .intro hk;exact hk.1
 .simp[Array.getD,hlt] at hi
 .rw[hmap];exact h
def Atx(b:List R)(R:Nat->Nat->V->Aq->Prop)(n0:Nat):Exit->St->Prop
 | .normal,st|.ret,st=>∃vs σ',DZ st b vs/\(∀id e,lk σ' id=some e->lk st.σ id=some e)/\R n0 st.n (Kf vs) σ'
 | _,_=>False
theorem AbO{f ic N}(F:Ao P f nt ic N=true){args}(o:args.length<=nt){σ R}
  (h:∀n,(∀id e,lk σ id=some e->id.1<n)->It P O nt ic (Atx N R n) ⟨params 0 args,σ,n⟩):FK P O f args σ R:=by
 obtain⟨fn,c,hf,D,p,J,M,s⟩:=Jd F;refine⟨s,λn w μ H W hp hv=>?_⟩;subst J;refine calls_of_wp hf D ?_;have t:∀id e,lk σ id=some e->id.1<n:=by
  intro id e G;rcases Az0 id.1 n with h|h
  .exact h
  .have hm:=hp.bd id h;obtain⟨_,u⟩:=(hp.ents id e G).named;rw[hm] at u;cases u
 refine wp_mono (h n t c p _ _ _ (Nk o hp hv)) λe a w' hh=>?_;obtain⟨i,L,U,Y,z,y,g,x,hn⟩:=hh;have r:(∃vs σ',DZ i N vs/\(∀id e,lk σ' id=some e->lk i.σ id=some e)/\R n i.n (Kf vs) σ')->a.defers=[]/\∃v,(results fn a.tmps).run P w'=.ok v w'/\
   ∃val b k q X σ',Ending.returned v=Ending.returned val/\R n q X σ'/\Ap b k X val/\Hp O σ' q b k w'/\n<=q/\Fr μ H σ w b k σ' w'/\∀id:Id,id.1<n->μ id=none->b id=none:=by
  rintro⟨vs,σ',B,j,hR⟩;obtain⟨val,C,A⟩:=GK z y M B;refine⟨z.defers,val,C,val,U,Y,i.n,_,σ',rfl,hR,A,y.part j,hn,⟨g.mu,g.hp,g.size,g.keep,g.pin,λZ D ho=>g.dom Z D ?_⟩,x⟩;obtain⟨id,e,G,E⟩:=ho;exact⟨id,e,j _ _ G,E⟩
 cases e with
 | normal=>exact r L
 | ret=>exact r L
 | _=>exact L.elim
theorem Jq{P O f args args' σ σ' v}(h:Ak P O f args' σ v σ')(q:args.length=args'.length)
  (j:∀(k:Nat) (a e),args[k]?=some a->args'[k]?=some e->JI (λ_=>none) a e):Ak P O f args σ v σ' where
 callable:=h.callable
 dom:=h.dom
 run:=λn w μ H b hp i=>h.run n w μ H b hp ⟨by rw[<-q];exact i.len,λk c x o r=>by
  have p:k<args.length:=by grind
  have g:args[k]?=some args[k]:=Am7 p;exact Ap.le (λ_ _ h=>h) (λ_ _ h=>by cases h) (j k _ _ g o) (i.at_ k _ x g r)⟩
end
end Go.Ir
end
section
namespace Go.Ir
open Go.RowKit
inductive Bw (S:Id->Prop):V->Prop where
 | b (x:Bool):Bw S (.b x)
 | i (k:IntKind) (n:Int):Bw S (.i k n)
 | s (l:List UInt8):Bw S (.s l)
 | nil:Bw S .nil
 | sl (es:List V) (h:∀e∈es,Bw S e):Bw S (.sl es)
 | agg (es:List V) (h:∀e∈es,Bw S e):Bw S (.agg es)
 | tup (es:List V) (h:∀e∈es,Bw S e):Bw S (.tup es)
 | ref (id:Id) (o:Nat) (h:S id):Bw S (.ref id o)
 | arr (id:Id) (h:S id):Bw S (.arr id)
 | aref (id:Id) (ix sz o:Nat) (h:S id):Bw S (.aref id ix sz o)
 | ep (e:V) (o:Nat) (h:Bw S e):Bw S (.ep e o)
 | fn (f:FuncId) (a c:List V) (ha:∀e∈a,Bw S e) (hc:∀e∈c,Bw S e):Bw S (.fn f a c)
 | np:Bw S .np
 | nf:Bw S .nf
 | ni:Bw S .ni
 | nm:Bw S .nm
 | ub:Bw S .ub
 | any:Bw S .any
section
variable{S T:Id→Prop}
theorem Bw.mono{v}(h:Bw S v)(j:∀id,S id->T id):Bw T v:=by
 induction h with
 | b x=>exact .b x
 | i k n=>exact .i k n
 | s l=>exact .s l
 | nil=>exact .nil
 | sl es _ g=>exact .sl es g
 | agg es _ g=>exact .agg es g
 | tup es _ g=>exact .tup es g
 | ref id o h=>exact .ref id o (j _ h)
 | arr id h=>exact .arr id (j _ h)
 | aref id r sz o h=>exact .aref id r sz o (j _ h)
 | ep e o _ g=>exact .ep e o g
 | fn f a c _ _ p q=>exact .fn f a c p q
 | np=>exact .np
 | nf=>exact .nf
 | ni=>exact .ni
 | nm=>exact .nm
 | ub=>exact .ub
 | any=>exact .any
theorem Bw.cells{v}(h:Bw S v):∀c∈cells v,Bw S c:=by
 intro c e;cases h with
 | agg es h=>exact h c e
 | _=>simp only[Go.Ir.cells,AzE] at e;subst e;first|exact .b _|exact .i _ _|exact .s _|exact .nil|exact .sl _ (by assumption)|exact .tup _ (by assumption)|exact .ref _ _ (by assumption)|exact .arr _ (by assumption)|exact .aref _ _ _ _ (by assumption)|exact .ep _ _ (by assumption)|exact .fn _ _ _ (by assumption) (by assumption)|exact .np|exact .nf|exact .ni|exact .nm|exact .ub|exact .any
theorem Bw.sl_inv{es}(h:Bw S (.sl es)):∀e∈es,Bw S e:=by cases h;assumption
theorem Bw.agg_inv{es}(h:Bw S (.agg es)):∀e∈es,Bw S e:=by cases h;assumption
theorem Bw.tup_inv{es}(h:Bw S (.tup es)):∀e∈es,Bw S e:=by cases h;assumption
theorem Bw.ref_inv{id o}(h:Bw S (.ref id o)):S id:=by cases h;assumption
theorem Bw.arr_inv{id}(h:Bw S (.arr id)):S id:=by cases h;assumption
theorem Bw.aref_inv{id b sz o}(h:Bw S (.aref id b sz o)):S id:=by cases h;assumption
theorem Bw.ep_inv{e o}(h:Bw S (.ep e o)):Bw S e:=by cases h;assumption
theorem Bw.fn_inv{f a c}(h:Bw S (.fn f a c)):(∀e∈a,Bw S e)/\∀e∈c,Bw S e:=by cases h;grind
theorem aD{es}(h:∀e∈es,Bw S e):∀c∈AQ es,Bw S c:=by intro c b;simp only[AQ,A1b] at b;have ⟨e,he,b⟩:=b;exact(h e he).cells c b
theorem DD{es:List V}(h:∀e∈es,Bw S e){k:Nat}{c}(b:es[k]?=some c):Bw S c:=h c (Ao6 b)
theorem LY{u v e n ag}(h:sub u e n ag=some v)(b:Bw S u):Bw S v:=by
 unfold sub at h;split at h
 .split at h
  .cases h;exact .agg _ b.cells
  .split at h
   .cases h;exact .agg _ λc g=>b.cells c (A1j (AzB g))
   .cases h
 .exact DD b.cells h
theorem MO{u x j e n}(h:Ef u e n x=some j)(g:Bw S u)(i:Bw S x):Bw S j:=by
 unfold Ef at h;split at h
 .split at h
  .cases h;exact i
  .split at h
   .cases h;refine .agg _ λc b=>?_;simp only[AfJ] at b;rcases b with(b|b)|b
    .exact g.cells c (AzB b)
    .exact i.cells c b
    .exact g.cells c (A1j b)
   .cases h
 .cases h
theorem Tr:∀{ps z cs},FC z ps=some cs->(∀c∈z,Bw S c)->(∀p∈ps,Bw S p.2.2)->∀c∈cs,Bw S c
 | [],z,cs,h,i,_=>by cases h;exact i
 | (g,n,v)::r,z,cs,h,i,hp=>by
  rw[FC] at h;split at h
  .refine Tr h (λc b=>?_) (λp e=>hp p (by simp[e]));simp only[AfJ] at b;rcases b with(b|b)|b
   .grind
   .exact(hp (g,n,v) (by simp)).cells c b
   grind
  .cases h
theorem AbZ{c k a b v}(h:UT c k a b v):Bw S v:=by unfold UT at h;split at h<;>first|(subst h;first|exact .i _ _|exact .b _)|(obtain⟨_,rfl⟩:=h;exact .i _ _)|exact h.elim
theorem Acw{c a b v}(h:UP c a b v):Bw S v:=by unfold UP at h;split at h<;>first|(subst h;first|exact .s _|exact .b _)|(obtain⟨_,rfl⟩:=h;exact .s _)|exact h.elim
theorem Adi{b x y v}(h:Rg b x y v):Bw S v:=by
 unfold Rg at h;split at h
 .exact AbZ h.2
 .exact Acw h
 .exact h.elim
theorem Ano{g v} xs:∀{x},RJ g x xs=some v->Bw S x->Bw S v:=by
 induction xs with
 | nil=>intro x h c;cases x<;>(simp only[RJ] at h;cases h;exact c)
 | cons y ys e=>
  intro x h c;unfold RJ at h;split at h
  .rename_i b;cases b
  .rename_i b;cases b;split at h
   .exact e h (.i _ _)
   .cases h
  .cases h
theorem Akn{k xs v}(h:M0 k xs=some v)(c:∀x∈xs,Bw S x):Bw S v:=by
 unfold M0 at h;split at h
 .cases h;exact .b _
 .cases h;exact .ub
 .cases h;exact .b _
 .split at h
  .cases h;exact .ref _ _ (c _ (Aea ..)).ref_inv
  .cases h
 .split at h
  .unfold AlW at h;split at h<;>(try (cases h;done))<;>(cases h;exact .i _ _)
  .cases h
 .split at h
  .unfold AlS at h;split at h<;>(try (cases h;done))<;>(cases h;exact .i _ _)
  .cases h
 .split at h
  .exact LY h (c _ (Aea ..))
  .cases h
 .cases h
inductive Lz (S:Id->Prop):AP->Prop where
 | box (v:V) (h:Bw S v):Lz S (.box v)
 | tbox (t:TypeId) (v:V) (h:Bw S v):Lz S (.tbox t v)
 | arr (e sz:Nat) (es:List V) (h:∀x∈es,Bw S x):Lz S (.arr e sz es)
 | map (es:List (V×V)) (h:∀x∈es,Bw S x.1/\Bw S x.2):Lz S (.map es)
 | it (l:List UInt8) (p:Nat):Lz S (.it l p)
 | mit (mid:Id) (since:Nat) (seen:List Nat) (st:Nat) (h:S mid):Lz S (.mit mid since seen st)
theorem Lz.mono{e}(h:Lz S e)(c:∀id,S id->T id):Lz T e:=by
 cases h with
 | box v h=>exact .box v (h.mono c)
 | tbox t v h=>exact .tbox t v (h.mono c)
 | arr e sz es h=>exact .arr e sz es λx g=>(h x g).mono c
 | map es h=>exact .map es λx g=>⟨(h x g).1.mono c,(h x g).2.mono c⟩
 | it l p=>exact .it l p
 | mit mid b seen st h=>exact .mit mid b seen st (c _ h)
theorem Lz.box_inv{v}(h:Lz S (.box v)):Bw S v:=by cases h;assumption
theorem Lz.tbox_inv{t v}(h:Lz S (.tbox t v)):Bw S v:=by cases h;assumption
theorem Lz.arr_inv{e sz:Nat}{es}(h:Lz S (.arr e sz es)):∀x∈es,Bw S x:=by cases h;assumption
theorem Lz.map_inv{es}(h:Lz S (.map es)):∀x∈es,Bw S x.1/\Bw S x.2:=by cases h;assumption
def CU(S:Id->Prop)(σ:Aq):Prop:=∀id e,lk σ id=some e->S id/\Lz S e
theorem CU.nil:CU S []:=λid e h=>by cases h
theorem CU.mono{σ}(h:CU S σ)(c:∀id,S id->T id):CU T σ:=λid e b=>⟨c _ (h id e b).1,(h id e b).2.mono c⟩
theorem CU.cons{σ id e}(h:CU S σ)(g:S id)(c:Lz S e):CU S ((id,e)::σ):=by
 intro k x b;simp only[lk] at b;split at b
 .grind
 .exact h k x b
theorem CU.upd{σ id x e}(h:CU S σ)(c:lk σ id=some x)(i:Lz S e):CU S (upd σ id e):=by
 intro k y b;rw[Fy c] at b;split at b
 .rename_i g;subst g;cases b;exact⟨(h _ _ c).1,i⟩
 .exact h k y b
theorem CU.del{σ} id (h:CU S σ):CU S (del σ id):=by
 intro k y b;rw[DE] at b;split at b
 .cases b
 .exact h k y b
theorem CU.over{σi σo σ}(h:CU S σ)(g:CU S σo):CU S (over σi σo σ):=by
 intro k y b;rw[Ij] at b;split at b
 .rename_i e c;cases b;exact g k _ c
 .split at b
  .exact h k y b
  .cases b
theorem wU{σ v es}(h:AE σ v=some es)(g:Bw S v)(c:CU S σ):∀e∈es,Bw S e:=by
 unfold AE at h;split at h
 .cases h;exact g.sl_inv
 .grind
 .split at h
  .rename_i b;cases h;exact(c _ _ b).2.arr_inv
  .cases h
 .cases h
def xsO:Option X->List X
 | none=>[]
 | some x=>[x]
def Bh.xs:Bh->List X
 | .mv x|.not x|.neg x|.cvi _ x|.faddr x _|.load x _ _|.box x|.lenS x|.lenL x|.ext x _|.nilck x|.frz x _|.mrange x|.mentry x=>[x]
 | .pick c a b=>[c,a,b]
 | .bin _ x y|.eqb _ x y|.iaddr x y _ _|.idx x y|.store x y _|.app x y _ _|.apps x y _|.slT x y _|.mksl x y _ _ _=>[x,y]
 | .alloc _=>[]
 | .build _ ps=>ps.map (·.2.2)
 | .msl _ _ _ xs|.pu _ xs|.mkm _ xs=>xs
 | .slS x g e|.slL x g e _=>x::(xsO g++xsO e)
 | .call _ xs|.calls _ xs|.calln _ xs|.callr _ xs=>xs
 | .callvs x xs|.mx _ x xs|.rdm _ x xs|.wrm _ x xs=>x::xs
 | .mkfn _ a c=>a++c
def Bh.zs:Bh->List V
 | .alloc z=>[z]
 | .build z _=>z
 | .mksl _ _ z _ _=>[z]
 | .rdm (.mget _ z _) _ _=>[z]
 | .mkm (.tnew _ z) _=>[z]
 | _=>[]
def Bh.isC:Bh->Bool
 | .call ..|.calls ..|.calln ..|.callr ..|.callvs ..=>true
 | _=>false
theorem Ew{g}{xs:List X}(h:∀x∈xs,Bw S (ev g x)):∀v∈xs.map (ev g),Bw S v:=by grind
theorem U1{g k}:∀{es n r},BE g k es n=some (some r)->(∀x∈es,Bw S x.1/\Bw S x.2)->Bw S r.2
 | [],n,r,h,_=>by unfold BE at h;split at h<;>cases h
 | e::es,n,r,h,c=>by
  unfold BE at h;split at h
  .grind
  .exact U1 h λx b=>c x (by simp[b])
  .cases h
theorem Akk{P O ep d Y g σ σ' v}(X:Y.isC=false)(J:∀F,d=some F->S (ep,F))(L:∀x∈Y.xs,Bw S (ev g x))(hz:∀z∈Y.zs,Bw S z)(A:CU S σ)
  (h:E P O ep d Y g σ v σ'):Bw S v/\CU S σ':=by
 cases Y with
 | mv x=>simp only[E] at h;obtain⟨rfl,rfl⟩:=h;exact⟨L x (by simp[Bh.xs]),A⟩
 | pick c a b=>
  simp only[E] at h;obtain⟨t,_,rfl,rfl⟩:=h;refine⟨?_,A⟩;cases t
  .exact L b (by simp[Bh.xs])
  .exact L a (by simp[Bh.xs])
 | bin Y x y=>simp only[E] at h;obtain⟨h,rfl⟩:=h;exact⟨Adi h,A⟩
 | eqb ne x y=>simp only[E] at h;obtain⟨a,b,_,_,rfl,rfl⟩:=h;exact⟨.b _,A⟩
 | not x=>simp only[E] at h;obtain⟨a,_,rfl,rfl⟩:=h;exact⟨.b _,A⟩
 | neg x=>simp only[E] at h;obtain⟨k,n,_,rfl,rfl⟩:=h;exact⟨.i _ _,A⟩
 | cvi k x=>simp only[E] at h;obtain⟨k,n,_,rfl,rfl⟩:=h;exact⟨.i _ _,A⟩
 | faddr x aq=>
  simp only[E] at h;obtain⟨h,rfl⟩:=h;have G:=L x (by simp[Bh.xs]);refine⟨?_,A⟩;split at h
  .rename_i e;rw[e] at G;subst h;exact .ref _ _ G.ref_inv
  .rename_i e;rw[e] at G;subst h;exact .aref _ _ _ _ G.aref_inv
  .rename_i e;rw[e] at G;subst h;exact .ep _ _ G.ep_inv
  .exact h.elim
 | iaddr x i e sz=>
  simp only[E] at h;obtain⟨h,rfl⟩:=h;have G:=L x (by simp[Bh.xs]);refine⟨?_,A⟩;split at h
  .obtain⟨_,h⟩:=h;split at h
   .rename_i e;rw[e] at G;obtain⟨el,C,_,rfl⟩:=h;exact .ep _ _ (DD G.sl_inv C)
   .rename_i e;rw[e] at G;obtain⟨_,_,_,_,rfl⟩:=h;exact .aref _ _ _ _ G.arr_inv
   .exact h.elim
  .exact h.elim
 | idx x i=>simp only[E] at h;obtain⟨_,_,_,_,_,_,_,_,rfl,rfl⟩:=h;exact⟨.i _ _,A⟩
 | load x n ag=>
  simp only[E] at h;obtain⟨h,rfl⟩:=h;have G:=L x (by simp[Bh.xs]);refine⟨?_,A⟩;split at h
  .obtain⟨en,C,D⟩:=h;have R:=(A _ _ C).2;obtain⟨u,N,D⟩:=Uo D;rcases N with rfl|⟨t,rfl⟩
   .exact LY D R.box_inv
   .exact LY D R.tbox_inv
  .obtain⟨_,es,el,C,D,W⟩:=h;exact LY W (DD (A _ _ C).2.arr_inv D)
  .rename_i e;rw[e] at G;exact LY h G.ep_inv
  .exact h.elim
 | store a x n=>
  simp only[E] at h;obtain⟨_,rfl,h⟩:=h;have G:=L x (by simp[Bh.xs]);refine⟨.tup _ (by simp),?_⟩;split at h
  .obtain⟨en,am,C,D,rfl⟩:=h;have R:=(A _ _ C).2;obtain⟨u,u',W,N⟩:=U9 D;rcases N with⟨rfl,rfl⟩|⟨t,rfl,rfl⟩
   .exact A.upd C (.box _ (MO W R.box_inv G))
   .exact A.upd C (.tbox _ _ (MO W R.tbox_inv G))
  .obtain⟨_,es,el,al,C,D,W,rfl⟩:=h;have Z:=(A _ _ C).2.arr_inv;refine A.upd C (.arr _ _ _ λy B=>?_);rcases List.mem_or_eq_of_mem_set B with B|rfl
   .exact Z y B
   .exact MO W (DD Z D) G
  .exact h.elim
 | box x=>simp only[E] at h;obtain⟨F,o,_,rfl,rfl⟩:=h;exact⟨.ref _ _ (J F o),A.cons (J F o) (.box _ (L x (by simp[Bh.xs])))⟩
 | alloc z=>simp only[E] at h;obtain⟨F,o,rfl,rfl⟩:=h;exact⟨.ref _ _ (J F o),A.cons (J F o) (.box _ (hz z (by simp[Bh.zs])))⟩
 | build z ps=>simp only[E] at h;obtain⟨_,⟨cs,h,rfl⟩,rfl⟩:=h;refine⟨.agg _ (Tr h (λc X=>hz c X) λp hp=>?_),A⟩;obtain⟨q,hq,rfl⟩:=Aov.1 hp;exact L q.2.2 (Aov.2 ⟨q,hq,rfl⟩)
 | msl own e sz xs=>
  simp only[E] at h;obtain⟨_,h⟩:=h;split at h
  .obtain⟨F,o,rfl,rfl⟩:=h;exact⟨.arr _ (J F o),A.cons (J F o) (.arr _ _ _ (Ew L))⟩
  .obtain⟨rfl,rfl⟩:=h;exact⟨.sl _ (Ew L),A⟩
 | slS x lo hi=>simp only[E] at h;obtain⟨_,_,_,_,_,_,_,_,rfl,rfl⟩:=h;exact⟨.s _,A⟩
 | slL x lo hi sz=>
  simp only[E] at h;obtain⟨es,a,b,C,_,_,_,_,_,rfl,rfl⟩:=h;have G:=L x (by simp[Bh.xs]);refine⟨.sl _ λe N=>?_,A⟩;rcases C with C|⟨_,rfl⟩
  .rw[C] at G;exact G.sl_inv e (AzB (A1j N))
  .simp at N
 | lenS x=>simp only[E] at h;obtain⟨_,_,rfl,rfl⟩:=h;exact⟨.i _ _,A⟩
 | lenL x=>simp only[E] at h;obtain⟨_,_,rfl,rfl⟩:=h;exact⟨.i _ _,A⟩
 | app s x e sz=>
  simp only[E] at h;obtain⟨F,xs,o,C,_,rfl,h⟩:=h;have M:=wU C (L x (by simp[Bh.xs])) A;refine⟨.arr _ (J F o),?_⟩;split at h
  .obtain⟨_,rfl⟩:=h;exact A.cons (J F o) (.arr _ _ _ M)
  .obtain⟨es,D,_,rfl⟩:=h;refine(A.del _).cons (J F o) (.arr _ _ _ λy B=>?_);rcases AfJ.1 B with B|B
   .exact(A _ _ D).2.arr_inv y B
   .exact M y B
  .exact h.elim
 | apps s x e=>
  simp only[E] at h;obtain⟨F,l,o,C,rfl,h⟩:=h;have M:∀y∈A6 l,Bw S y:=by intro y B;obtain⟨c,_,rfl⟩:=Aov.1 B;exact .i _ _
  refine⟨.arr _ (J F o),?_⟩;split at h
  .obtain⟨_,rfl⟩:=h;exact A.cons (J F o) (.arr _ _ _ M)
  .obtain⟨es,D,_,rfl⟩:=h;refine(A.del _).cons (J F o) (.arr _ _ _ λy B=>?_);rcases AfJ.1 B with B|B
   .exact(A _ _ D).2.arr_inv y B
   .exact M y B
  .exact h.elim
 | slT x hi sz=>simp only[E] at h;obtain⟨F,id,e,es,q,o,_,D,_,_,rfl,rfl⟩:=h;exact⟨.arr _ (J F o),(A.del _).cons (J F o) (.arr _ _ _ λy B=>(A _ _ D).2.arr_inv y (AzB B))⟩
 | ext x k=>simp only[E] at h;obtain⟨vs,C,D,rfl⟩:=h;have G:=L x (by simp[Bh.xs]);rw[C] at G;exact⟨DD G.tup_inv D,A⟩
 | mkfn f first caps=>simp only[E] at h;obtain⟨rfl,rfl⟩:=h;exact⟨.fn _ _ _ (Ew λx U=>L x (by simp[Bh.xs,U])) (Ew λx U=>L x (by simp[Bh.xs,U])),A⟩
 | mksl l c z e sz=>simp only[E] at h;obtain⟨F,_,_,n,m,o,_,_,_,_,rfl,rfl⟩:=h;refine⟨.arr _ (J F o),A.cons (J F o) (.arr _ _ _ λy B=>?_)⟩;rw[(List.mem_replicate.1 B).2];exact hz z (by simp[Bh.zs])
 | mx lo x xs=>simp only[E] at h;obtain⟨h,rfl⟩:=h;exact⟨Ano _ h (L x (by simp[Bh.xs])),A⟩
 | nilck x=>simp only[E] at h;obtain⟨_,rfl,rfl⟩:=h;exact⟨L x (by simp[Bh.xs]),A⟩
 | pu k xs=>simp only[E] at h;obtain⟨h,rfl⟩:=h;exact⟨Akn h (Ew L),A⟩
 | rdm k m xs=>
  simp only[E] at h;obtain⟨⟨id,e,_,C,D⟩,rfl⟩:=h;refine⟨?_,A⟩;have N:=(A _ _ C).2;unfold rdF at D;split at D
  .rename_i kk z ok es k hk;obtain⟨r,W,rfl⟩:=Afo.1 D;have ab:=hz z (by simp[Bh.zs]);split
   .have G:=U1 W N.map_inv;split
    .refine .tup _ λy B=>?_;simp only[Ahk,AzL,or_false] at B;rcases B with rfl|rfl
     .exact G
     .exact .b _
    .exact G
   .split
    .refine .tup _ λy B=>?_;simp only[Ahk,AzL,or_false] at B;rcases B with rfl|rfl
     .exact ab
     .exact .b _
    .exact ab
  .cases D;exact .i _ _
  .cases D
 | wrm k m xs=>
  simp only[E] at h;obtain⟨id,e,e',_,C,D,rfl⟩:=h;have N:=(A _ _ C).2;have M:=Ew (S:=S) (g:=g) (xs:=xs) λx U=>L x (by simp[Bh.xs,U]);generalize xs.map (ev g)=ws at *;unfold wrF at D;split at D
  .rename_i kk es k v0;obtain⟨r,W,h4⟩:=Afo.1 D;have hk:=M k (by simp);have G:=M v0 (by simp);split at h4
   .cases h4;refine⟨.tup _ (by simp),A.upd C (.map _ λy B=>?_)⟩;obtain⟨j,hj⟩:=AxL.1 B;rw[A0P] at hj;obtain⟨y0,ad,rfl⟩:=Afo.1 hj;have:=N.map_inv y0 (Ao6 ad);split
    .exact⟨this.1,G⟩
    .exact this
   .cases h4;refine⟨.tup _ (by simp),A.upd C (.map _ λy B=>?_)⟩;rcases AfJ.1 B with B|B
    .exact N.map_inv y B
    .simp only[AzE] at B;subst B;exact⟨hk,G⟩
  .split at D
   .cases D;refine⟨.tup _ λy B=>?_,A.upd C (.it _ _)⟩;simp only[Ahk,AzL,or_false] at B;rcases B with rfl|rfl|rfl
    .exact .b _
    .exact .i _ _
    .exact .i _ _
   .cases D;refine⟨.tup _ λy B=>?_,A.upd C (.it _ _)⟩;simp only[Ahk,AzL,or_false] at B;subst B;exact .b _
  .cases D
 | mkm k xs=>
  simp only[E] at h;obtain⟨F,e,o,C,rfl,rfl⟩:=h;refine⟨?_,A.cons (J F o) ?_⟩
  .unfold mkV;split<;>first|exact .ref _ _ (J F o)|exact .arr _ (J F o)
  unfold ZK at C;split at C
  .cases C;exact .map _ (by simp)
  .cases C;exact .it _ _
  .cases C;exact .tbox _ _ (hz _ (by simp[Bh.zs]))
  .rename_i t x M;split at C
   .cases C;refine .tbox _ _ (Ew (λy B=>L y (by simpa[Bh.xs] using B)) x ?_);rw[M];exact Aea ..
   .cases C
  .cases C
 | frz m n=>simp only[E] at h;obtain⟨id,cs,_,C,_,_,rfl,rfl⟩:=h;exact⟨.sl _ (A _ _ C).2.box_inv.agg_inv,A.del _⟩
 | mrange m=>simp only[E] at h;obtain⟨F,mid,es,o,_,C,rfl,rfl⟩:=h;exact⟨.arr _ (J F o),A.cons (J F o) (.mit _ _ _ _ (A _ _ C).1)⟩
 | mentry m=>
  simp only[E] at h;obtain⟨id,mid,ae,seen,i,es,kv,_,_,_,C,D,rfl,rfl⟩:=h;have:=(A _ _ C).2.map_inv kv (Ao6 D);refine⟨.tup _ λy B=>?_,A⟩;simp only[Ahk,AzL,or_false] at B;rcases B with rfl|rfl
  .exact this.1
  .exact this.2
 | call f args=>simp[Bh.isC] at X
 | calls f args=>simp[Bh.isC] at X
 | calln f args=>simp[Bh.isC] at X
 | callr f args=>simp[Bh.isC] at X
 | callvs f args=>simp[Bh.isC] at X
end
def cut(m:Nat)(μ:Id->Option Value):Id->Option Value:=λid=>if id.1<m then μ id else none
def Lt(m:Nat):Id->Prop:=λid=>id.1<m
theorem Hh{m μ id}(h:Lt m id):cut m μ id=μ id:=Amm h
theorem Ap.agree{S μ μ2 H v val}(h:Ap μ H v val)(G:∀id,S id->μ2 id=μ id)(r:Bw S v):Ap μ2 H v val:=by
 induction h with
 | b x=>exact .b x
 | i k n=>exact .i k n
 | s l h=>exact .s l h
 | nil=>exact .nil
 | slE a p=>exact .slE a p
 | slC es C p sz j R U J A z hp _ B=>exact .slC es C p sz j R U J A z hp (λk c v o g=>B k c v o g (DD (aD r.sl_inv) o))
 | agg cs j A z _ B=>exact .agg cs j A z (λk c v o g=>B k c v o g (DD r.agg_inv o))
 | tup cs j A _ B=>exact .tup cs j A (λk c v o g=>B k c v o g (DD r.tup_inv o))
 | ref id q D h=>exact .ref id q D (by rw[G _ r.ref_inv];exact h)
 | arr id v h z=>exact .arr id v (by rw[G _ r.arr_inv];exact h) z
 | aref id W sz q D N p h=>exact .aref id W sz q D N p (by rw[G _ r.aref_inv];exact h)
 | ep e q C j A z hp _ B=>exact .ep e q C j A z hp (λk c v o g=>B k c v o g (DD r.ep_inv.cells o))
 | fn f first caps y u F E _ _ M L=>exact .fn f first caps y u F E (λk c v o g=>M k c v o g (DD r.fn_inv.1 o)) (λk c v o g=>L k c v o g (DD r.fn_inv.2 o))
 | np=>exact .np
 | nf=>exact .nf
 | ni=>exact .ni
 | nm=>exact .nm
 | ub t=>exact .ub t
 | any v=>exact .any v
section agree
variable{S:Id→Prop}{μ μ2:Id→Option Value}{H:Addr→Option Value}
theorem VRels.agree{cs b}(h:VRels μ H cs b)(i:∀id,S id->μ2 id=μ id)(j:∀c∈cs,Bw S c):VRels μ2 H cs b:=
 ⟨h.len,λk c v g e=>(h.at_ k c v g e).agree i (DD j g)⟩
theorem AY.agree{cs b}(h:AY μ H cs b)(e:∀id,S id->μ2 id=μ id)(g:∀c∈cs,Bw S c):AY μ2 H cs b:=
 ⟨h.toVRels.agree e g,h.one⟩
theorem D0.agree{B w id e}(h:D0 B μ H w id e)(i:∀id,S id->μ2 id=μ id)(x:S id)(J:Lz S e):D0 B μ2 H w id e:=by
 cases J with
 | box v s=>obtain⟨C,b,t,j,o,q,g⟩:=h;exact⟨C,b,t,by rw[i _ x];exact j,o,q,g.agree i s.cells⟩
 | tbox t v s=>obtain⟨C,b,j,o,q,g⟩:=h;exact⟨C,b,by rw[i _ x];exact j,o,q,g.agree i s.cells⟩
 | arr e sz es s=>obtain⟨v,b,j,o,q,g,F,G⟩:=h;exact⟨v,b,by rw[i _ x];exact j,o,q,g,F,G.agree i (aD s)⟩
 | map es s=>obtain⟨r,D,u,j,o,q,g⟩:=h;exact⟨r,D,u,by rw[i _ x];exact j,o,q,⟨g.len,λk c A y z=>⟨(g.at_ k c A y z).1.agree i (s c (Ao6 y)).1,(g.at_ k c A y z).2.agree i (s c (Ao6 y)).2⟩,g.born,g.now⟩⟩
 | it l p=>obtain⟨r,j,o,q⟩:=h;exact⟨r,by rw[i _ x];exact j,o,q⟩
 | mit mid E seen st z=>obtain⟨r,A,j,o,q,g⟩:=h;exact⟨r,A,by rw[i _ x];exact j,o,by rw[i _ z];exact q,g⟩
theorem LA{σ c}(b:CU S σ)(g:∀id,S id->μ2 id=μ id)(h:GW μ2 σ c):GW μ σ c:=by have ⟨id,e,hl,hb⟩:=h;exact⟨id,e,hl,by rw[<-g _ (b _ _ hl).1];exact hb⟩
theorem Hp.agree{O σ n m w}(h:Hp O σ n μ H w)(b:CU S σ)(c:∀id,S id->μ2 id=μ id)(g:∀id,m<=id.1->μ2 id=none):Hp O σ m μ2 H w where
 base:=h.base
 pins:=h.pins
 ents id e hl:=(h.ents id e hl).agree c (b id e hl).1 (b id e hl).2
 unp bk ho:=h.unp bk (LA b c ho)
 sep id e id' e' bk h1 h2 b1 b2:=by rw[c _ (b _ _ h1).1] at b1;rw[c _ (b _ _ h2).1] at b2;exact h.sep id e id' e' bk h1 h2 b1 b2
 bd:=g
end agree
theorem LL{m μ}:∀id,Lt m id->cut m μ id=μ id:=λ_ h=>Hh h
theorem Ap.cut{m μ H v val}(h:Ap μ H v val)(b:Bw (Lt m) v):Ap (cut m μ) H v val:=h.agree LL b
theorem VRels.cut{m μ H cs b}(h:VRels μ H cs b)(e:∀c∈cs,Bw (Lt m) c):VRels (Go.Ir.cut m μ) H cs b:=h.agree LL e
theorem Io{m μ σ b}(h:GW (cut m μ) σ b):GW μ σ b:=by
 have ⟨id,e,hl,hb⟩:=h;refine⟨id,e,hl,?_⟩;unfold cut at hb;split at hb
 .exact hb
 .simp[Cl] at hb
theorem Hp.cut{O σ n m μ H w}(h:Hp O σ n μ H w)(c:CU (Lt m) σ):Hp O σ m (Go.Ir.cut m μ) H w:=h.agree c LL λid b=>AfL (A2d.2 b)
end Go.Ir
end
section
namespace Go.Ir
open Go.RowKit
structure Hk (P:Program) (O:World) (f:FuncId) (args:List V) (σ:Aq) (n:Nat) (v:V) (σ':Aq) (n':Nat):Prop where
 callable:callable P f=true
 le:n<=n'
 vin:Bw (Lt n') v
 sin:CU (Lt n') σ'
 run:∀w μ H vals,Hp O σ n μ H w->VRels μ H args vals->Calls P f vals.toArray w fun e w'=>
  ∃val μ' H',e=.returned val/\Ap μ' H' v val/\Hp O σ' n' μ' H' w'/\Fr μ H σ w μ' H' σ' w'/\∀id,id.1<n->μ id=none->μ' id=none
abbrev BJ:=FuncId->List V->Aq->Nat->Option (V×Aq×Nat)
def Bo(P:Program)(O:World)(C:BJ):Prop:=∀f args σ n v σ' n',C f args σ n=some (v,σ',n')->(∀a∈args,Bw (Lt n) a)->CU (Lt n) σ->Hk P O f args σ n v σ' n'
def Kv(g:Nat->V):Bh->Option (FuncId×List V)
 | .call f xs|.calls f xs|.calln f xs|.callr f xs=>some (f,xs.map (ev g))
 | .callvs x xs=>match ev g x with
  | .fn f a c=>some (f,a++xs.map (ev g)++c)
  | _=>none
 | _=>none
def Pn(env:BB):Option (Nat×Bool)->Option Bool
 | none=>some true
 | some (s,c)=>match get env s with
  | .b t=>some (t==c)
  | .tup []=>some false
  | _=>none
def Cf(S:Id->Prop)(env:BB):Prop:=∀s,Bw S (get env s)
theorem Cf.mono{S T env}(h:Cf S env)(b:∀id,S id->T id):Cf T env:=λs=>(h s).mono b
theorem Cf.put{S env d v}(h:Cf S env)(b:Bw S v):Cf S (put env d v):=by
 intro s;rw[HQ];split
 .exact b
 .exact h s
theorem Cf.restrict{S env}(h:Cf S env) live:Cf S (restrict live env):=by
 intro s;rcases Cm live env s with e|e
 .rw[e];exact h s
 .rw[e];exact .any
theorem Lt.mono{m n}(h:m<=n):∀id,Lt m id->Lt n id:=λid b=>AuD b h
mutual
def YN:V->Bool
 | .sl es|.agg es|.tup es=>Ty es
 | .ref _ _|.arr _|.aref _ _ _ _|.ep _ _=>false
 | .fn _ a c=>Ty a&&Ty c
 | _=>true
def Ty:List V->Bool
 | []=>true
 | v::vs=>YN v&&Ty vs
end
theorem QI{S}:(∀v:V,YN v=true->Bw S v)/\∀vs:List V,Ty vs=true->∀v∈vs,Bw S v:=by
 have key:∀n:Nat,(∀v:V,SizeOf.sizeOf v<n->YN v=true->Bw S v)/\∀vs:List V,SizeOf.sizeOf vs<n->Ty vs=true->∀v∈vs,Bw S v:=by
  intro n
  induction n with
  | zero=>exact⟨λv h=>absurd h (A2f _),λv h=>absurd h (A2f _)⟩
  | succ n e=>
   refine⟨λv g h=>?_,λvs g h=>?_⟩
   .cases v with
    | sl es=>simp at g;simp only[YN] at h;exact .sl _ (e.2 es (by omega) h)
    | agg es=>simp at g;simp only[YN] at h;exact .agg _ (e.2 es (by omega) h)
    | tup es=>simp at g;simp only[YN] at h;exact .tup _ (e.2 es (by omega) h)
    | fn f a c=>simp at g;simp only[YN,AaS] at h;exact .fn _ _ _ (e.2 a (by omega) h.1) (e.2 c (by omega) h.2)
    | b x=>exact .b x
    | i k n=>exact .i k n
    | s l=>exact .s l
    | nil=>exact .nil
    | np=>exact .np
    | nf=>exact .nf
    | ni=>exact .ni
    | nm=>exact .nm
    | ub=>exact .ub
    | any=>exact .any
    | ref=>simp[YN] at h
    | arr=>simp[YN] at h
    | aref=>simp[YN] at h
    | ep=>simp[YN] at h
   .cases vs with
    | nil=>intro v j;cases j
    | cons x xs=>
     simp at g;simp only[Ty,AaS] at h;intro v j;rcases Ahk.1 j with rfl|j
     .exact e.1 _ (by omega) h.1
     .exact e.2 xs (by omega) h.2 v j
 exact⟨λv=>(key (SizeOf.sizeOf v+1)).1 v (Ab4 _),λvs=>(key (SizeOf.sizeOf vs+1)).2 vs (Ab4 _)⟩
def X.cl:X->Bool
 | .t _=>true
 | .c v=>YN v
def I.cl(i:I):Bool:=i.op.xs.all X.cl&&Ty i.op.zs
def IC.cl:IC->Bool
 | .seqr l _|.ops l _ _=>l.all I.cl
 | .opxe l i _ _=>l.all I.cl&&i.cl
 | .seq a b|.cond _ a b=>a.cl&&b.cl
 | .block _ c|.loop c|.wk c=>c.cl
 | .exit _|.ret|.skip=>true
 | .mnext _ _ x _=>X.cl x
 | _=>false
theorem X.cl_in{S x env}(h:x.cl=true)(b:Cf S env):Bw S (ev (get env) x):=by
 cases x with
 | t s=>exact b s
 | c v=>exact QI.1 v h
theorem I.cl_xs{S}{i:I}{env}(h:i.cl=true)(b:Cf S env):∀x∈i.op.xs,Bw S (ev (get env) x):=by intro x c;unfold I.cl at h;simp only[AaS,Ao8] at h;exact X.cl_in (h.1 x c) b
theorem I.cl_zs{S}{i:I}(h:i.cl=true):∀z∈i.op.zs,Bw S z:=by unfold I.cl at h;simp only[AaS] at h;exact QI.2 _ h.2
theorem Qe{S}{i:I}{env f args}(h:Kv (get env) i.op=some (f,args))(o:i.cl=true)(p:Cf S env):∀a∈args,Bw S a:=by
 have j:=I.cl_xs (S:=S) o p;generalize i.op=s at h j;have b:∀{xs:List X},(∀x∈xs,Bw S (ev (get env) x))->∀a∈xs.map (ev (get env)),Bw S a:=λh=>Ew h;have val:∀{x:X} {xs:List X},(∀y∈x::xs,Bw S (ev (get env) y))->(match ev (get env) x with
  | .fn f a c=>some (f,a++xs.map (ev (get env))++c)
  | _=>none)=some (f,args)->∀a∈args,Bw S a:=by
  intro x xs k h;split at h
  .rename_i A t u q;cases h;have g:=k x (by simp);rw[q] at g;intro a e;simp only[Azs,AfJ] at e;rcases e with e|e|e
   .exact g.fn_inv.1 a e
   .exact Ew (λz r=>k z (by simp[r])) a e
   .exact g.fn_inv.2 a e
  .cases h
 cases s<;>simp only[Kv] at h<;>first
  | (cases h;done)
  | (cases h;exact b j)
  | exact val j h
section
variable{P:Program}{O:World}{nt ep:Nat}{ops:Array Oper}
theorem AbB{k:Nat}{o:Oper}{i:I}{env:BB}{μ:Id->Option Value}{H:Addr->Option Value}{a:Act}{w:World}(R:ops[k]?=some o)(q:Vb P nt ops o i=true)(U:Rl μ H nt env a)(next:Act->World->Prop)(Q:Exit->Act->World->Prop) :
  (Pn env i.gd=some true->o.wp P a w next Q->wpOp P ops Q k next a w)/\(Pn env i.gd=some false->next (a.put i.dst undef) w->wpOp P ops Q k next a w):=by
 unfold Vb at q;simp only[AaS,AjK] at q;obtain⟨⟨⟨⟨Y,J⟩,Z⟩,B⟩,h5⟩:=q;unfold wpOp;simp only[R];cases z:o.guard with
 | none=>
  have C:Region.wanted o (yielded ops a.tmps)=true:=by simp[Region.wanted,z]
  rw[Amm C];refine⟨λ_ h=>.inl h,λh=>?_⟩;cases e:i.gd with
  | some x=>obtain⟨x,y⟩:=x;simp[z,e,okG] at B
  | none=>rw[e] at h;cases h
 | some X=>
  obtain⟨j,A⟩:=X;cases e:i.gd with
  | none=>simp[z,e,okG] at B
  | some sw=>
   obtain⟨s,G⟩:=sw;simp only[z,e,okG,AaS,AjK] at B;obtain⟨rfl,N⟩:=B;have p:=U.at_ s;have F:yielded ops a.tmps j=match a.tmps[s]? with|some (.bool b)=>some b|_=>none:=by unfold yielded;rw[N];rfl
   have g:∀b,yielded ops a.tmps j=b->Region.wanted o (yielded ops a.tmps)=(b==some A):=by intro b u;simp[Region.wanted,z,u]
   cases c:get env s with
   | b t=>
    rw[c] at p;have u:=p.b_inv;have E:a.tmps[s]?=some (.bool t):=by
     cases h:a.tmps[s]? with
     | none=>simp[AvD,h,undef] at u
     | some x=>simp[AvD,h] at u;rw[u]
    rw[E] at F;have C:=g _ F;simp only[Pn,c];refine⟨λr h=>?_,λr h=>?_⟩
    .simp only[Ao3,AjK] at r;subst r;rw[Amm (by rw[C];simp)];exact .inl h
    .simp only[Ao3,A1s,ne_eq] at r;rw[AfL (by rw[C];simpa using r),J];exact h
   | tup l=>
    cases l with
    | cons x l=>simp only[Pn,c];exact⟨λh=>(by cases h),λh=>(by cases h)⟩
    | nil=>
     rw[c] at p;obtain⟨M,L,W⟩:=p.tup_inv;have D:yielded ops a.tmps j=none:=by
      rw[F];cases h:a.tmps[s]? with
      | none=>rfl
      | some x=>simp[AvD,h] at L;rw[L]
     simp only[Pn,c];refine⟨λr=>(by cases r),λ_ h=>?_⟩;rw[AfL (by rw[g _ D];simp),J];exact h
   | _=>simp only[Pn,c];exact⟨λh=>(by cases h),λh=>(by cases h)⟩
theorem Tj{μ H env a}{c:Call}{args}(b:Rl μ H nt env a)(e:Bg c.args.toList args=true):VRels μ H (args.map (ev (get env))) (c.args.map a.eval).toList:=by have:=Et b e;simpa using this
theorem AaD{i:Bh}{o:Oper}{env:BB}{a:Act}{μ:Id->Option Value}{H:Addr->Option Value}{f:FuncId}{args:List V}(k:AbU P o.op i=true)(u:Rl μ H nt env a)(h:Kv (get env) i=some (f,args))(p:callable P f=true) :
  ∃e,(∀w,(execOp a.eval o).run P w=.ok (.enter f e) w)/\VRels μ H args e.toList:=by
 have j:∀{g:FuncId} {xs:List X},(match o.op with|.call c=>(match c.callee with|.value (.func s)=>s==g&&Bg c.args.toList xs|_=>false)|_=>false)=true->some (g,xs.map (ev (get env)))=some (f,args)->
   ∃e,(∀w,(execOp a.eval o).run P w=.ok (.enter f e) w)/\VRels μ H args e.toList:=by
  intro g xs b t;cases t;split at b
  .rename_i c r;split at b
   .rename_i s q;simp only[AaS,AjK] at b;obtain⟨rfl,C⟩:=b;exact⟨_,λw=>Eq (a:=a) p r q (show a.eval (.func s)=.func (.func s) #[] #[] from rfl) w,by simpa using Tj u C⟩
   .cases b
  .cases b
 have val:∀{x:X} {xs:List X},(match o.op with|.call c=>(match c.callee with|.value y=>CF y x&&Bg c.args.toList xs|_=>false)|_=>false)=true->(match ev (get env) x with
  | .fn f a c=>some (f,a++xs.map (ev (get env))++c)
  | _=>none)=some (f,args)->∃e,(∀w,(execOp a.eval o).run P w=.ok (.enter f e) w)/\VRels μ H args e.toList:=by
  intro x xs b t;split at t
  .rename_i s F G B;cases t;split at b
   .rename_i c r;split at b
    .rename_i y q;simp only[AaS] at b;have z:=Ar u b.1;rw[B] at z;obtain⟨L,J,A,D,E⟩:=z.fn_inv;exact⟨_,λw=>Eq p r q A w,by simpa using(D.append (Tj u b.2)).append E⟩
    .cases b
   .cases b
  .cases t
 cases i with
 | call g xs=>exact j (g:=g) (xs:=xs) k h
 | calls g xs=>exact j (g:=g) (xs:=xs) k h
 | calln g xs=>exact j (g:=g) (xs:=xs) k h
 | callr g xs=>exact j (g:=g) (xs:=xs) k h
 | callvs x xs=>exact val (x:=x) (xs:=xs) k h
 | _=>simp[Kv] at h
end
end Go.Ir
end
section
namespace Go.Ir
open Go.RowKit
noncomputable section
def chk{c:Type}(b:Bool)(o:Option c):Option c:=bif b then o else none
theorem AC{c b o}{x:c}:chk b o=some x↔b=true/\o=some x:=by cases b<;>simp[chk]
def ile:Int->Int->Bool
 | .ofNat a,.ofNat b=>Nat.ble a b
 | .negSucc a,.negSucc b=>Nat.ble b a
 | .ofNat _,.negSucc _=>false
 | .negSucc _,.ofNat _=>true
theorem MX{a b}:ile a b=true↔a<=b:=by cases a<;>cases b<;>simp only[ile,A1x,A19,Int.negSucc_eq,Ab7,false_iff,true_iff]<;>omega
theorem Si{a b}:ile a b=decide (a<=b):=by rw[Aym,MX,A1K]
def ieq:Int->Int->Bool
 | .ofNat a,.ofNat b=>Nat.beq a b
 | .negSucc a,.negSucc b=>Nat.beq b a
 | .ofNat _,.negSucc _=>false
 | .negSucc _,.ofNat _=>false
theorem MK{a b}:ieq a b=true↔a=b:=by cases a<;>cases b<;>simp only[ieq,AzY,A19,Int.negSucc_eq,Ab7,false_iff]<;>omega
theorem oA{a b}:ieq a b=(a==b):=by rw[Aym,MK,AjK]
def P5(k:IntKind)(n:Int):Int:=
 match k,n with
 | .i64,.ofNat m=>bif Nat.blt m 9223372036854775808 then .ofNat m else k.wrap n
 | _,_=>k.wrap n
theorem K8{k n}:P5 k n=k.wrap n:=by
 unfold P5;split
 .rename_i m;cases h:Nat.blt m 9223372036854775808 with
  | false=>rfl
  | true=>
   have:=(A2t ▸ h:m<9223372036854775808)
   simp only[A00];unfold IntKind.wrap;simp only[IntKind.signed,IntKind.bits];simp;omega
 .rfl
def Ale(c:BinOp)(k:IntKind)(a b:Int):Option V:=
 match c with
 | .add=>some (.i k (P5 k (a+b)))
 | .sub=>some (.i k (P5 k (a-b)))
 | .mul=>some (.i k (P5 k (a*b)))
 | .quo=>bif ieq b 0 then none else some (.i k (k.wrap (a.tdiv b)))
 | .rem=>bif ieq b 0 then none else some (.i k (a.tmod b))
 | .eql=>some (.b (ieq a b))
 | .neq=>some (.b (!ieq a b))
 | .lss=>some (.b (!ile b a))
 | .leq=>some (.b (ile a b))
 | .gtr=>some (.b (!ile a b))
 | .geq=>some (.b (ile b a))
 | _=>none
theorem Wz{g k a b v}(h:Ale g k a b=some v):UT g k a b v:=by
 unfold Ale at h;unfold UT;split at h
 .cases h;simp only[K8]
 .cases h;simp only[K8]
 .cases h;simp only[K8]
 .cases c:ieq b 0 with
  | true=>rw[c] at h;cases h
  | false=>rw[c] at h;cases h;exact⟨λe=>(by rw[<-MK,c] at e;cases e),rfl⟩
 .cases c:ieq b 0 with
  | true=>rw[c] at h;cases h
  | false=>rw[c] at h;cases h;exact⟨λe=>(by rw[<-MK,c] at e;cases e),rfl⟩
 .cases h;simp only[oA]
 .cases h;simp only[oA];rfl
 .cases h;exact A1o V.b (Aym.2 (by rw[AsZ,Si,A0U,A1K];omega))
 .cases h;simp only[Si]
 .cases h;exact A1o V.b (Aym.2 (by rw[AsZ,Si,A0U,A1K];omega))
 .cases h;exact A1o V.b (Aym.2 (by rw[Si,A1K]))
 .cases h
def QG:List UInt8->List UInt8->Bool
 | [],[]=>true
 | a::x,b::y=>Nat.beq a.toNat b.toNat&&QG x y
 | _,_=>false
theorem Ik:∀{x y},QG x y=(x==y)
 | [],[]=>rfl
 | a::x,b::y=>by rw[QG,Ik,List.cons_beq_cons];congr 1;rw[Aym,AzY];simp only[AjK,A1y]
 | [],b::y=>rfl
 | a::x,[]=>rfl
def Al9(c:BinOp)(a b:List UInt8):Option V:=
 match c with
 | .add=>chk (Nat.ble (a.length+b.length) AG) (some (.s (a++b)))
 | .eql=>some (.b (QG a b))
 | .neq=>some (.b (!QG a b))
 | .lss=>some (.b (Op.bytesLess a b))
 | .leq=>some (.b (Op.bytesLess a b||QG a b))
 | .gtr=>some (.b (!(Op.bytesLess a b||QG a b)))
 | .geq=>some (.b (!Op.bytesLess a b))
 | _=>none
theorem VC{c a b v}(h:Al9 c a b=some v):UP c a b v:=by
 unfold Al9 at h;unfold UP;split at h
 .have ⟨h1,h2⟩:=AC.1 h;simp_all
 .cases h;simp only[Ik]
 .cases h;simp only[Ik]
 .cases h;rfl
 .cases h;simp only[Ik]
 .cases h;simp only[Ik]
 .cases h;rfl
 .cases h
def AnZ(c:BinOp):V->V->Option V
 | .i k a,.i e b=>chk (decide (k=e)) (Ale c k a b)
 | .s a,.s b=>Al9 c a b
 | _,_=>none
theorem WB{b x y v}(h:AnZ b x y=some v):Rg b x y v:=by
 unfold AnZ at h;unfold Rg;split at h
 .have ⟨h1,h2⟩:=AC.1 h;exact⟨Awz h1,Wz h2⟩
 .exact VC h
 .cases h
def iG(a b:Id):Bool:=Bool.rec (motive:=λ_=>Bool) false (Nat.beq a.2 b.2) (Nat.beq a.1 b.1)
theorem HU{a b}:iG a b=true↔a=b:=by
 unfold iG;cases h:Nat.beq a.1 b.1 with
 | false=>
  constructor
  .intro c;cases c
  .intro c;simp_all
 | true=>
  have c:=Ayq h;constructor
  .intro e;exact Prod.ext c (Ayq e)
  simp_all
def Lg(σ:Aq)(id:Id):Option AP:=List.rec (motive:=λ_=>Option AP) none (λp _ b=>Bool.rec (motive:=λ_=>Option AP) b (some p.2) (iG p.1 id)) σ
theorem Cg:∀{σ id},Lg σ id=lk σ id
 | [],id=>rfl
 | (k,e)::r,id=>by
  have b:Lg ((k,e)::r) id=Bool.rec (motive:=λ_=>Option AP) (Lg r id) (some e) (iG k id):=rfl;rw[b,lk,Cg];by_cases h:k=id
  .rw[Amm h,HU.2 h]
  .rw[AfL h];cases c:iG k id with
   | false=>rfl
   | true=>exact absurd (HU.1 c) h
def Afl(σ:Aq)(id:Id)(e:AP):Aq:=List.rec (motive:=λ_=>Aq) [] (λp r b=>Bool.rec (motive:=λ_=>Aq) (p::b) ((p.1,e)::r) (iG p.1 id)) σ
theorem Su:∀{σ id e},Afl σ id e=upd σ id e
 | [],id,e=>rfl
 | (k,x)::r,id,e=>by
  have b:Afl ((k,x)::r) id e=Bool.rec (motive:=λ_=>Aq) ((k,x)::Afl r id e) ((k,e)::r) (iG k id):=rfl;rw[b,upd,Su];by_cases h:k=id
  .rw[Amm h,HU.2 h]
  .rw[AfL h];cases c:iG k id with
   | false=>rfl
   | true=>exact absurd (HU.1 c) h
def zX(σ:Aq)(id:Id):Aq:=List.rec (motive:=λ_=>Aq) [] (λp _ b=>Bool.rec (motive:=λ_=>Aq) (p::b) b (iG p.1 id)) σ
theorem aA:∀{σ id},zX σ id=del σ id
 | [],id=>rfl
 | (k,x)::r,id=>by
  have b:zX ((k,x)::r) id=Bool.rec (motive:=λ_=>Aq) ((k,x)::zX r id) (zX r id) (iG k id):=rfl;rw[b,del,aA];by_cases h:k=id
  .rw[Amm h,HU.2 h]
  .rw[AfL h];cases c:iG k id with
   | false=>rfl
   | true=>exact absurd (HU.1 c) h
def AsH:V->Bool
 | .ref _ _|.aref _ _ _ _|.ep _ _|.fn _ _ _=>true
 | _=>false
def Af0(ep:Nat)(d:Option Nat)(z:V)(e sz:Nat)(σ:Aq):V->V->Option (V×Aq)
 | .i _ (.ofNat n),.i _ (.ofNat m)=>match d with
  | some b=>chk (Nat.ble n m&&Nat.ble m AJ) (some (.arr (ep,b),((ep,b),.arr e sz (List.replicate n z))::σ))
  | none=>none
 | _,_=>none
def Pe(ep:Nat)(d:Option Nat)(v:Id->V)(e:AP)(σ:Aq):Option (V×Aq):=
 match d with
 | some b=>some (v (ep,b),((ep,b),e)::σ)
 | none=>none
def kJ(σ:Aq)(sz:Nat):V->V->Option V
 | .i _ n,.sl es=>chk (ile 0 n) ((es[n.toNat]?).bind λc=>chk (Nat.beq (cells c).length sz) (some (.ep c 0)))
 | .i _ n,.arr id=>chk (ile 0 n) (match Lg σ id with
  | some (.arr _ b es)=>chk (Nat.beq b sz&&Nat.blt n.toNat es.length) (some (.aref id n.toNat sz 0))
  | _=>none)
 | _,_=>none
def Ai7(σ:Aq)(n:Nat)(ag:Bool):V->Option V
 | .ref id b=>match Lg σ id with
  | some e=>ldB e b n ag
  | none=>none
 | .aref id h sz b=>match Lg σ id with
  | some (.arr _ c es)=>chk (Nat.beq c sz) ((es[h]?).bind λg=>sub g b n ag)
  | _=>none
 | .ep u b=>sub u b n ag
 | _=>none
def xD(σ:Aq)(n:Nat)(x:V):V->Option Aq
 | .ref id b=>match Lg σ id with
  | some e=>(eJ e b n x).map λe'=>upd σ id e'
  | none=>none
 | .aref id h sz b=>match Lg σ id with
  | some (.arr e g es)=>chk (Nat.beq g sz) ((es[h]?).bind λi=>(Ef i b n x).map λc=>upd σ id (.arr e sz (es.set h c)))
  | _=>none
 | _=>none
def AcN(ep:Nat)(d:Option Nat)(e sz:Nat)(xs:List V)(σ:Aq):V->Option (V×Aq)
 | .nil=>chk (Nat.ble xs.length AJ) (Pe ep d .arr (.arr e sz xs) σ)
 | .arr id=>match Lg σ id with
  | some (.arr e' b es)=>chk (Nat.beq e' e&&Nat.beq b sz&&Nat.ble (es.length+xs.length) AJ) (Pe ep d .arr (.arr e sz (es++xs)) (del σ id))
  | _=>none
 | _=>none
def Aot(g:Nat->V)(e c:Option X)(sz:Nat)(es:List V):Option V:=
 (GV g 0 e).bind λa=>(GV g es.length c).bind λb=>chk (Nat.ble a b&&Nat.ble b es.length&&es.all λy=>Nat.beq (cells y).length sz) (some (.sl ((es.take b).drop a)))
def Rt(σ:Aq):V->Option (List V)
 | .sl xs=>some xs
 | .nil=>some []
 | .arr id=>match Lg σ id with
  | some (.arr _ _ es)=>some es
  | _=>none
 | _=>none
theorem PQ{σ v}:Rt σ v=AE σ v:=by
 cases v with
 | arr id=>simp only[Rt,AE,Cg];grind
 | _=>rfl
def ApW(σ:Aq)(n:Nat):V->Option (V×Aq)
 | .ref id 0=>match Lg σ id with
  | some (.box (.agg cs))=>chk (Nat.beq cs.length n&&cs.all λc=>!UX c) (some (.sl cs,del σ id))
  | _=>none
 | _=>none
def fE(ep:Nat)(d:Option Nat)(A:Bh)(g:Nat->V)(σ:Aq):Option (V×Aq):=
 match A with
 | .mv x=>some (ev g x,σ)
 | .pick c a b=>match ev g c with
  | .b t=>some (bif t then ev g a else ev g b,σ)
  | _=>none
 | .bin A x y=>(AnZ A (ev g x) (ev g y)).map λv=>(v,σ)
 | .eqb E x y=>match ev g x,ev g y with
  | .b a,.b b=>some (.b (bif E then !(a==b) else a==b),σ)
  | _,_=>none
 | .not x=>match ev g x with
  | .b a=>some (.b (!a),σ)
  | _=>none
 | .neg x=>match ev g x with
  | .i k n=>some (.i k (k.wrap (0-n)),σ)
  | _=>none
 | .cvi k x=>match ev g x with
  | .i _ n=>some (.i k (P5 k n),σ)
  | _=>none
 | .faddr x h=>match ev g x with
  | .ref id o=>some (.ref id (o+h),σ)
  | .aref id D sz o=>some (.aref id D sz (o+h),σ)
  | .ep e o=>some (.ep e (o+h),σ)
  | _=>none
 | .iaddr x i _ sz=>(kJ σ sz (ev g i) (ev g x)).map λv=>(v,σ)
 | .idx x i=>match ev g x,ev g i with
  | .s l,.i _ n=>chk (ile 0 n) ((l[n.toNat]?).map λc=>(.i .u8 c.toNat,σ))
  | _,_=>none
 | .load x n ag=>(Ai7 σ n ag (ev g x)).map λv=>(v,σ)
 | .store a x n=>chk (ev g x).ok ((xD σ n (ev g x) (ev g a)).map λτ=>(.tup [],τ))
 | .box x=>chk (ev g x).ok (Pe ep d (λid=>.ref id 0) (.box (ev g x)) σ)
 | .alloc z=>Pe ep d (λid=>.ref id 0) (.box z) σ
 | .build z ps=>chk (ps.all λp=>(ev g p.2.2).ok) ((FC z (ps.map λp=>(p.1,p.2.1,ev g p.2.2))).map λcs=>(.agg cs,σ))
 | .msl own e sz xs=>chk ((xs.map (ev g)).all λx=>x.ok&&Nat.beq (cells x).length sz) (bif own then Pe ep d .arr (.arr e sz (xs.map (ev g))) σ else some (.sl (xs.map (ev g)),σ))
 | .slS x u j=>match ev g x with
  | .s l=>(GV g 0 u).bind λa=>(GV g l.length j).bind λb=>chk (Nat.ble a b&&Nat.ble b l.length) (some (.s ((l.take b).drop a),σ))
  | _=>none
 | .slL x u j sz=>match ev g x with
  | .sl es=>(Aot g u j sz es).map λv=>(v,σ)
  | .nil=>(Aot g u j sz []).map λv=>(v,σ)
  | _=>none
 | .lenS x=>match ev g x with
  | .s l=>some (.i .i64 l.length,σ)
  | _=>none
 | .lenL x=>(Rt σ (ev g x)).map λes=>(.i .i64 es.length,σ)
 | .app s x e sz=>(Rt σ (ev g x)).bind λxs=>chk (xs.all λy=>Nat.beq (cells y).length sz) (AcN ep d e sz xs σ (ev g s))
 | .apps s x e=>match ev g x with
  | .s l=>AcN ep d e 1 (A6 l) σ (ev g s)
  | _=>none
 | .slT x j sz=>match ev g x with
  | .arr id=>match Lg σ id with
   | some (.arr e B es)=>(GV g es.length (some j)).bind λq=>chk (Nat.beq B sz&&Nat.ble q es.length) (Pe ep d .arr (.arr e sz (es.take q)) (del σ id))
   | _=>none
  | _=>none
 | .ext x k=>match ev g x with
  | .tup vs=>(vs[k]?).map λv=>(v,σ)
  | _=>none
 | .mkfn f a c=>some (.fn f (a.map (ev g)) (c.map (ev g)),σ)
 | .mksl l c z e sz=>Af0 ep d z e sz σ (ev g l) (ev g c)
 | .mx u x xs=>(RJ u (ev g x) (xs.map (ev g))).map λv=>(v,σ)
 | .nilck x=>chk (AsH (ev g x)) (some (ev g x,σ))
 | .pu k xs=>(M0 k (xs.map (ev g))).map λv=>(v,σ)
 | .rdm k m xs=>match ev g m with
  | .arr id=>(Lg σ id).bind λe=>(rdF k e (xs.map (ev g))).map λv=>(v,σ)
  | _=>none
 | .wrm k m xs=>match ev g m with
  | .arr id=>(Lg σ id).bind λe=>(wrF k e (xs.map (ev g))).map λr=>(r.2,upd σ id r.1)
  | _=>none
 | .mkm k xs=>(ZK k (xs.map (ev g))).bind λe=>Pe ep d (mkV k) e σ
 | .frz m n=>ApW σ n (ev g m)
 | .mrange m=>match ev g m with
  | .arr mid=>match Lg σ mid with
   | some (.map es)=>Pe ep d .arr (.mit mid es.length [] es.length) σ
   | _=>none
  | _=>none
 | .mentry m=>match ev g m with
  | .arr id=>match Lg σ id with
   | some (.mit mid _ seen st)=>match Lg σ mid with
    | some (.map es)=>chk (Nat.beq st es.length) (seen.getLast?.bind λi=>(es[i]?).map λC=>(.tup [C.1,C.2],σ))
    | _=>none
   | _=>none
  | _=>none
 | _=>none
theorem Dl{ep d f e σ σ' v}(h:Pe ep d f e σ=some (v,σ')):∃b,d=some b/\v=f (ep,b)/\σ'=((ep,b),e)::σ:=by
 cases d with
 | none=>cases h
 | some b=>cases h;grind
theorem Dg{b β:Type}{o}{f:b->V}{σ σ':Aq}{v}(h:(o.map λa=>(f a,σ))=some (v,σ')):∃a,o=some a/\v=f a/\σ'=σ:=by have ⟨a,h1,h2⟩:=Afo.1 h;grind
theorem OC{P O ep d op g σ σ' v}(h:fE ep d op g σ=some (v,σ')):E P O ep d op g σ v σ':=by
 cases op with
 | mv x=>cases h;exact⟨rfl,rfl⟩
 | pick c a b=>
  simp only[fE] at h;split at h
  .rename_i t e;cases h;exact⟨t,e,rfl,rfl⟩
  .cases h
 | bin op x y=>obtain⟨a,p,rfl,rfl⟩:=Dg (β:=V) h;exact⟨WB p,rfl⟩
 | eqb ne x y=>
  simp only[fE] at h;split at h
  .rename_i a b e1 e2;cases h;exact⟨a,b,e1,e2,by cases ne<;>rfl,rfl⟩
  .cases h
 | not x=>
  simp only[fE] at h;split at h
  .rename_i a e;cases h;exact⟨a,e,rfl,rfl⟩
  .cases h
 | neg x=>
  simp only[fE] at h;split at h
  .rename_i k n e;cases h;exact⟨k,n,e,rfl,rfl⟩
  .cases h
 | cvi k x=>
  simp only[fE] at h;split at h
  .rename_i k' n e;cases h;exact⟨k',n,e,by rw[K8],rfl⟩
  .cases h
 | faddr x ap=>
  simp only[fE] at h;split at h
  .rename_i e;cases h;simp[E,e]
  .rename_i e;cases h;simp[E,e]
  .rename_i e;cases h;simp[E,e]
  .cases h
 | iaddr x i e sz=>
  obtain⟨a,j,rfl,rfl⟩:=Dg (β:=V) h;unfold kJ at j;split at j
  .rename_i ei J;obtain⟨p,A⟩:=AC.1 j;obtain⟨M,D,o⟩:=AbS.1 A;obtain⟨C,N⟩:=AC.1 o;cases N;simp only[E,ei,J];exact⟨⟨MX.1 p,M,D,Ayq C,by trivial⟩,by trivial⟩
  .rename_i ei J;obtain⟨p,A⟩:=AC.1 j;split at A
   .rename_i e' L es B;obtain⟨C,N⟩:=AC.1 A;cases N;rw[Cg] at B;simp only[AaS,AzY,A2t] at C;obtain⟨rfl,C⟩:=C;simp only[E,ei,J];exact⟨⟨MX.1 p,e',es,B,C,by trivial⟩,by trivial⟩
   .cases A
  .cases j
 | idx x i=>
  simp only[fE] at h;split at h
  .rename_i l k n e1 e2;obtain⟨p,A⟩:=AC.1 h;obtain⟨c,j,D⟩:=Afo.1 A;cases D;exact⟨l,k,n,c,e1,e2,MX.1 p,j,rfl,rfl⟩
  .cases h
 | load x n ag=>
  obtain⟨a,j,rfl,rfl⟩:=Dg (β:=V) h;unfold Ai7 at j;split at j
  .rename_i J;split at j
   .rename_i u B;rw[Cg] at B;simp only[E,J];exact⟨⟨u,B,j⟩,by trivial⟩
   .cases j
  .rename_i J;split at j
   .rename_i e' L es B;obtain⟨p,A⟩:=AC.1 j;obtain⟨M,D,o⟩:=AbS.1 A;rw[Cg] at B;obtain rfl:=Ayq p;simp only[E,J];exact⟨⟨e',es,M,B,D,o⟩,by trivial⟩
   .cases j
  .rename_i J;simp only[E,J];exact⟨j,by trivial⟩
  .cases j
 | store a x n=>
  obtain⟨p,A⟩:=AC.1 h;obtain⟨τ,j,D⟩:=Afo.1 A;cases D;unfold xD at j;split at j
  .rename_i J;split at j
   .rename_i u B;rw[Cg] at B;obtain⟨u',o,rfl⟩:=Afo.1 j;simp only[E,J];exact⟨p,trivial,u,u',B,o,by trivial⟩
   .cases j
  .rename_i J;split at j
   .rename_i e' L es B;rw[Cg] at B;obtain⟨C,N⟩:=AC.1 j;obtain⟨M,D,o⟩:=AbS.1 N;obtain⟨ae,h8,rfl⟩:=Afo.1 o;obtain rfl:=Ayq C;simp only[E,J];exact⟨p,trivial,e',es,M,ae,B,D,h8,by trivial⟩
   .cases j
  .cases j
 | box x=>obtain⟨p,A⟩:=AC.1 h;obtain⟨F,G,rfl,rfl⟩:=Dl A;exact⟨F,G,p,rfl,rfl⟩
 | alloc z=>have h:Pe ep d (λid=>.ref id 0) (.box z) σ=some (v,σ'):=h;obtain⟨F,G,rfl,rfl⟩:=Dl h;exact⟨F,G,rfl,rfl⟩
 | build z ps=>obtain⟨p,A⟩:=AC.1 h;obtain⟨cs,j,rfl,rfl⟩:=Dg (β:=V) A;exact⟨Ao8.1 p,⟨cs,j,rfl⟩,rfl⟩
 | msl own e sz xs=>
  obtain⟨p,A⟩:=AC.1 h;refine⟨λx hx=>?_,?_⟩
  .have:=Ao8.1 p x hx;simp only[AaS,AzY] at this;exact this
  .cases own
   .cases A;exact⟨rfl,rfl⟩
   .obtain⟨F,G,rfl,rfl⟩:=Dl A;exact⟨F,G,rfl,rfl⟩
 | slS x Z Y=>
  simp only[fE] at h;split at h
  .rename_i l e;obtain⟨a,p,A⟩:=AbS.1 h;obtain⟨b,j,D⟩:=AbS.1 A;obtain⟨o,C⟩:=AC.1 D;cases C;simp only[AaS,A1x] at o;exact⟨l,a,b,e,p,j,o.1,o.2,rfl,rfl⟩
  .cases h
 | slL x Z Y sz=>
  have key:∀es v,Aot g Z Y sz es=some v->∃a b,GV g 0 Z=some a/\GV g es.length Y=some b/\a<=b/\b<=es.length/\(∀y∈es,(cells y).length=sz)/\v=.sl ((es.take b).drop a):=by intro es v h;obtain⟨a,p,A⟩:=AbS.1 h;obtain⟨b,j,D⟩:=AbS.1 A;obtain⟨o,C⟩:=AC.1 D;cases C;simp only[AaS,A1x,Ao8,AzY] at o;exact⟨a,b,p,j,o.1.1,o.1.2,o.2,rfl⟩
  simp only[fE] at h;split at h
  .rename_i es e;obtain⟨_,j,rfl,rfl⟩:=Dg (β:=V) h;obtain⟨a,b,h⟩:=key _ _ j;exact⟨es,a,b,.inl e,h.1,h.2.1,h.2.2.1,h.2.2.2.1,h.2.2.2.2.1,h.2.2.2.2.2,rfl⟩
  .rename_i e;obtain⟨_,j,rfl,rfl⟩:=Dg (β:=V) h;obtain⟨a,b,h⟩:=key _ _ j;exact⟨[],a,b,.inr ⟨e,rfl⟩,h.1,h.2.1,h.2.2.1,h.2.2.2.1,h.2.2.2.2.1,h.2.2.2.2.2,rfl⟩
  .cases h
 | lenS x=>
  simp only[fE] at h;split at h
  .rename_i l e;cases h;exact⟨l,e,rfl,rfl⟩
  .cases h
 | lenL x=>obtain⟨a,j,rfl,rfl⟩:=Dg (β:=V) h;rw[PQ] at j;exact⟨a,j,rfl,rfl⟩
 | app s x e sz=>
  obtain⟨xs,p,A⟩:=AbS.1 h;obtain⟨j,D⟩:=AC.1 A;rw[PQ] at p;have U:∀y∈xs,(cells y).length=sz:=λy hy=>Ayq (Ao8.1 j y hy);unfold AcN at D;split at D
  .rename_i es';obtain⟨o,C⟩:=AC.1 D;obtain⟨F,G,rfl,rfl⟩:=Dl C;simp only[E,es'];exact⟨F,xs,G,p,U,by trivial,A0H o,by trivial⟩
  .rename_i id es';split at D
   .rename_i e' L es B;obtain⟨o,C⟩:=AC.1 D;obtain⟨F,G,rfl,rfl⟩:=Dl C;rw[Cg] at B;simp only[AaS,AzY,A1x] at o;obtain⟨⟨rfl,rfl⟩,o⟩:=o;simp only[E,es'];exact⟨F,xs,G,p,U,by trivial,es,B,o,by trivial⟩
   .cases D
  .cases D
 | apps s x e=>
  simp only[fE] at h;split at h
  .rename_i l J;have W:(A6 l).length=l.length:=by simp[A6]
   unfold AcN at h;split at h
   .rename_i es';obtain⟨o,C⟩:=AC.1 h;obtain⟨F,G,rfl,rfl⟩:=Dl C;simp only[E,es'];exact⟨F,l,G,J,by trivial,by rw[<-W];exact A0H o,by trivial⟩
   .rename_i id es';split at h
    .rename_i e' L es B;obtain⟨o,C⟩:=AC.1 h;obtain⟨F,G,rfl,rfl⟩:=Dl C;rw[Cg] at B;simp only[AaS,AzY,A1x] at o;obtain⟨⟨rfl,rfl⟩,o⟩:=o;simp only[E,es'];exact⟨F,l,G,J,by trivial,es,B,by rw[<-W];exact o,by trivial⟩
    .cases h
   .cases h
  .cases h
 | slT x Y sz=>
  simp only[fE] at h;split at h
  .rename_i id J;split at h
   .rename_i e L es B;rw[Cg] at B;obtain⟨q,p,A⟩:=AbS.1 h;obtain⟨j,D⟩:=AC.1 A;obtain⟨F,G,rfl,rfl⟩:=Dl D;simp only[AaS,AzY,A1x] at j;obtain⟨rfl,j⟩:=j;exact⟨F,id,e,es,q,G,J,B,p,j,rfl,rfl⟩
   .cases h
  .cases h
 | ext x k=>
  simp only[fE] at h;split at h
  .rename_i vs e;obtain⟨a,j,rfl,rfl⟩:=Dg (β:=V) h;exact⟨vs,e,j,rfl⟩
  .cases h
 | mkfn f first caps=>cases h;exact⟨rfl,rfl⟩
 | mksl l c z e sz=>
  simp only[fE] at h;unfold Af0 at h;split at h
  .rename_i k n k' m M ec;split at h
   .rename_i F;obtain⟨o,C⟩:=AC.1 h;cases C;simp only[AaS,A1x] at o;exact⟨F,k,k',n,m,rfl,M,ec,o.1,o.2,rfl,rfl⟩
   .cases h
  .cases h
 | mx Z x xs=>obtain⟨a,j,rfl,rfl⟩:=Dg (β:=V) h;exact⟨j,rfl⟩
 | nilck x=>obtain⟨p,A⟩:=AC.1 h;cases A;refine⟨?_,rfl,rfl⟩;unfold AsH at p;split at p<;>simp_all
 | pu k xs=>obtain⟨a,j,rfl,rfl⟩:=Dg (β:=V) h;exact⟨j,rfl⟩
 | rdm k m xs=>
  simp only[fE] at h;split at h
  .rename_i id e;obtain⟨en,p,A⟩:=AbS.1 h;obtain⟨a,j,rfl,rfl⟩:=Dg (β:=V) A;rw[Cg] at p;exact⟨⟨id,en,e,p,j⟩,rfl⟩
  .cases h
 | wrm k m xs=>
  simp only[fE] at h;split at h
  .rename_i id e;obtain⟨en,p,A⟩:=AbS.1 h;obtain⟨r,j,D⟩:=Afo.1 A;cases D;rw[Cg] at p;exact⟨id,en,r.1,e,p,j,rfl⟩
  .cases h
 | mkm k xs=>obtain⟨e,p,A⟩:=AbS.1 h;obtain⟨F,G,rfl,rfl⟩:=Dl A;exact⟨F,e,G,p,rfl,rfl⟩
 | frz m n=>
  simp only[fE] at h;unfold ApW at h;split at h
  .rename_i id e;split at h
   .rename_i cs B;obtain⟨o,C⟩:=AC.1 h;cases C;rw[Cg] at B;simp only[AaS,AzY,Ao8,AsZ] at o;exact⟨id,cs,e,B,o.1,λc hc=>(by have:=o.2 c hc;cases c<;>first|rfl|simp[UX] at this),rfl,rfl⟩
   .cases h
  .cases h
 | mrange m=>
  simp only[fE] at h;split at h
  .rename_i mid e;split at h
   .rename_i es B;obtain⟨F,G,rfl,rfl⟩:=Dl h;rw[Cg] at B;exact⟨F,mid,es,G,e,B,rfl,rfl⟩
   .cases h
  .cases h
 | mentry m=>
  simp only[fE] at h;split at h
  .rename_i id e;split at h
   .rename_i mid R seen st B;split at h
    .rename_i es X;obtain⟨o,C⟩:=AC.1 h;obtain⟨i,N,h8⟩:=AbS.1 C;obtain⟨kv,h9,rfl,rfl⟩:=Dg (β:=V) h8;rw[Cg] at B X;obtain rfl:=Ayq o;exact⟨id,mid,R,seen,i,es,kv,e,B,N,X,h9,rfl,rfl⟩
    .cases h
   .cases h
  .cases h
 | call f args=>cases h
 | calls f args=>cases h
 | calln f args=>cases h
 | callr f args=>cases h
 | callvs f args=>cases h
end
end Go.Ir
end
section
namespace Go.Ir
open Go.RowKit
noncomputable section
def xop(C:BJ)(ep:Nat)(i:I)(env:BB)(σ:Aq)(n:Nat):Option (V×Aq×Nat):=
 match Pn env i.gd with
 | some true=>match Kv (get env) i.op with
  | some (f,args)=>C f args σ n
  | none=>(fE ep i.dst i.op (get env) σ).map λr=>(r.1,r.2,n)
 | some false=>some (.tup [],σ,n)
 | none=>none
def Wj(C:BJ)(ep:Nat):List I->BB->Aq->Nat->Option (BB×Aq×Nat)
 | [],env,σ,n=>some (env,σ,n)
 | i::l,env,σ,n=>match xop C ep i env σ n with
  | some (v,σ',n')=>Wj C ep l (put env i.dst v) σ' n'
  | none=>none
section
variable{P:Program}{O:World}{nt:Nat}{ops:Array Oper}
structure XI (O:World) (nt:Nat) (B:Sg) (ep:Nat) (env:BB) (σ:Aq) (n:Nat) (μ:Id->Option Value) (H:Addr->Option Value) (a:Act) (w:World):Prop where
 rl:Rl μ H nt env a
 hp:Hp O σ n μ H w
 lt:ep<n
 fr:Fr B.μ B.H B.σ B.w μ H σ w
 old:∀id,id.1<B.n->B.μ id=none->μ id=none
 ein:Cf (Lt n) env
 sin:CU (Lt n) σ
theorem cB{C:BJ}(hC:Bo P O C){B:Sg}{ep:Nat}(aq:B.n<=ep){i:I}{k:Nat}{o:Oper}(ho:ops[k]?=some o)(R:Vb P nt ops o i=true)(G:i.cl=true)
  {env:BB}{σ:Aq}{n:Nat}{μ:Id->Option Value}{H:Addr->Option Value}{a:Act}{w:World}(g:XI O nt B ep env σ n μ H a w)(L:∀r,i.dst=some r->μ (ep,r)=none)
  {v:V}{σ':Aq}{n':Nat}(h:xop C ep i env σ n=some (v,σ',n'))(next:Act->World->Prop)(QQ:Exit->Act->World->Prop)
  (K:∀a w z Y,XI O nt B ep (put env i.dst v) σ' n' z Y a w->(∀id,id.1<n->(∀r,i.dst=some r->id≠(ep,r))->μ id=none->z id=none)->n<=n'->next a w):wpOp P ops QQ k next a w:=by
 have N:=AbB (w:=w) ho R g.rl next QQ
 have q:=R;unfold Vb at q;simp only[AaS,AjK] at q;obtain⟨⟨⟨⟨h1,Z⟩,h3⟩,h4⟩,h5⟩:=q;have M:∀d,i.dst=some d->d<nt:=by intro d aa;rw[aa] at h3;simpa using h3
 unfold xop at h;split at h
 .rename_i hg;refine N.1 hg ?_;split at h
  .rename_i f args b;have D:=hC f args σ n v σ' n' h (Qe b G g.ein) g.sin;obtain⟨X,W,F⟩:=AaD h1 g.rl b D.callable;unfold Oper.wp;rw[W w];have:=D.run w μ H X.toList g.hp F;simp only[Oper.upon];rw[A1k] at this;refine Az5 this ?_;rintro e w' ⟨val,z,Y,rfl,hv,aj,hf,j⟩;show next (a.put o.dst val) w'
   rw[Z];refine K _ _ z Y ⟨(g.rl.mono hf.mu hf.hp).put M hv,aj,AuD g.lt D.le,g.fr.trans hf,λid p s=>j id (by have:=g.lt;omega) (g.old id p s),(g.ein.mono (Lt.mono D.le)).put D.vin,D.sin⟩ (λid p _ s=>j id p s) D.le
  .rename_i b;obtain⟨⟨v1,τ⟩,t,he⟩:=Afo.1 h;cases he;have t:=OC (P:=P) (O:=O) t;have ak:MY i.op=true->i.dst=none:=by intro hh;rw[hh] at h5;simpa using h5
   have ag:i.op.isC=false:=by cases U:i.op<;>first|rfl|(rw[U] at t;rw[U] at b;simp only[Kv] at b;first|(cases b;done)|(simp only[E] at t;obtain⟨f,first,caps,g,_⟩:=t;rw[g] at b;cases b)|(simp only[E] at t;obtain⟨f,first,caps,_,_,g,_⟩:=t;rw[g] at b;cases b))
   have y:=Akk (S:=Lt n) ag (λr av=>g.lt) (I.cl_xs G g.ein) (I.cl_zs G) g.sin t;refine TP g.rl g.hp h1 Z g.lt L ak t next QQ (λval n1 A H1 w1 u=>?_)
   rw[Z];have af:∀id x,μ id=some x->cut n A id=some x:=by
    intro id x p;have ae:id.1<n:=by
     rcases Az0 id.1 n with h|h
     .exact h
     .rw[g.hp.bd id h] at p;cases p
    rw[Hh (m:=n) ae];exact u.fr.mu id x p
   have J:Fr μ H σ w (cut n A) H1 τ w1:=⟨af,u.fr.hp,u.fr.size,u.fr.keep,u.fr.pin,λbk hb ho=>u.fr.dom bk hb (Io ho)⟩
   have j:∀id,id.1<n->(∀r,i.dst=some r->id≠(ep,r))->μ id=none->cut n A id=none:=by intro id p ah s;rw[Hh (m:=n) p];exact u.fresh id p ah s
   refine K _ _ (cut n A) H1 ⟨(g.rl.mono J.mu J.hp).put M (u.rel.cut y.1),u.hp.cut y.2,g.lt,g.fr.trans J,λid p s=>j id (by have:=g.lt;omega) (λr _ he=>?_) (g.old id p s),g.ein.put y.1,y.2⟩ j (Ab6 _);rw[he] at p;simp at p;omega
 .rename_i hg;cases h;refine N.2 hg ?_;refine K _ _ μ H ⟨g.rl.put M (.tup [] [] rfl (λk c v hk=>by simp at hk)),g.hp,g.lt,g.fr,g.old,g.ein.put (.tup _ (by simp)),g.sin⟩ (λid _ _ s=>s) (Ab6 _)
 .cases h
theorem WJ{C:BJ}(hC:Bo P O C){B:Sg}{ep:Nat}(E:B.n<=ep){A:Exit->Act->World->Prop}{p:List Nat} :
  ∀(l:List I) (k:Nat),(∀(j:Nat) (i:I),l[j]?=some i->∃o,ops[k+j]?=some o/\Vb P nt ops o i=true)->(l.filterMap (·.dst)).Nodup->(∀i∈l,i.cl=true)->
  ∀(env:BB) (σ:Aq) (n:Nat) (μ:Id->Option Value) (H:Addr->Option Value) (a:Act) (w:World) (env':BB) (σ':Aq) (n':Nat),Wj C ep l env σ n=some (env',σ',n')->XI O nt B ep env σ n μ H a w->(∀i∈l,∀D,i.dst=some D->μ (ep,D)=none)->
   (∀a w μ H,XI O nt B ep env' σ' n' μ H a w->n<=n'->wpOps P ops A p a w)->wpOps P ops A (List.range' k l.length++p) a w:=by
 intro l
 induction l with
 | nil=>intro k _ _ _ env σ n μ H a w env' σ' n' h y _ F;cases h;exact F _ _ _ _ y (Ab6 _)
 | cons i l ih=>
  intro k q c r env σ n μ H a w env' σ' n' h y b F;obtain⟨o,Y,N⟩:=q 0 i rfl;rw[A1f] at Y;rw[An9,List.range'_succ,AvC,wpOps_cons];rw[Wj] at h;split at h
  .rename_i v σ1 n1 h1;refine cB hC E Y N (r i (by simp)) y (λd e=>b i (by simp) d e) h1 _ A (λa w W Z R g L=>?_);have u:(l.filterMap (·.dst)).Nodup:=by
    cases X:i.dst with
    | none=>rwa [List.filterMap_cons_none X] at c
    | some d=>rw[A1q X] at c;exact(AzI.1 c).2
   refine ih (k+1) (λj z J=>?_) u (λj J=>r j (by simp[J])) _ _ _ W Z a w env' σ' n' h R (λz s d e=>?_) (λa w μ H U t=>F a w μ H U (AoW L t))
   .obtain⟨o',M,x⟩:=q (j+1) z (by simpa using J);exact⟨o',by rw[show k+1+j=k+(j+1) by omega];exact M,x⟩
   .refine g (ep,d) y.lt (λD G he=>?_) (b z (by simp[s]) d e);cases he;rw[A1q G] at c;exact(AzI.1 c).1 (A2q.2 ⟨z,s,e⟩)
  .cases h
end
def cL(O:World)(nt:Nat)(B:Sg)(st:St)(a:Act)(w:World):Prop:=At O nt B st a w/\Cf (Lt st.n) st.env/\CU (Lt st.n) st.σ/\∀id,B.n<=id.1->B.μ id=none
def RT(P:Program)(O:World)(nt:Nat)(ic:IC)(Q:Exit->St->Prop)(st:St):Prop:=
 ∀b,Bf P nt b ic=true->∀B a w,cL O nt B st a w->b.wp P (λe g w'=>∃c,Q e c/\cL O nt B c g w') a w
theorem cL.low{O:World}{nt:Nat}{B:Sg}{env:BB}{σ:Aq}{n m:Nat}{a:Act}{w:World}(h:At O nt B ⟨env,σ,n⟩ a w)(i:∀id,B.n<=id.1->B.μ id=none)(c:B.n<=m)(o:Cf (Lt m) env)(p:CU (Lt m) σ):cL O nt B ⟨env,σ,m⟩ a w:=by
 obtain⟨μ,H,k,hp,e,g,u⟩:=h;refine⟨⟨cut m μ,H,⟨k.size,k.defers,λs=>(k.at_ s).cut (o s)⟩,hp.cut p,⟨λid x b=>?_,e.hp,e.size,e.keep,e.pin,λq i t=>e.dom q i (Io t)⟩,λid b r=>?_,c⟩,o,p,i⟩
 .have j:id.1<m:=by
   rcases Az0 id.1 B.n with h|h
   .exact AuD h c
   .rw[i id h] at b;cases b
  rw[Hh (m:=m) j];exact e.mu id x b
 .rw[Hh (m:=m) (AuD b c)];exact g id b r
section
variable{P:Program}{O:World}{nt:Nat}{Q Q':Exit→St→Prop}{st:St}
theorem Hz{ic:IC}(h:RT P O nt ic Q st)(o:∀e st,Q e st->Q' e st):RT P O nt ic Q' st:=
 λb k B a w c=>wp_mono (h b k B a w c) λe a w ⟨i,g,j⟩=>⟨i,o _ _ g,j⟩
theorem tN{C:BJ}(D:Bo P O C){l:List I}{live:List Nat}(x:l.all I.cl=true){env':BB}{σ':Aq}{n':Nat}(h:Wj C st.n l st.env st.σ (st.n+1)=some (env',σ',n'))(W:Q .normal ⟨restrict live env',σ',n'⟩):RT P O nt (.seqr l live) Q st:=by
 intro c u B a w t;obtain⟨rid,ops,rfl,A⟩:∃rid ops,c=.region rid ops false/\(Iu P nt ops ops.toList l&&DG l)=true:=by
  cases c with
  | region rid ops g=>
   cases g with
   | true=>simp[Bf] at u
   | false=>exact⟨rid,ops,rfl,by simpa[Bf] using u⟩
  | _=>simp[Bf] at u
 simp only[AaS] at A;obtain⟨z,F⟩:=A;obtain⟨⟨μ,H,X,hp,J,q,R⟩,G,Y,E⟩:=t;obtain⟨p,k⟩:=OD z;refine wp_region ?_;have b:List.range ops.size=List.range' 0 l.length++[]:=by rw[At9,List.range_eq_range',<-p];simp
 rw[b];refine WJ (B:=B) (ep:=st.n) D R l 0 (λj i M=>?_) (Awz F) (λi L=>Ao8.1 x i L) st.env st.σ (st.n+1) μ H a w env' σ' n' h
  ⟨X,hp.more (Avb _),Ab4 _,J,q,G.mono (Lt.mono (Avb _)),Y.mono (Lt.mono (Avb _))⟩ (λi _ Z _=>hp.bd _ (Ab6 _)) (λa w μ H e N=>?_)
 .obtain⟨o,U,y⟩:=k j i M;refine⟨o,?_,y⟩;rw[AzN,<-AxN];exact U
 .show ∃r,Q .normal r/\cL O nt B r a w;refine⟨_,W,⟨μ,H,⟨e.rl.size,e.rl.defers,λs=>?_⟩,e.hp,e.fr,e.old,by simp only;omega⟩,e.ein.restrict _,e.sin,E⟩;rcases Cm live env' s with h|h
  .simp only;rw[h];exact e.rl.at_ s
  .simp only;rw[h];exact .any _
theorem AcV{ic:IC}{env':BB}{σ':Aq}{m:Nat}(h:It P O nt ic (λe s=>e=.normal/\∃n,s=⟨env',σ',n⟩) st)(t:st.n<=m)(g:Cf (Lt st.n) st.env->CU (Lt st.n) st.σ->Cf (Lt m) env'/\CU (Lt m) σ')(x:Q .normal ⟨env',σ',m⟩):RT P O nt ic Q st:=by
 intro c q B a w b;obtain⟨b,j,k,p⟩:=b;have i:B.n<=st.n:=by obtain⟨_,_,_,_,_,_,u⟩:=b;exact u
 refine wp_mono (h c q B a w b) λe a w r=>?_;obtain⟨_,⟨rfl,n,rfl⟩,o⟩:=r;exact⟨_,x,cL.low o p (AoW i t) (g j k).1 (g j k).2⟩
theorem aI{x y:IC}(h:RT P O nt x (λe s=>match e with|.normal=>RT P O nt y Q s|e=>Q e s) st):RT P O nt (.seq x y) Q st:=by
 intro o g B a w k;unfold Bf at g;split at g<;>try (cases g;done)
 all_goals rename_i j
 all_goals try (cases j;done)
 rename_i p q x' u;cases j;simp only[AaS] at g;refine wp_seq (wp_mono (h p g.1 B a w k) λe a w r=>?_);obtain⟨b,i,c⟩:=r;cases e with
 | normal=>exact i q g.2 B a w c
 | exit id=>exact⟨b,i,c⟩
 | goto l=>exact⟨b,i,c⟩
 | ret=>exact⟨b,i,c⟩
 | panic t=>exact⟨b,i,c⟩
 | outgrown=>exact⟨b,i,c⟩
theorem rY(h:Q .normal st):RT P O nt .skip Q st:=by intro b e B a w c;cases b<;>simp[Bf] at e;exact wp_skip ⟨st,h,c⟩
theorem AbG(h:Q .ret st):RT P O nt .ret Q st:=by intro b e B a w c;cases b<;>simp[Bf] at e;exact wp_ret ⟨st,h,c⟩
theorem yX{id:Nat}(h:Q (.exit id) st):RT P O nt (.exit id) Q st:=by intro b e B a w c;cases b<;>simp[Bf] at e;subst e;exact wp_exit ⟨st,h,c⟩
theorem AkP{ic:IC}(h:RT P O nt ic Q st):RT P O nt (.wk ic) Q st:=λb c=>h b (by cases b<;>simpa only[Bf] using c)
theorem LP{id:Nat}{x:IC}(h:RT P O nt x (Ek id Q) st):RT P O nt (.block id x) Q st:=by
 intro j k B a w o;cases j<;>simp[Bf] at k;obtain⟨rfl,k⟩:=k;refine wp_block (wp_mono (h _ k B a w o) λe a w p=>?_);obtain⟨b,c,g⟩:=p;cases e with
 | exit q=>
  simp only[Ek] at c;simp only[Exit.inBlock];split
  .rename_i i;rw[Amm i] at c;exact⟨b,c,g⟩
  .rename_i i;rw[AfL i] at c;exact⟨b,c,g⟩
 | normal=>exact⟨b,c,g⟩
 | goto l=>exact⟨b,c,g⟩
 | ret=>exact⟨b,c,g⟩
 | panic r=>exact⟨b,c,g⟩
 | outgrown=>exact⟨b,c,g⟩
theorem UL{c:X}{x y:IC}{t:Bool}(ht:ev (get st.env) c=.b t)(h:RT P O nt (bif t then x else y) Q st):RT P O nt (.cond c x y) Q st:=by
 intro code hc B a w hat
 cases code<;>simp[Bf] at hc
 obtain⟨⟨h1,h2⟩,h3⟩:=hc
 have hat':=hat
 obtain⟨⟨μ,H,hr,_⟩,_⟩:=hat
 have:=Ar hr h1
 rw[ht] at this
 exact wp_cond_split this.b_inv (fun hh=>by subst hh;exact h _ h2 B a w hat') (fun hh=>by subst hh;exact h _ h3 B a w hat')
theorem AaA{c:IC}{Inv:Nat->St->Prop}(g:∀m st,Inv m st->RT P O nt c (λe s=>match e with|.normal=>∃r,r<m/\Inv r s|e=>Q e s) st)(m:Nat)(h:Inv m st):RT P O nt (.loop c) Q st:=by
 intro o y B a w t;cases o<;>simp[Bf] at y;rename_i k;refine SZ (λm a w=>∃st,Inv m st/\cL O nt B st a w) (λm a w hI=>?_) m a w ⟨st,h,t⟩;obtain⟨x,q,p⟩:=hI;refine wp_mono (g m x q k y B a w p) λe a w z=>?_;obtain⟨b,j,i⟩:=z;cases e with
 | normal=>obtain⟨r,u,A⟩:=j;exact⟨r,u,b,A,i⟩
 | exit id=>exact⟨b,j,i⟩
 | goto l=>exact⟨b,j,i⟩
 | ret=>exact⟨b,j,i⟩
 | panic C=>exact⟨b,j,i⟩
 | outgrown=>exact⟨b,j,i⟩
end
end
end Go.Ir
end
section
namespace Go.Ir
open Go.RowKit
def join(m:Nat)(b μ:Id->Option Value):Id->Option Value:=λid=>if id.1<m then b id else μ id
theorem Jy{m b μ id}(h:Lt m id):join m b μ id=b id:=Amm h
theorem Jr{m b μ id}(h:m<=id.1):join m b μ id=μ id:=AfL (A2d.2 h)
section
variable{P:Program}{O:World}{f:FuncId}{args:List V}{σ σ':Aq}{m n':Nat}{v:V}
theorem Fr.wide{n:Nat}{μ c:Id->Option Value}{H i:Addr->Option Value}{w w':World}{τ:Aq}(j:CU (Lt m) σ)(g:CU (Lt m) τ)(b:Fr (cut m μ) H σ w c i τ w'):Fr μ H σ w (join m c μ) i τ w' where
 mu id x hx:=by
  rcases Az0 id.1 m with h|h
  .rw[Jy (m:=m) h];exact b.mu id x (by rw[Hh (m:=m) h];exact hx)
  .rw[Jr h];exact hx
 hp:=b.hp
 size:=b.size
 keep bk hb ho:=b.keep bk hb λo=>ho (Io o)
 pin ad hb ho:=b.pin ad hb λo=>ho (Io o)
 dom bk hb ho:=Io (b.dom bk hb (LA g (λid e=>Jy e) ho))
theorem Ak.of_at(h:Hk P O f args σ m v σ' n')(D:∀a∈args,Bw (Lt m) a)(z:CU (Lt m) σ){τ:Aq}(i:∀id e,lk τ id=some e->lk σ' id=some e)(F:∀id,lk τ id≠none->lk σ id≠none)(L:Bw (Lt m) v)(p:CU (Lt m) τ):Ak P O f args σ v τ where
 callable:=h.callable
 dom:=F
 run:=by
  intro n w μ H q hp j;have:=h.run w (cut m μ) H q (hp.cut z) (j.cut D);refine Az5 this ?_;rintro e w' ⟨val,g,x,rfl,u,t,k,c⟩;have o:∀id,Lt m id->join m g μ id=g id:=λid b=>Jy b;have s:Fr (cut m μ) H σ w g x τ w':=⟨k.mu,k.hp,k.size,k.keep,k.pin,λA E J=>k.dom A E (by obtain⟨id,e,G,r⟩:=J;exact⟨id,e,i _ _ G,r⟩)⟩
  refine⟨val,join m g μ,x,max n m,rfl,u.agree o L,(t.part i).agree p o λid b=>?_,Nat.le_max_left ..,Fr.wide (n:=n) z p s,λid b y=>?_⟩
  .have B:n<=id.1:=AoW (Nat.le_max_left ..) b;have C:m<=id.1:=AoW (Nat.le_max_right ..) b;rw[Jr C];exact hp.bd id B
  .rcases Az0 id.1 m with h|h
   .rw[Jy (m:=m) h];exact c id h (by rw[Hh (m:=m) h];exact y)
   .rw[Jr h];exact y
theorem Kk.of_at{id0:Id}{x:AP}(h:Hk P O f args σ m (.arr id0) σ' n')(ha:∀a∈args,Bw (Lt m) a)(hs:CU (Lt m) σ){τ:Aq}(hx:lk σ' id0=some x)(hsub:∀id e,lk τ id=some e->lk σ' id=some e)(hd:∀id,lk τ id≠none->lk σ id≠none)(hv:Lz (Lt m) x)(hτ:CU (Lt m) τ)(hid:m<=id0.1):Kk P O f args σ x τ where
 callable:=h.callable
 dom:=hd
 run:=by
  intro n w μ H vals hp hargs
  have:=h.run w (cut m μ) H vals (hp.cut hs) (hargs.cut ha)
  refine Az5 this ?_
  rintro e w' ⟨val,μ',H',rfl,hv',hp',hf,hfresh⟩
  obtain⟨hm,h1c⟩:=hv'.arr_inv
  have hτ0:lk τ id0=none:=by
   cases hl:lk τ id0 with
   | none=>rfl
   | some e=>have:=(hτ _ _ hl).1;exact absurd this (A2d.2 hid)
  obtain⟨K,hK⟩:∃K,K=max n n':=⟨_,rfl⟩
  have hKn:n<=K:=by rw[hK];exact Nat.le_max_left ..
  have hKn':n'<=K:=by rw[hK];exact Nat.le_max_right ..
  have hmK:m<=K:=AoW h.le hKn'
  have hsub2:∀id e,lk ((id0,x)::τ) id=some e->lk σ' id=some e:=by
   intro id e hl
   simp only[lk] at hl
   split at hl
   .rename_i h3;subst h3;cases hl;exact hx
   .exact hsub _ _ hl
  have hpart:=(hp'.part hsub2).more (Nat.le_succ_of_le hKn')
  have hnone:μ' (K,0)=none:=hp'.bd _ hKn'
  obtain⟨hp2,hown⟩:=hpart.rename hm hτ0 hnone (Ab4 _)
  have hKm:¬Lt m (K,0):=A2d.2 hmK
  have hag:∀id,(Lt m id\/id=(K,0))->G0 (join m μ' μ) (K,0) val id=G0 μ' (K,0) val id:=by
   rintro id (hid|rfl)
   .have hne:id≠(K,0):=by rintro rfl;exact hKm hid
    rw[Ce _ _ hne,Ce _ _ hne,Jy hid]
   .rw[Au,Au]
  have hσ:CU (fun id=>Lt m id\/id=(K,0)) (((K,0),x)::τ):=(hτ.mono fun id h=>.inl h).cons (.inr rfl) (hv.mono fun id h=>.inl h)
  have hj:join m μ' μ (K,0)=none:=by rw[Jr hmK];exact hp.bd _ hKn
  have hfp:Fr (cut m μ) H σ w μ' H' τ w':=⟨hf.mu,hf.hp,hf.size,hf.keep,hf.pin,fun bk hb ho=>hf.dom bk hb (by obtain⟨id,e,hl,hbk⟩:=ho;exact⟨id,e,hsub _ _ hl,hbk⟩)⟩
  have hw:=Fr.wide (n:=n) hs hτ hfp
  refine⟨val,G0 (join m μ' μ) (K,0) val,H',K+1,(K,0),rfl,Au _ _ _,h1c,hp.bd _ hKn,?_,hp2.agree hσ hag (fun id hid=>?_),Nat.le_succ_of_le hKn,⟨fun id y hy=>BQ hj id y (hw.mu id y hy),hw.hp,hw.size,hw.keep,hw.pin,fun bk hb ho=>?_⟩,fun id hid h0=>?_⟩
  .cases hl:lk τ (K,0) with
   | none=>rfl
   | some e=>exact absurd (hτ _ _ hl).1 hKm
  .have hne:id≠(K,0):=by rintro rfl;simp at hid;omega
   rw[Ce _ _ hne,Jr (by omega)]
   exact hp.bd id (by omega)
  .have ho2:GW (G0 μ' (K,0) val) (((K,0),x)::τ) bk:=LA hσ hag ho
   obtain⟨id2,e2,hl2,hb2⟩:=hown bk ho2
   exact Io (hf.dom bk hb ⟨id2,e2,hsub2 _ _ hl2,hb2⟩)
  .have hne:id≠(K,0):=by rintro rfl;simp at hid;omega
   rw[Ce _ _ hne]
   rcases Az0 id.1 m with h|h
   .rw[Jy (m:=m) h];exact hfresh id h (by rw[Hh (m:=m) h];exact h0)
   .rw[Jr h];exact h0
end
end Go.Ir
end
section
namespace Go.Ir
open Go.RowKit
noncomputable section
def RD(m:Nat)(v:V):Bool:=V.rec (motive_1:=λ_=>Bool) (motive_2:=λ_=>Bool) (λ_=>true) (λ_ _=>true) (λ_=>true) true (λ_ h=>h) (λ_ h=>h) (λ_ h=>h) (λid _=>Nat.blt id.1 m) (λid=>Nat.blt id.1 m) (λid _ _ _=>Nat.blt id.1 m) (λ_ _ h=>h) (λ_ _ _ b c=>b&&c) true true true true true true true (λ_ _ b c=>b&&c) v
def LD(m:Nat):List V->Bool
 | []=>true
 | v::vs=>RD m v&&LD m vs
theorem N3{a m}(h:Nat.blt a m=true):a<m:=A2t ▸ h
def ArR(m:Nat)(vs:List V):Bool:=V.rec_1 (motive_1:=λ_=>Bool) (motive_2:=λ_=>Bool) (λ_=>true) (λ_ _=>true) (λ_=>true) true (λ_ h=>h) (λ_ h=>h) (λ_ h=>h) (λid _=>Nat.blt id.1 m) (λid=>Nat.blt id.1 m) (λid _ _ _=>Nat.blt id.1 m) (λ_ _ h=>h) (λ_ _ _ b c=>b&&c) true true true true true true true (λ_ _ b c=>b&&c) vs
theorem Jh m:∀vs:List V,ArR m vs=LD m vs
 | []=>rfl
 | v::vs=>by show(RD m v&&ArR m vs)=_;rw[Jh m vs];rfl
theorem Anb{m es}:RD m (.sl es)=LD m es:=Jh m es
theorem Ael{m es}:RD m (.agg es)=LD m es:=Jh m es
theorem Adg{m es}:RD m (.tup es)=LD m es:=Jh m es
theorem AkH{m f a c}:RD m (.fn f a c)=(LD m a&&LD m c):=by rw[<-Jh,<-Jh];rfl
theorem Fz{m}:(∀v:V,RD m v=true->Bw (Lt m) v)/\∀vs:List V,LD m vs=true->∀v∈vs,Bw (Lt m) v:=by
 have key:∀n:Nat,(∀v:V,SizeOf.sizeOf v<n->RD m v=true->Bw (Lt m) v)/\∀vs:List V,SizeOf.sizeOf vs<n->LD m vs=true->∀v∈vs,Bw (Lt m) v:=by
  intro n
  induction n with
  | zero=>exact⟨λv h=>absurd h (A2f _),λv h=>absurd h (A2f _)⟩
  | succ n g=>
   refine⟨λv j h=>?_,λvs j h=>?_⟩
   .cases v with
    | sl es=>simp at j;exact .sl _ (g.2 es (by omega) (by rw[<-Anb];exact h))
    | agg es=>simp at j;exact .agg _ (g.2 es (by omega) (by rw[<-Ael];exact h))
    | tup es=>simp at j;exact .tup _ (g.2 es (by omega) (by rw[<-Adg];exact h))
    | fn f a c=>simp at j;rw[AkH,AaS] at h;exact .fn _ _ _ (g.2 a (by omega) h.1) (g.2 c (by omega) h.2)
    | b x=>exact .b x
    | i k n=>exact .i k n
    | s l=>exact .s l
    | nil=>exact .nil
    | np=>exact .np
    | nf=>exact .nf
    | ni=>exact .ni
    | nm=>exact .nm
    | ub=>exact .ub
    | any=>exact .any
    | ref=>exact .ref _ _ (N3 h)
    | arr=>exact .arr _ (N3 h)
    | aref=>exact .aref _ _ _ _ (N3 h)
    | ep e o=>simp at j;exact .ep _ _ (g.1 e (by omega) h)
   .cases vs with
    | nil=>intro v p;cases p
    | cons x xs=>
     simp at j;simp only[LD,AaS] at h;intro v p;rcases Ahk.1 p with rfl|p
     .exact g.1 _ (by omega) h.1
     .exact g.2 xs (by omega) h.2 v p
 exact⟨λv=>(key (SizeOf.sizeOf v+1)).1 v (Ab4 _),λvs=>(key (SizeOf.sizeOf vs+1)).2 vs (Ab4 _)⟩
def elt(m:Nat):AP->Bool
 | .box v=>RD m v
 | .tbox _ v=>RD m v
 | .arr _ _ es=>LD m es
 | .map es=>es.all λp=>RD m p.1&&RD m p.2
 | .it _ _=>true
 | .mit mid _ _ _=>Nat.blt mid.1 m
theorem xE{m e}(h:elt m e=true):Lz (Lt m) e:=by
 cases e with
 | box v=>exact .box _ (Fz.1 v h)
 | tbox t v=>exact .tbox _ _ (Fz.1 v h)
 | arr a b es=>exact .arr _ _ _ (Fz.2 es h)
 | map es=>refine .map _ λx c=>?_;have:=Ao8.1 h x c;simp only[AaS] at this;exact⟨Fz.1 _ this.1,Fz.1 _ this.2⟩
 | it l p=>exact .it _ _
 | mit mid s g st=>exact .mit _ _ _ _ (N3 h)
def slt(m:Nat)(σ:Aq):Bool:=σ.all λp=>Nat.blt p.1.1 m&&elt m p.2
theorem L8:∀{σ id e},lk σ id=some e->(id,e)∈σ
 | [],_,_,h=>by cases h
 | (k,x)::σ,id,e,h=>by
  simp only[lk] at h;split at h
  .grind
  .exact Ab5 _ (L8 h)
theorem pP{m σ}(h:slt m σ=true):CU (Lt m) σ:=by intro id e b;have:=Ao8.1 h _ (L8 b);simp only[AaS] at this;exact⟨N3 this.1,xE this.2⟩
def Abi(v:V)(a:List Id):List Id:=V.rec (motive_1:=λ_=>List Id->List Id) (motive_2:=λ_=>List Id->List Id) (λ_ a=>a) (λ_ _ a=>a) (λ_ a=>a) (λa=>a) (λ_ h=>h) (λ_ h=>h) (λ_ h=>h) (λid _ a=>id::a) (λid a=>id::a) (λid _ _ _ a=>id::a) (λ_ _ h=>h) (λ_ _ _ b c a=>b (c a)) (λa=>a) (λa=>a) (λa=>a) (λa=>a) (λa=>a) (λa=>a) (λa=>a) (λ_ _ b c a=>b (c a)) v a
def YO(vs:List V)(a:List Id):List Id:=List.rec (motive:=λ_=>List Id) a (λv _ b=>Abi v b) vs
def Avm:AP->List Id->List Id
 | .box v,a=>Abi v a
 | .tbox _ v,a=>Abi v a
 | .arr _ _ es,a=>YO es a
 | .map es,a=>es.foldr (λp a=>Abi p.1 (Abi p.2 a)) a
 | .it _ _,a=>a
 | .mit mid _ _ _,a=>mid::a
def Apl(id:Id)(l:List Id):Bool:=List.rec (motive:=λ_=>Bool) false (λk _ b=>Bool.rec (motive:=λ_=>Bool) b true (iG k id)) l
def W8(σ:Aq)(k:Nat):List Id->List Id->List Id:=Nat.rec (motive:=λ_=>List Id->List Id->List Id) (λ_ seen=>seen) (λ_ c b seen=>match b with
 | []=>seen
 | id::b=>Bool.rec (motive:=λ_=>List Id) (match Lg σ id with
  | some e=>c (Avm e b) (id::seen)
  | none=>c b seen) (c b seen) (Apl id seen)) k
def Pp(q:Id->Bool)(σ:Aq):Aq:=List.rec (motive:=λ_=>Aq) [] (λp _ b=>Bool.rec (motive:=λ_=>Aq) b (p::b) (q p.1)) σ
theorem So q:∀σ:Aq,Pp q σ=σ.filter λp=>q p.1
 | []=>rfl
 | p::σ=>by
  have b:Pp q (p::σ)=Bool.rec (motive:=λ_=>Aq) (Pp q σ) (p::Pp q σ) (q p.1):=rfl;rw[b,So q σ];cases c:q p.1 with
  | false=>grind
  | true=>grind
theorem ML q σ k:lk (Pp q σ) k=if q k then lk σ k else none:=by rw[So,Qz]
def Nb(o:Option AP):Bool:=Option.rec (motive:=λ_=>Bool) false (λ_=>true) o
theorem NM o:Nb o=o.isSome:=by cases o<;>rfl
def N6(σ τ:Aq):Aq:=Pp (λid=>Nb (Lg σ id)) τ
theorem K1{σ τ} id:lk (N6 σ τ) id=if(lk σ id).isSome then lk τ id else none:=by unfold N6;rw[ML,NM,Cg]
section
variable{P:Program}{O:World}
def O4(s:List Id)(σ:Aq):Aq:=Pp (λid=>Apl id s) σ
def JY(args:List V)(σ:Aq):Aq:=O4 (W8 σ 1000 (YO args []) []) σ
theorem OT args σ:∀id e,lk (JY args σ) id=some e->lk σ id=some e:=by intro id e h;unfold JY O4 at h;rw[ML] at h;grind
def Nv(f:V->Option V):List V->Option (List V)
 | []=>some []
 | v::vs=>match f v with
  | some w=>match Nv f vs with
   | some b=>some (w::b)
   | none=>none
  | none=>none
theorem EK{f}:∀{l b},Nv f l=some b->l.length=b.length/\∀(k:Nat) (c c'),l[k]?=some c->b[k]?=some c'->f c=some c'
 | [],b,h=>by cases h;grind
 | v::vs,b,h=>by
  rw[Nv] at h;split at h
  .rename_i w g;split at h
   .rename_i i e;cases h;have ⟨h1,h2⟩:=EK e;grind
   .cases h
  .cases h
def Mn(f:V->Option V)(c:V):Option V:=match f c with
 | some b=>chk (c.ok&&b.ok&&Nat.beq (cells b).length (cells c).length) (some b)
 | none=>none
def frz(σ:Aq)(q:Id->Bool):Nat->V->Option V
 | 0=>λ_=>none
 | k+1=>λv=>match v with
  | .arr id=>bif q id then(match Lg σ id with
   | some (.arr _ _ es)=>(Nv (Mn (frz σ q k)) es).map .sl
   | _=>none) else some (.arr id)
  | .sl es=>(Nv (Mn (frz σ q k)) es).map .sl
  | .agg cs=>(Nv (frz σ q k) cs).map .agg
  | .tup cs=>(Nv (frz σ q k) cs).map .tup
  | v=>some v
def Pk(σ:Aq)(q:Id->Bool):Id->Option (List V):=λid=>if q id=true then(match lk σ id with
 | some (.arr _ _ es)=>some es
 | _=>none) else none
theorem Cw{f c b}(h:Mn f c=some b):f c=some b/\(cells b).length=(cells c).length/\c.ok=true/\b.ok=true:=by
 unfold Mn at h;split at h
 .rename_i e g;have ⟨h5,h6⟩:=AC.1 h;simp_all
 .cases h
theorem HL{σ q}:∀{k v r},frz σ q k v=some r->JI (Pk σ q) v r
 | 0,v,r,h=>by cases h
 | k+1,v,r,h=>by
  have p:∀{es es':List V},Nv (Mn (frz σ q k)) es=some es'->es.length=es'.length/\(∀(j:Nat) (c g:V),es[j]?=some c->es'[j]?=some g->JI (Pk σ q) c g)/\∀(j:Nat) (c g:V),es[j]?=some c->es'[j]?=some g->(cells g).length=(cells c).length/\c.ok=true/\g.ok=true:=by intro es es' u;have ⟨i,h2⟩:=EK u;exact⟨i,λj c g a b=>HL (Cw (h2 j c g a b)).1,λj c g a b=>(Cw (h2 j c g a b)).2⟩
  cases v with
  | arr id=>
   simp only[frz] at h;cases s:q id with
   | false=>rw[s] at h;cases h;exact .refl _
   | true=>
    rw[s] at h;simp only[A00] at h;split at h
    .rename_i e sz es t;rw[Cg] at t;obtain⟨es',i,rfl⟩:=Afo.1 h;have ⟨h2,h3,h4⟩:=p i;exact .arr id es es' (by unfold Pk;rw[Amm s,t]) h2 h3 h4
    .cases h
  | sl es=>obtain⟨es',i,rfl⟩:=Afo.1 h;have ⟨h2,h3,h4⟩:=p i;exact .sl es es' h2 h3 h4
  | agg cs=>obtain⟨o,i,rfl⟩:=Afo.1 h;have ⟨h2,h3⟩:=EK i;exact .agg cs o h2 λj c g a b=>HL (h3 j c g a b)
  | tup cs=>obtain⟨o,i,rfl⟩:=Afo.1 h;have ⟨h2,h3⟩:=EK i;exact .tup cs o h2 λj c g a b=>HL (h3 j c g a b)
  | _=>cases h;exact .refl _
theorem I2{f l g}(h:Nv f l=some g){e}(i:e∈g):∃c∈l,f c=some e:=by
 have ⟨h1,h2⟩:=EK h;have ⟨k,hk⟩:=AxL.1 i;have b:k<l.length:=by grind
 exact⟨l[k],A18 b,h2 k _ _ (Am7 b) hk⟩
theorem I5{S σ q}(i:CU S σ):∀{k v o},frz σ q k v=some o->Bw S v->Bw S o
 | 0,v,o,h,_=>by cases h
 | k+1,v,o,h,j=>by
  cases v with
  | arr id=>
   simp only[frz] at h;cases t:q id with
   | false=>grind
   | true=>
    rw[t] at h;simp only[A00] at h;split at h
    .rename_i e sz es s;rw[Cg] at s;obtain⟨es',g,rfl⟩:=Afo.1 h;refine .sl _ λp b=>?_;have ⟨c,hc,hf⟩:=I2 g b;exact I5 i (Cw hf).1 ((i _ _ s).2.arr_inv c hc)
    .cases h
  | sl es=>obtain⟨es',g,rfl⟩:=Afo.1 h;refine .sl _ λp b=>?_;have ⟨c,hc,hf⟩:=I2 g b;exact I5 i (Cw hf).1 (j.sl_inv c hc)
  | agg cs=>obtain⟨r,g,rfl⟩:=Afo.1 h;refine .agg _ λp b=>?_;have ⟨c,hc,hf⟩:=I2 g b;exact I5 i hf (j.agg_inv c hc)
  | tup cs=>obtain⟨r,g,rfl⟩:=Afo.1 h;refine .tup _ λp b=>?_;have ⟨c,hc,hf⟩:=I2 g b;exact I5 i hf (j.tup_inv c hc)
  | _=>cases h;exact j
def Rw(σ:Aq)(q:Id->Bool)(k:Nat):AP->Option AP
 | .box v=>(Mn (frz σ q k) v).map .box
 | .tbox t v=>(Mn (frz σ q k) v).map (.tbox t)
 | .arr e sz es=>(Nv (Mn (frz σ q k)) es).map (.arr e sz)
 | e=>some e
theorem dQ{σ q k e e'}(h:Rw σ q k e=some e'):Oy (Pk σ q) e e':=by
 cases e with
 | box v=>obtain⟨i,g,rfl⟩:=Afo.1 h;have ⟨h2,h3,h4,h5⟩:=Cw g;exact .box v i (HL h2) h3 h4 h5
 | tbox t v=>obtain⟨i,g,rfl⟩:=Afo.1 h;have ⟨h2,h3,h4,h5⟩:=Cw g;exact .tbox t v i (HL h2) h3 h4 h5
 | arr a b es=>obtain⟨es',g,rfl⟩:=Afo.1 h;have ⟨h2,h3⟩:=EK g;exact .arr a b es es' h2 λj c o p q=>⟨HL (Cw (h3 j c o p q)).1,(Cw (h3 j c o p q)).2⟩
 | _=>cases h;exact .refl _
theorem cX{S σ q k e e'}(o:CU S σ)(h:Rw σ q k e=some e')(i:Lz S e):Lz S e':=by
 cases e with
 | box v=>obtain⟨p,g,rfl⟩:=Afo.1 h;exact .box _ (I5 o (Cw g).1 i.box_inv)
 | tbox t v=>obtain⟨p,g,rfl⟩:=Afo.1 h;exact .tbox _ _ (I5 o (Cw g).1 i.tbox_inv)
 | arr a b es=>obtain⟨es',g,rfl⟩:=Afo.1 h;refine .arr _ _ _ λr j=>?_;have ⟨c,hc,hf⟩:=I2 g j;exact I5 o (Cw hf).1 (i.arr_inv c hc)
 | _=>cases h;exact i
def Ada(σ:Aq)(q:Id->Bool)(k:Nat):Aq->Option Aq
 | []=>some []
 | (id,e)::r=>match Ada σ q k r with
  | some b=>bif q id then some b else match Rw σ q k e with
   | some e'=>some ((id,e')::b)
   | none=>none
  | none=>none
theorem KF{σ q k}:∀{τ b},Ada σ q k τ=some b->∀id e',lk b id=some e'->q id=false/\∃e,lk τ id=some e/\Rw σ q k e=some e'
 | [],b,h,id,e',c=>by cases h;cases c
 | (j,x)::r,b,h,id,e',c=>by
  rw[Ada] at h;split at h
  .rename_i s i;cases g:q j with
   | true=>rw[g] at h;cases h;have ⟨h1,e,h2,h3⟩:=KF i id e' c;grind[lk]
   | false=>
    rw[g] at h;simp only[A0d] at h;split at h
    .rename_i x' p;cases h;simp only[lk] at c⊢;split at c
     .grind
     .rename_i o;have ⟨h1,e,h2,h3⟩:=KF i id e' c;grind
    .cases h
  .cases h
def Sc(σ:Aq)(q:Id->Bool)(k:Nat):BB->Option BB
 | []=>some []
 | (s,v)::r=>match frz σ q k v with
  | some c=>match Sc σ q k r with
   | some b=>some ((s,c)::b)
   | none=>none
  | none=>none
theorem Kj{σ q k}:∀{env env'},Sc σ q k env=some env'->∀s,(get env s=.any/\get env' s=.any)\/frz σ q k (get env s)=some (get env' s)
 | [],env',h,s=>by cases h;grind[get]
 | (j,v)::r,env',h,s=>by
  rw[Sc] at h;split at h
  .rename_i i e;split at h
   .rename_i g c;cases h;simp only[get];by_cases b:j=s
    .grind
    .rw[AfL b,AfL b];exact Kj c s
   .cases h
  .cases h
def nB(id:Id)(st:St):Option St:=
 let q:=λj=>decide (j=id)
 match Lg st.σ id with
 | some (.arr _ _ _)=>match Sc st.σ q 60 st.env with
  | some env=>match Ada st.σ q 60 st.σ with
   | some σ=>some ⟨env,σ,st.n⟩
   | none=>none
  | none=>none
 | _=>none
def XLe(O:World)(nt:Nat)(st b:St):Prop:=∀B a w,cL O nt B st a w->cL O nt B b a w
theorem lV{O nt id st c}(h:nB id st=some c):XLe O nt st c/\c.n=st.n/\∀S,Cf S st.env->CU S st.σ->Cf S c.env/\CU S c.σ:=by
 unfold nB at h;simp only at h;split at h
 .rename_i e sz es A;rw[Cg] at A;split at h
  .rename_i env u;split at h
   .rename_i σ i;cases h;have o:∀S,Cf S st.env->CU S st.σ->Cf S env/\CU S σ:=by
     intro S q k;refine⟨λs=>?_,λj x p=>?_⟩
     .rcases Kj u s with⟨_,h⟩|h
      .rw[h];exact .any
      .exact I5 k h (q s)
     .have ⟨_,y,hy,hf⟩:=KF i j x p;exact⟨(k _ _ hy).1,cX k hf (k _ _ hy).2⟩
    refine⟨λB a w g=>?_,rfl,o⟩;have ⟨g,q,k,hb⟩:=g;have ⟨h3,h4⟩:=o _ q k;refine⟨g.weak (Pk st.σ λj=>decide (j=id)) (λj es' b=>?_) (λs=>?_) (λj x p=>?_) (Ab6 _),h3,h4,hb⟩
    .unfold Pk at b;split at b
     .rename_i p;split at b
      .rename_i e' t z r;cases b;refine⟨⟨e',t,r⟩,?_⟩;cases C:lk σ j with
       | none=>rfl
       | some x=>have:=(KF i j x C).1;grind
      .cases b
     .cases b
    .rcases Kj u s with⟨h5,h6⟩|h5
     .rw[h6];exact .any _
     .exact HL h5
    .have ⟨_,y,hy,hf⟩:=KF i j x p;exact⟨y,hy,dQ hf⟩
   .cases h
  .cases h
 .cases h
def geN(m:Nat):Id->Bool:=λid=>Nat.ble m id.1
def ltS(m:Nat)(σ:Aq):Aq:=Pp (λid=>Nat.blt id.1 m) σ
theorem Wt{m σ} id:lk (ltS m σ) id=if Nat.blt id.1 m=true then lk σ id else none:=by unfold ltS;rw[ML]
theorem Hk.frz{f args σ σ1 m n' k v p}(h:Hk P O f args σ m v σ1 n')(D:Go.Ir.frz σ1 (geN m) k v=some p)(F:RD m p=true):Hk P O f args σ m p (ltS m σ1) n' where
 callable:=h.callable
 le:=h.le
 vin:=(Fz.1 _ F).mono (Lt.mono h.le)
 sin:=by
  intro id e c;rw[Wt] at c;split at c
  .exact h.sin id e c
  .cases c
 run:=by
  intro w μ H o hp i;refine Az5 (h.run w μ H o hp i) ?_;rintro e w' ⟨val,A,B,rfl,z,u,t,g⟩;have q:At O 1 ⟨μ,H,σ,w,m⟩ ⟨[(0,v)],σ1,n'⟩ { tmps:=#[val],defers:=[] } w':=by
   refine⟨A,B,⟨rfl,rfl,λs=>?_⟩,u,t,g,h.le⟩;cases s with
   | zero=>exact z
   | succ s=>exact .any _
  have G:=q.weak (Pk σ1 (geN m)) (env':=[(0,p)]) (σ':=ltS m σ1) (n':=n') (λid es b=>?_) (λs=>?_) (λid e c=>?_) (Ab6 _)
  .obtain⟨μ2,C,y,x,r,j,_⟩:=G;exact⟨val,μ2,C,rfl,y.at_ 0,x,r,j⟩
  .unfold Pk at b;split at b
   .rename_i E;split at b
    .rename_i e sz es' c;cases b;refine⟨⟨e,sz,c⟩,?_⟩;rw[Wt,AfL];rw[A2t];exact A2d.2 (A0H E)
    .cases b
   .cases b
  .cases s with
   | zero=>exact HL D
   | succ s=>exact .refl _
  .rw[Wt] at c;split at c
   .exact⟨e,c,.refl _⟩
   .cases c
def nD(C:BJ):BJ:=λf args σ m=>match C f args σ m with
 | some (v,σ1,n')=>match frz σ1 (geN m) 60 v with
  | some b=>chk (RD m b) (some (b,ltS m σ1,n'))
  | none=>none
 | none=>none
theorem RQ{C}(e:Bo P O C):Bo P O (nD C):=by
 intro f args σ m v σ' n' h g i;unfold nD at h;split at h
 .rename_i k σ1 j b;split at h
  .rename_i v2 c;have ⟨h3,h4⟩:=AC.1 h;cases h4;exact(e _ _ _ _ _ _ _ b g i).frz c h3
  .cases h
 .cases h
def pH(σi σo σ:Aq):Aq:=List.rec (motive:=λ_=>Aq) (Pp (λid=>Bool.rec (motive:=λ_=>Bool) true false (Nb (Lg σi id))) σ) (λp _ b=>p::b) σo
theorem T3 σi σo σ:pH σi σo σ=over σi σo σ:=by
 have b:Pp (λid=>Bool.rec (motive:=λ_=>Bool) true false (Nb (Lg σi id))) σ=σ.filter λp=>(lk σi p.1).isNone:=by rw[So];congr 1;funext p;rw[NM,Cg];cases lk σi p.1<;>rfl
 unfold pH over
 induction σo with
 | nil=>simpa using b
 | cons p σo c=>grind
def WA(C:BJ)(m:Nat)(f:FuncId)(args:List V):Option V:=
 match nD C f args [] m with
 | some (v,_,_)=>chk (RD m v) (some v)
 | none=>none
theorem Rx{C}(k:Bo P O C){m f args v}(h:WA C m f args=some v)(b:∀a∈args,Bw (Lt m) a):Ak P O f args [] v []/\Bw (Lt m) v:=by
 unfold WA at h;split at h
 .rename_i r σ1 q g;obtain⟨i,j⟩:=AC.1 h;cases j;have c:=Fz.1 v i;exact⟨Ak.of_at (RQ k _ _ _ _ _ _ _ g b CU.nil) b CU.nil (λid e o=>by cases o) (λid p=>absurd rfl p) c CU.nil,c⟩
 .cases h
def nR(C:BJ)(m:Nat)(σi σ:Aq)(f:FuncId)(args:List V):Option (V×Aq):=
 match nD C f args σi m with
 | some (v,σ1,_)=>chk (RD m v&&slt m (N6 σi σ1)) (some (v,pH σi (N6 σi σ1) σ))
 | none=>none
def ZL(C:BJ)(m:Nat)(σ:Aq)(f:FuncId)(args:List V):Option (V×Aq):=nR C m (JY args σ) σ f args
theorem Mw{C}(u:Bo P O C){m σ σ' f args v}(h:ZL C m σ f args=some (v,σ'))(k:∀a∈args,Bw (Lt m) a)(p:CU (Lt m) σ):(∃σi σo,Ak P O f args σi v σo/\(∀id e,lk σi id=some e->lk σ id=some e)/\σ'=over σi σo σ)/\Bw (Lt m) v/\CU (Lt m) σ':=by
 unfold ZL nR at h;have b:=OT args σ;generalize JY args σ=σi at h b;have g:CU (Lt m) σi:=λid e c=>p id e (b _ _ c);split at h
 .rename_i y σ1 x s;obtain⟨j,t⟩:=AC.1 h;cases t;simp only[AaS] at j;have q:=Fz.1 v j.1;have i:=pP j.2;refine⟨⟨σi,N6 σi σ1,Ak.of_at (RQ u _ _ _ _ _ _ _ s k g) k g (λid e c=>?_) (λid o=>?_) q i,b,T3 _ _ _⟩,q,?_⟩
  .rw[K1] at c;split at c
   .exact c
   .cases c
  .intro r;rw[K1,r] at o;exact o rfl
  .rw[T3];exact p.over i
 .cases h
def W2(C:BJ)(m:Nat)(σ:Aq)(f:FuncId)(args:List V):Option (AP×Aq):=
 match C f args σ m with
 | some (.arr id,σ1,_)=>match lk σ1 id with
  | some x=>chk (Nat.ble m id.1&&elt m x&&slt m (N6 σ σ1)) (some (x,N6 σ σ1))
  | none=>none
 | _=>none
theorem RN{C}(s:Bo P O C){m σ τ f args x}(h:W2 C m σ f args=some (x,τ))(i:∀a∈args,Bw (Lt m) a)(k:CU (Lt m) σ):Kk P O f args σ x τ/\Lz (Lt m) x/\CU (Lt m) τ:=by
 unfold W2 at h;split at h
 .rename_i id σ1 t q;split at h
  .rename_i x' b;obtain⟨g,r⟩:=AC.1 h;cases r;simp only[AaS,A1x] at g;have o:=xE g.1.2;have c:=pP g.2;refine⟨Kk.of_at (s _ _ _ _ _ _ _ q i k) i k b (λid e b=>?_) (λid j=>?_) o c g.1.1,o,c⟩
   .rw[K1] at b;split at b
    .exact b
    .cases b
   .intro p;rw[K1,p] at j;exact j rfl
  .cases h
 .cases h
mutual
def UR:V->V->Bool
 | .b x,.b y=>x==y
 | .i k a,.i r b=>decide (k=r)&&ieq a b
 | .s a,.s b=>QG a b
 | .nil,.nil=>true
 | .sl a,.sl b=>KM a b
 | .agg a,.agg b=>KM a b
 | .tup a,.tup b=>KM a b
 | .ref i o,.ref j p=>decide (i=j)&&Nat.beq o p
 | .arr i,.arr j=>decide (i=j)
 | .aref i a b c,.aref j e h q=>decide (i=j)&&Nat.beq a e&&Nat.beq b h&&Nat.beq c q
 | .ep a o,.ep b p=>UR a b&&Nat.beq o p
 | .fn f a c,.fn g b d=>decide (f=g)&&KM a b&&KM c d
 | .np,.np|.nf,.nf|.ni,.ni|.nm,.nm|.ub,.ub|.any,.any=>true
 | _,_=>false
def KM:List V->List V->Bool
 | [],[]=>true
 | a::x,b::y=>UR a b&&KM x y
 | _,_=>false
end
theorem Lh:∀n:Nat,(∀a b:V,SizeOf.sizeOf a<n->UR a b=true->a=b)/\∀a b:List V,SizeOf.sizeOf a<n->KM a b=true->a=b:=by
 intro n
 induction n with
 | zero=>grind
 | succ n e=>
  refine⟨λa b c h=>?_,λa b c h=>?_⟩
  .unfold UR at h;split at h
   .grind
   .simp only[AaS,Avv,MK] at h;rw[h.1,h.2]
   .rw[Ik,AjK] at h;rw[h]
   .rfl
   .grind
   .grind
   .grind
   .simp_all
   .grind
   .simp_all
   .simp at c;simp only[AaS,AzY] at h;grind
   .grind
   all_goals first|rfl|cases h
  .unfold KM at h;grind
def Yt:List (V×V)->List (V×V)->Bool
 | [],[]=>true
 | a::x,b::y=>UR a.1 b.1&&UR a.2 b.2&&Yt x y
 | _,_=>false
theorem Tc:∀{a b},Yt a b=true->a=b
 | [],[],_=>rfl
 | a::x,b::y,h=>by simp only[Yt,AaS] at h;rw[Tc h.2,Prod.ext ((Lh _).1 _ _ (Ab4 _) h.1.1) ((Lh _).1 _ _ (Ab4 _) h.1.2)]
 | [],_::_,h=>by cases h
 | _::_,[],h=>by cases h
def Adw:AP->AP->Bool
 | .box a,.box b=>UR a b
 | .tbox t a,.tbox t' b=>Nat.beq t t'&&UR a b
 | .arr t s a,.arr t' e b=>Nat.beq t t'&&Nat.beq s e&&KM a b
 | .map a,.map b=>Yt a b
 | .it l p,.it c p'=>QG l c&&Nat.beq p p'
 | _,_=>false
theorem aU{a b}(h:Adw a b=true):a=b:=by
 unfold Adw at h;split at h
 .rw[(Lh _).1 _ _ (Ab4 _) h]
 .simp only[AaS,AzY] at h;rw[h.1,(Lh _).1 _ _ (Ab4 _) h.2]
 .simp only[AaS,AzY] at h;rw[h.1.1,h.1.2,(Lh _).2 _ _ (Ab4 _) h.2]
 .rw[Tc h]
 .simp only[AaS,AzY] at h;rw[Ik,AjK] at h;rw[h.1,h.2]
 .cases h
def AhR(σ τ:Aq):Bool:=σ.all λp=>match lk σ p.1,lk τ p.1 with
 | some a,some b=>Adw a b
 | _,_=>false
theorem eQ{σ τ}(h:AhR σ τ=true):∀id e,lk σ id=some e->lk τ id=some e:=by
 intro id e c;have:=Ao8.1 h _ (L8 c);simp only[c] at this;split at this
 .rename_i a b g i;cases g;rw[i,aU this]
 .cases this
def VV(C:BJ)(m:Nat)(σ:Aq)(f:FuncId)(args:List V):Option V:=
 match nD C f args (JY args σ) m with
 | some (v,σ1,_)=>chk (RD m v&&AhR (JY args σ) σ1) (some v)
 | none=>none
theorem Se{C}(p:Bo P O C){m σ f args v}(h:VV C m σ f args=some v)(i:∀a∈args,Bw (Lt m) a)(s:CU (Lt m) σ):(∃σi,Ak P O f args σi v σi/\∀id e,lk σi id=some e->lk σ id=some e)/\Bw (Lt m) v:=by
 unfold VV at h;split at h
 .rename_i u σ1 t k;obtain⟨g,o⟩:=AC.1 h;cases o;simp only[AaS] at g;have j:=Fz.1 v g.1;have b:=OT args σ;have c:CU (Lt m) (JY args σ):=λid e q=>s id e (b _ _ q);exact⟨⟨_,Ak.of_at (RQ p _ _ _ _ _ _ _ k i c) i c (eQ g.2) (λid r=>r) j c,b⟩,j⟩
 .cases h
def yE(C:BJ)(ep:Nat)(d:Option Nat)(op:Bh)(g:Nat->V)(σ:Aq):Option (V×Aq):=
 match op with
 | .call f xs=>(WA C (ep+1) f (xs.map (ev g))).map λv=>(v,σ)
 | .calls f xs=>ZL C (ep+1) σ f (xs.map (ev g))
 | .callvs x xs=>match ev g x with
  | .fn f a c=>ZL C (ep+1) σ f (a++xs.map (ev g)++c)
  | _=>none
 | .calln f xs=>match d with
  | some b=>(W2 C (ep+1) σ f (xs.map (ev g))).map λr=>(.arr (ep,b),((ep,b),r.1)::over σ r.2 σ)
  | none=>none
 | .callr f xs=>(VV C (ep+1) σ f (xs.map (ev g))).map λv=>(v,σ)
 | op=>fE ep d op g σ
def apB(i:I)(g:Nat->V):Bool:=
 i.ap.isEmpty||i.ap.all λx=>i.op.cs.all λy=>match C3 (ev g x),C3 (ev g y) with
  | some a,some b=>!(a==b)
  | _,_=>true
def apQ(i:I):Bool:=i.op.cl&&!i.ap.isEmpty
def apK(i:I)(g:Nat->V)(σ τ:Aq):Bool:=i.ap.all λx=>match C3 (ev g x) with
 | some id=>(match Lg σ id with
  | some a=>(match Lg τ id with
   | some b=>Adw a b
   | none=>false)
  | none=>true)
 | none=>true
def apE(i:I)(g:Nat->V)(σ:Aq)(o:Option (V×Aq)):Option (V×Aq):=bif apQ i then(match o with
 | some (v,τ)=>chk (apK i g σ τ) (some (v,τ))
 | none=>none) else o
theorem dN{i g}(h:apB i g=true):cK i g:=by
 unfold apB at h;rw[AzS] at h;rcases h with h|h
 .have j:i.ap=[]:=A1p.1 h;exact λx b=>(by grind)
 .intro x b y k id c e;grind
theorem gY{i g σ τ o v}(h:apE i g σ o=some (v,τ)):o=some (v,τ)/\LQ i g σ τ:=by
 unfold apE at h;cases c:apQ i with
 | false=>rw[c] at h;refine⟨h,λq x j=>?_⟩;unfold apQ at c;grind
 | true=>
  rw[c] at h;simp only[A00] at h;split at h
  .rename_i t s;have ⟨h1,h2⟩:=AC.1 h;cases h2;refine⟨rfl,λ_ x j id e r=>?_⟩;have:=Ao8.1 h1 x j;rw[e] at this;simp only[Cg] at this;split at this
   .rename_i a k;split at this
    .rename_i b p;rw[k,p,aU this]
    .cases this
   grind
  .cases h
def yop(C:BJ)(ep:Nat)(i:I)(env:BB)(σ:Aq):Option (V×Aq):=
 match Pn env i.gd with
 | some true=>chk (apB i (get env)) (apE i (get env) σ (yE C ep i.dst i.op (get env) σ))
 | some false=>some (.tup [],σ)
 | none=>none
def Afq(C:BJ)(ep:Nat):List I->BB->Aq->Option (BB×Aq)
 | [],env,σ=>some (env,σ)
 | i::l,env,σ=>match yop C ep i env σ with
  | some (v,σ')=>Afq C ep l (put env i.dst v) σ'
  | none=>none
theorem z8{C}(hC:Bo P O C){ep}{i:I}{env σ σ' v}(h:yE C ep i.dst i.op (get env) σ=some (v,σ'))(hcl:i.cl=true)(he:Cf (Lt (ep+1)) env)(hs:CU (Lt (ep+1)) σ) :
  E P O ep i.dst i.op (get env) σ v σ'/\Bw (Lt (ep+1)) v/\CU (Lt (ep+1)) σ':=by
 have hx:=I.cl_xs (S:=Lt (ep+1)) hcl he
 have hz:=I.cl_zs (S:=Lt (ep+1)) hcl
 have hnil:CU (Lt (ep+1)) []:=CU.nil
 have simple:i.op.isC=false->fE ep i.dst i.op (get env) σ=some (v,σ')->E P O ep i.dst i.op (get env) σ v σ'/\Bw (Lt (ep+1)) v/\CU (Lt (ep+1)) σ':=by
  intro hc h
  have hE:=OC (P:=P) (O:=O) h
  exact⟨hE,Akk hc (fun dd _=>Ab4 _) hx hz hs hE⟩
 have fnargs:∀{x:X} {xs:List X} {f:FuncId} {a c:List V},ev (get env) x=.fn f a c->(∀y∈x::xs,Bw (Lt (ep+1)) (ev (get env) y))->∀w∈a++xs.map (ev (get env))++c,Bw (Lt (ep+1)) w:=by
  intro x xs f a c hf hy w hw
  have h0:=hy x (by simp)
  rw[hf] at h0
  simp only[Azs,AfJ] at hw
  rcases hw with hw|hw|hw
  .exact h0.fn_inv.1 w hw
  .exact Ew (fun z hz=>hy z (by simp[hz])) w hw
  .exact h0.fn_inv.2 w hw
 generalize hop:i.op=op at *
 have hsub:∀id e,lk σ id=some e->lk σ id=some e:=fun _ _ h=>h
 cases op with
 | call f xs=>
  obtain⟨v1,h1,h2⟩:=Afo.1 h
  cases h2
  obtain⟨hR,hv⟩:=Rx hC h1 (Ew hx)
  exact⟨⟨hR,rfl⟩,hv,hs⟩
 | calls f xs=>
  obtain⟨hR,hv,hτ⟩:=Mw hC h (Ew hx) hs
  exact⟨hR,hv,hτ⟩
 | callvs x xs=>
  simp only[yE] at h
  split at h
  .rename_i f a c hf
   obtain⟨⟨σi,σo,hR,h2,h3⟩,hv,hτ⟩:=Mw hC h (fnargs hf hx) hs
   exact⟨⟨f,a,c,σi,σo,hf,hR,h2,h3⟩,hv,hτ⟩
  .cases h
 | calln f xs=>
  simp only[yE] at h
  split at h
  .rename_i dd hdd
   obtain⟨⟨x1,τ⟩,h1,h2⟩:=Afo.1 h
   cases h2
   obtain⟨hR,hv,hτ⟩:=RN hC h1 (Ew hx) hs
   have hlt:Lt (ep+1) (ep,dd):=Ab4 _
   exact⟨⟨dd,σ,τ,x1,hdd,hR,hsub,rfl,rfl⟩,.arr _ hlt,(hs.over hτ).cons hlt hv⟩
  .cases h
 | callr f xs=>
  obtain⟨v1,h1,h2⟩:=Afo.1 h
  cases h2
  obtain⟨hR,hv⟩:=Se hC h1 (Ew hx) hs
  exact⟨⟨hR,rfl⟩,hv,hs⟩
 | _=>exact simple rfl h
theorem Ow{C}(z:Bo P O C){ep}:∀{l env σ env' σ'},Afq C ep l env σ=some (env',σ')->(∀i∈l,i.cl=true)->Cf (Lt (ep+1)) env->CU (Lt (ep+1)) σ->
  (∀K:BB->Aq->Prop,K env' σ'->Ay P O ep l env σ K)/\Cf (Lt (ep+1)) env'/\CU (Lt (ep+1)) σ'
 | [],env,σ,env',σ',h,_,p,q=>by cases h;exact⟨λK h=>h,p,q⟩
 | i::l,env,σ,env',σ',h,o,p,q=>by
  rw[Afq] at h;split at h
  .rename_i v τ g;have one:(∀K:BB->Aq->Prop,K (put env i.dst v) τ->Dh P O ep i env σ K)/\Bw (Lt (ep+1)) v/\CU (Lt (ep+1)) τ:=by
    unfold yop at g;split at g
    .rename_i b;obtain⟨G,r⟩:=AC.1 g;obtain⟨r,e⟩:=gY r;obtain⟨A,M,y⟩:=z8 z r (o i (by simp)) p q;refine⟨λK k=>?_,M,y⟩;have c:cK i (get env)/\LQ i (get env) σ τ:=⟨dN G,e⟩
     unfold Dh;unfold Pn at b;cases u:i.gd with
     | none=>exact⟨v,τ,⟨A,c.1,c.2⟩,k⟩
     | some sw=>
      obtain⟨s,B⟩:=sw;rw[u] at b;simp only at b⊢;split at b
      .rename_i t L;simp only[Ao3,AjK] at b;rw[L];exact⟨λ_=>⟨v,τ,⟨A,c.1,c.2⟩,k⟩,λx=>absurd b x⟩
      .cases b
      .cases b
    .rename_i b;cases g;refine⟨λK k=>?_,.tup _ (by simp),q⟩;unfold Dh;unfold Pn at b;grind
    .cases g
   obtain⟨D,E,F⟩:=Ow z h (λj J=>o j (by simp[J])) (p.put one.2.1) one.2.2;exact⟨λK k=>one.1 _ (D K k),E,F⟩
  .cases h
theorem Akq{C}(u:Bo P O C){ep i env σ n v τ j}(e:xop C ep i env σ n=some (v,τ,j))(g:i.cl=true)(o:ep<n)(s:Cf (Lt n) env)(q:CU (Lt n) σ):n<=j/\Bw (Lt j) v/\CU (Lt j) τ:=by
 unfold xop at e;split at e
 .split at e
  .rename_i f args b;have k:=u _ _ _ _ _ _ _ e (Qe b g s) q;exact⟨k.le,k.vin,k.sin⟩
  .rename_i b;obtain⟨⟨z,x⟩,c,t⟩:=Afo.1 e;cases t;have c:=OC (P:=P) (O:=O) c;have p:i.op.isC=false:=by cases h:i.op<;>first|rfl|(rw[h] at c;rw[h] at b;simp only[Kv] at b;first|(cases b;done)|(simp only[E] at c;obtain⟨f,first,caps,r,_⟩:=c;rw[r] at b;cases b)|(simp only[E] at c;obtain⟨f,first,caps,_,_,r,_⟩:=c;rw[r] at b;cases b))
   have:=Akk (S:=Lt n) p (λy _=>o) (I.cl_xs g s) (I.cl_zs g) q c;exact⟨Ab6 _,this.1,this.2⟩
 .cases e;exact⟨Ab6 _,.tup _ (by simp),q⟩
 .cases e
theorem YM{C:BJ}(g:Bo P O C){ep:Nat}:∀{l:List I} {env:BB} {σ:Aq} {n:Nat} {env':BB} {σ':Aq} {n':Nat},Wj C ep l env σ n=some (env',σ',n')->(∀i∈l,i.cl=true)->ep<n->Cf (Lt n) env->CU (Lt n) σ->
  n<=n'/\Cf (Lt n') env'/\CU (Lt n') σ'
 | [],env,σ,n,env',σ',n',h,_,_,e,k=>by cases h;grind
 | i::l,env,σ,n,env',σ',n',h,b,c,e,k=>by
  rw[Wj] at h;split at h
  .rename_i v τ q o;have one:=Akq g o (b i (by simp)) c e k;have ⟨h2,h3,h4⟩:=YM g h (λj p=>b j (by simp[p])) (AuD c one.1) ((e.mono (Lt.mono one.1)).put one.2.1) one.2.2;grind
  .cases h
abbrev XL:=IC->St->Option (Exit×St)
def tJ(C:BJ):IC->St->Option (Exit×St)
 | .seqr l live,st=>match Wj C st.n l st.env st.σ (st.n+1) with
  | some (env,σ,n)=>some (.normal,⟨restrict live env,σ,n⟩)
  | none=>none
 | .ops l live _,st=>match Afq C st.n l st.env st.σ with
  | some (env,σ)=>some (.normal,⟨restrict live env,σ,st.n+1⟩)
  | none=>none
 | _,_=>none
def Ajc(i:I)(env:BB):Option Id:=
 let x:=match i.op with
  | .slL x _ _ _=>some x
  | .pu _ (x::_)=>some x
  | .app x _ _ _=>some x
  | _=>none
 match x with
 | some x=>match ev (get env) x with
  | .arr id=>some id
  | _=>none
 | none=>none
def AgO(C:BJ)(ep:Nat):List I->BB->Aq->Nat->Option Id
 | [],_,_,_=>none
 | i::l,env,σ,n=>match xop C ep i env σ n with
  | some (v,σ',n')=>AgO C ep l (put env i.dst v) σ' n'
  | none=>Ajc i env
def Aiz(C:BJ)(ep:Nat):List I->BB->Aq->Option Id
 | [],_,_=>none
 | i::l,env,σ=>match yop C ep i env σ with
  | some (v,σ')=>Aiz C ep l (put env i.dst v) σ'
  | none=>Ajc i env
def Atk(C:BJ):IC->St->Option Id
 | .seqr l _,st=>AgO C st.n l st.env st.σ (st.n+1)
 | .ops l _ _,st=>Aiz C st.n l st.env st.σ
 | _,_=>none
def US(C:BJ):Nat->IC->St->Option (Exit×St)
 | 0,ic,st=>tJ C ic st
 | k+1,ic,st=>match tJ C ic st with
  | some r=>some r
  | none=>match Atk C ic st with
   | some id=>match nB id st with
    | some b=>US C k ic b
    | none=>none
   | none=>none
def FD(C:BJ)(L:XL):IC->St->Option (Exit×St)
 | .seqr l live,st=>US C 3 (.seqr l live) st
 | .ops l live p,st=>US C 3 (.ops l live p) st
 | .seq a b,st=>match FD C L a st with
  | some (.normal,s)=>FD C L b s
  | r=>r
 | .cond c a b,st=>match ev (get st.env) c with
  | .b true=>FD C L a st
  | .b false=>FD C L b st
  | _=>none
 | .block id a,st=>match FD C L a st with
  | some (.exit e,s)=>if e=id then some (.normal,s) else some (.exit e,s)
  | r=>r
 | .loop c,st=>L c st
 | .wk c,st=>FD C L c st
 | .exit id,st=>some (.exit id,st)
 | .ret,st=>some (.ret,st)
 | .skip,st=>some (.normal,st)
 | _,_=>none
def XS(P:Program)(O:World)(nt:Nat)(ic:IC)(st:St)(e:Exit)(b:St):Prop:=
 Cf (Lt st.n) st.env->CU (Lt st.n) st.σ->(st.n<=b.n/\Cf (Lt b.n) b.env/\CU (Lt b.n) b.σ)/\RT P O nt ic (λe' s=>e'=e/\s=b) st
def V9(P:Program)(O:World)(nt:Nat)(L:XL):Prop:=∀c st e b,c.cl=true->L c st=some (e,b)->XS P O nt (.loop c) st e b
theorem Nm{C:BJ}(o:Bo P O C){nt:Nat}:∀{ic:IC} {st:St} {e:Exit} {b:St},ic.cl=true->tJ C ic st=some (e,b)->XS P O nt ic st e b
 | .seqr l live,st,e,b,c,h=>by
  intro p r;rw[tJ] at h;split at h
  .rename_i env σ n t;cases h;have g:∀i∈l,i.cl=true:=λi q=>Ao8.1 c i q;obtain⟨s,j,k⟩:=YM o t g (Ab4 _) (p.mono (Lt.mono (Avb _))) (r.mono (Lt.mono (Avb _)));exact⟨⟨by simp only;omega,j.restrict _,k⟩,tN o c t ⟨rfl,rfl⟩⟩
  .cases h
 | .ops l live paths,st,e,b,c,h=>by
  intro p r;rw[tJ] at h;split at h
  .rename_i env σ x;cases h;have g:∀i∈l,i.cl=true:=λi q=>Ao8.1 c i q;obtain⟨s,j,k⟩:=Ow o x g (p.mono (Lt.mono (Avb _))) (r.mono (Lt.mono (Avb _)));refine⟨⟨Avb _,j.restrict _,k⟩,AcV (env':=restrict live env) (σ':=σ) (m:=st.n+1) (RF (s _ λn' u=>⟨rfl,n',rfl⟩)) (Avb _) (λ_ _=>⟨j.restrict _,k⟩) ⟨rfl,rfl⟩⟩
  .cases h
 | .opxe ..,st,e,b,c,h=>by cases h
 | .seq ..,st,e,b,c,h=>by cases h
 | .cond ..,st,e,b,c,h=>by cases h
 | .block ..,st,e,b,c,h=>by cases h
 | .loop ..,st,e,b,c,h=>by cases h
 | .wk ..,st,e,b,c,h=>by cases h
 | .exit ..,st,e,b,c,h=>by cases h
 | .ret,st,e,b,c,h=>by cases h
 | .skip,st,e,b,c,h=>by cases h
 | .mnext ..,st,e,b,c,h=>by cases h
 | .opx ..,st,e,b,c,h=>by cases h
 | .opxd ..,st,e,b,c,h=>by cases h
theorem IS{C:BJ}(i:Bo P O C){nt:Nat}{ic:IC}(o:ic.cl=true):∀(k:Nat) {st:St} {e:Exit} {b:St},US C k ic st=some (e,b)->XS P O nt ic st e b
 | 0,st,e,b,h=>Nm i o h
 | k+1,st,e,b,h=>by
  rw[US] at h;split at h
  .rename_i r E;cases h;exact Nm i o E
  .split at h
   .split at h
    .rename_i G D;obtain⟨q,x,p⟩:=lV (O:=O) (nt:=nt) D;intro A F;have y:=IS (nt:=nt) i o k h;obtain⟨s,t⟩:=p _ A F;rw[<-x] at s t;obtain⟨u,z⟩:=y s t;rw[x] at u;exact⟨u,λg c B a w j=>z g c B a w (q B a w j)⟩
    .cases h
   .cases h
theorem BI{C:BJ}(hC:Bo P O C){L:XL}{nt:Nat}(hL:V9 P O nt L):∀{ic:IC} {st:St} {e:Exit} {st':St},ic.cl=true->FD C L ic st=some (e,st')->XS P O nt ic st e st'
 | .seqr l live,st,e,st',hc,h=>IS hC hc 3 h
 | .ops l live p,st,e,st',hc,h=>IS hC hc 3 h
 | .opxe ..,st,e,st',hc,h=>by cases h
 | .seq a b,st,e,st',hc,h=>by
  intro he hs
  simp only[IC.cl,AaS] at hc
  rw[FD] at h
  split at h
  .rename_i s ha
   obtain⟨⟨h1,h2,h3⟩,h4⟩:=BI hC hL hc.1 ha he hs
   obtain⟨⟨h5,h6,h7⟩,h8⟩:=BI hC hL hc.2 h h2 h3
   refine⟨⟨AoW h1 h5,h6,h7⟩,aI (Hz h4 fun e' s' hh=>?_)⟩
   obtain⟨rfl,rfl⟩:=hh
   exact h8
  .rename_i hr
   obtain⟨h1,h4⟩:=BI hC hL hc.1 h he hs
   refine⟨h1,aI (Hz h4 fun e' s' hh=>?_)⟩
   obtain⟨rfl,rfl⟩:=hh
   cases e' with
   | normal=>exact absurd h (hr _)
   | _=>exact⟨rfl,rfl⟩
 | .cond c a b,st,e,st',hc,h=>by
  intro he hs
  simp only[IC.cl,AaS] at hc
  rw[FD] at h
  split at h
  .rename_i hv
   obtain⟨h1,h4⟩:=BI hC hL hc.1 h he hs
   exact⟨h1,UL hv h4⟩
  .rename_i hv
   obtain⟨h1,h4⟩:=BI hC hL hc.2 h he hs
   exact⟨h1,UL hv h4⟩
  .cases h
 | .block id a,st,e,st',hc,h=>by
  intro he hs
  rw[FD] at h
  split at h
  .rename_i id' s ha
   obtain⟨h1,h4⟩:=BI hC hL (ic:=a) hc ha he hs
   split at h
   .rename_i hid
    cases h
    refine⟨h1,LP (Hz h4 fun e' s' hh=>?_)⟩
    obtain⟨rfl,rfl⟩:=hh
    simp only[Ek]
    rw[Amm hid]
    trivial
   .rename_i hid
    cases h
    refine⟨h1,LP (Hz h4 fun e' s' hh=>?_)⟩
    obtain⟨rfl,rfl⟩:=hh
    simp only[Ek]
    rw[AfL hid]
    trivial
  .rename_i hr
   obtain⟨h1,h4⟩:=BI hC hL (ic:=a) hc h he hs
   refine⟨h1,LP (Hz h4 fun e' s' hh=>?_)⟩
   obtain⟨rfl,rfl⟩:=hh
   cases e' with
   | exit id'=>exact absurd h (hr _ _)
   | _=>exact⟨rfl,rfl⟩
 | .loop c,st,e,st',hc,h=>hL c st e st' hc h
 | .wk c,st,e,st',hc,h=>by
  intro he hs
  obtain⟨h1,h4⟩:=BI hC hL (ic:=c) hc h he hs
  exact⟨h1,AkP h4⟩
 | .exit id,st,e,st',hc,h=>by
  intro he hs
  cases h
  exact⟨⟨Ab6 _,he,hs⟩,yX ⟨rfl,rfl⟩⟩
 | .ret,st,e,st',hc,h=>by
  intro he hs
  cases h
  exact⟨⟨Ab6 _,he,hs⟩,AbG ⟨rfl,rfl⟩⟩
 | .skip,st,e,st',hc,h=>by
  intro he hs
  cases h
  exact⟨⟨Ab6 _,he,hs⟩,rY ⟨rfl,rfl⟩⟩
 | .mnext ..,st,e,st',hc,h=>by cases h
 | .opx ..,st,e,st',hc,h=>by cases h
 | .opxd ..,st,e,st',hc,h=>by cases h
end
end
end Go.Ir
end
section
namespace Go.Ir
open Go.RowKit
noncomputable section
def Sub(σ' σ:Aq):Prop:=∀id e,lk σ' id=some e->lk σ id=some e
theorem cL.sub{O nt B env σ σ' n a w}(h:cL O nt B ⟨env,σ,n⟩ a w)(j:Sub σ' σ):cL O nt B ⟨env,σ',n⟩ a w:=by obtain⟨⟨μ,H,t,hp,c,g,r⟩,q,k,p⟩:=h;refine⟨⟨μ,H,t,hp.part j,⟨c.mu,c.hp,c.size,c.keep,c.pin,λo b s=>c.dom o b ?_⟩,g,r⟩,q,λid e i=>k id e (j _ _ i),p⟩;obtain⟨id,e,i,b⟩:=s;exact⟨id,e,j _ _ i,b⟩
def Afw(n0:Nat)(σ:Aq):List Id:=List.rec (motive:=λ_=>List Id) [] (λp _ b=>Bool.rec (motive:=λ_=>List Id) b (p.1::b) (Nat.blt p.1.1 n0)) σ
def Atv(n0:Nat)(σ:Aq):Nat:=List.rec (motive:=λ_=>Nat) 0 (λp _ b=>Bool.rec (motive:=λ_=>Nat) (Nat.succ b) b (Nat.blt p.1.1 n0)) σ
def gcS(n0:Nat)(b:List V)(σ:Aq):Aq:=
 Bool.rec (motive:=λ_=>Aq) (O4 (W8 σ 100000 (YO b (Afw n0 σ)) []) σ) σ (Nat.ble (Atv n0 σ) 12)
theorem Nd n0 b σ:Sub (gcS n0 b σ) σ:=by
 intro id e h;unfold gcS at h;cases c:Nat.ble (Atv n0 σ) 12 with
 | true=>rw[c] at h;exact h
 | false=>rw[c] at h;have h:lk (O4 (W8 σ 100000 (YO b (Afw n0 σ)) []) σ) id=some e:=h;unfold O4 at h;rw[ML] at h;grind
def WV(n0:Nat)(st:St):St:=⟨st.env,gcS n0 (st.env.map (·.2)) st.σ,st.n⟩
section
variable{P:Program}{O:World}
def Is(C:BJ)(n0:Nat):Nat->XL
 | 0=>λ_ _=>none
 | k+1=>λc st=>match FD C (Is C n0 k) c st with
  | some (.normal,s)=>Is C n0 k c (WV n0 s)
  | r=>r
theorem TC{C:BJ}(y:Bo P O C){nt n0:Nat}:∀k,V9 P O nt (Is C n0 k):=by
 intro k
 induction k using Nat.strongRecOn with
 | _ k W=>
 cases k with
 | zero=>intro c st e b _ h;cases h
 | succ k=>
  have U:=W k (Ab4 _);intro c st e b q h J R;have g:(match FD C (Is C n0 k) c st with
   | some (.normal,s)=>Is C n0 k c (WV n0 s)
   | r=>r)=some (e,b):=h
  have names:∀s,FD C (Is C n0 k) c st=some (.normal,s)->XS P O nt c st .normal s:=λs i=>BI y U q i;have M:st.n<=b.n/\Cf (Lt b.n) b.env/\CU (Lt b.n) b.σ:=by
   split at g
   .rename_i s i;obtain⟨⟨z,X,A⟩,_⟩:=names s i J R;have D:CU (Lt s.n) (WV n0 s).σ:=λid e N=>A id e (Nd _ _ _ _ _ N);obtain⟨⟨E,p,Z⟩,_⟩:=U c (WV n0 s) e b q g X D;exact⟨AoW z E,p,Z⟩
   .exact(BI y U q g J R).1
  refine⟨M,?_⟩;refine AaA (Inv:=λm s=>m<=k+1/\Is C n0 m c s=some (e,b)/\Cf (Lt s.n) s.env/\CU (Lt s.n) s.σ) (λm s hI=>?_) (k+1) ⟨Ab6 _,h,J,R⟩;obtain⟨hm,i,t,u⟩:=hI;cases m with
  | zero=>cases i
  | succ m=>
   have i:(match FD C (Is C n0 m) c s with
    | some (.normal,s)=>Is C n0 m c (WV n0 s)
    | r=>r)=some (e,b):=i
   have x:V9 P O nt (Is C n0 m):=W m (by omega);split at i
   .rename_i Y z;obtain⟨⟨X,A,E⟩,p⟩:=BI y x q z t u;have F:CU (Lt Y.n) (WV n0 Y).σ:=λid e N=>E id e (Nd _ _ _ _ _ N);intro o j B a w G;refine wp_mono (p o j B a w G) λe' a w L=>?_;obtain⟨s2,⟨rfl,rfl⟩,ha⟩:=L;exact⟨WV n0 s2,⟨m,Ab4 _,by omega,i,A,F⟩,cL.sub ha (Nd _ _ _)⟩
   .rename_i hr;obtain⟨_,p⟩:=BI y x q i t u;refine Hz p λe' s' L=>?_;obtain⟨rfl,rfl⟩:=L;cases e' with
    | normal=>exact absurd i (hr _)
    | _=>exact⟨rfl,rfl⟩
def Alk(env:BB)(σ:Aq):R->Option V
 | .t s=>some (get env s)
 | .c s n ag=>match get env s with
  | .ref id b=>match Lg σ id with
   | some (.box u)=>sub u b n ag
   | _=>none
  | _=>none
def Zq(env:BB)(σ:Aq):List R->Option (List V)
 | []=>some []
 | r::b=>match Alk env σ r with
  | some v=>match Zq env σ b with
   | some vs=>some (v::vs)
   | none=>none
  | none=>none
theorem AbM{S st r v}(h:Alk st.env st.σ r=some v)(g:Cf S st.env)(j:CU S st.σ):M5 st r v/\Bw S v:=by
 cases r with
 | t s=>cases h;exact⟨rfl,g s⟩
 | c s n ag=>
  simp only[Alk] at h;split at h
  .rename_i id e i;split at h
   .rename_i u b;rw[Cg] at b;exact⟨⟨id,e,u,i,b,h⟩,LY h (j _ _ b).2.box_inv⟩
   .cases h
  .cases h
theorem U7{S st}(c:Cf S st.env)(e:CU S st.σ):∀{b vs},Zq st.env st.σ b=some vs->DZ st b vs/\∀v∈vs,Bw S v
 | [],vs,h=>by cases h;exact⟨trivial,λv o=>by cases o⟩
 | r::b,vs,h=>by
  rw[Zq] at h;split at h
  .rename_i v g;split at h
   .rename_i p i;cases h;obtain⟨j,q⟩:=AbM g c e;obtain⟨k,s⟩:=U7 c e i;exact⟨⟨j,k⟩,λx t=>by grind
⟩
   .cases h
  .cases h
theorem Adk{S vs}(h:∀v∈vs,Bw S v):Bw S (Kf vs):=by
 unfold Kf;split
 .exact h _ (by simp)
 .exact .tup _ h
structure F9 where
 nt:Nat
 ic:IC
 rs:List R
def AeX(F:F9)(n:Nat)(st:St):Option (V×Aq×Nat):=
 match Zq st.env st.σ F.rs with
 | some vs=>some (Kf vs,gcS n [Kf vs] st.σ,st.n)
 | none=>none
def xfn(C:BJ)(k:Nat)(F:F9)(args:List V)(σ:Aq)(n:Nat):Option (V×Aq×Nat):=
 bif Nat.ble args.length F.nt then(match FD C (Is C n k) F.ic ⟨params 0 args,σ,n⟩ with
  | some (.ret,st)=>AeX F n st
  | some (.normal,st)=>AeX F n st
  | _=>none) else none
def JE(P:Program)(T:FuncId->Option F9):Prop:=∀f F,T f=some F->Ao P f F.nt F.ic F.rs=true/\F.ic.cl=true
def QY(T:FuncId->Option F9)(B:BJ)(K:Nat):Nat->BJ
 | 0=>λ_ _ _ _=>none
 | k+1=>λf args σ n=>match T f with
  | some F=>xfn (QY T B K k) K F args σ n
  | none=>B f args σ n
theorem Qp{S args}(h:∀a∈args,Bw S a):Cf S (params 0 args):=by
 intro s;rw[Kd];simp only[Avz,AbA,A1I];cases b:args[s]? with
 | none=>exact .any
 | some v=>exact DD h b
theorem AeS{T:FuncId->Option F9}{B:BJ}{K:Nat}(hT:JE P T)(hB:Bo P O B):∀k,Bo P O (QY T B K k):=by
 intro k
 induction k with
 | zero=>intro f args σ n v σ' n' h;cases h
 | succ k ih=>
  intro f args σ n v σ' n' h L hs;have h:(match T f with
   | some F=>xfn (QY T B K k) K F args σ n
   | none=>B f args σ n)=some (v,σ',n'):=h
  split at h
  .rename_i F hF;obtain⟨W,X⟩:=hT f F hF;unfold xfn at h;cases M:Nat.ble args.length F.nt with
   | false=>rw[M] at h;cases h
   | true=>
   rw[M] at h;simp only[A00] at h;have u:args.length<=F.nt:=A0H M;have key:∀e st,(e=.ret\/e=.normal)->FD (QY T B K k) (Is (QY T B K k) n K) F.ic ⟨params 0 args,σ,n⟩=some (e,st)->AeX F n st=some (v,σ',n')->Hk P O f args σ n v σ' n':=by
    intro e st Y G b;unfold AeX at b;split at b
    .rename_i vs ad;cases b;obtain⟨⟨h1,h2,h3⟩,h4⟩:=BI (nt:=F.nt) ih (TC ih K) X G (Qp L) hs;obtain⟨h5,h6⟩:=U7 h2 h3 ad;have j:=Nd n [Kf vs] st.σ;obtain⟨J,c,hf,R,p,x,ab,t⟩:=Jd W;refine⟨t,h1,Adk h6,λid e hl=>h3 id e (j _ _ hl),λw μ H ah hp hv=>?_⟩;have y:J.ntmps=F.nt:=x;refine calls_of_wp hf R ?_;have s:=Nk (nt:=J.ntmps) (by rw[x];exact u) hp hv;rw[y] at s⊢;refine wp_mono (h4 c p _ _ _ ⟨s,Qp L,hs,λid Z=>hp.bd id Z⟩) λe' a w' hh=>?_;obtain⟨q,⟨rfl,rfl⟩,⟨ae,H',C,A,i,z,hn⟩,_⟩:=hh;have r:a.defers=[]/\∃v,(results J a.tmps).run P w'=.ok v w'/\∃val g o,Ending.returned v=Ending.returned val/\Ap g o (Kf vs) val/\Hp O (gcS n [Kf vs] q.σ) q.n g o w'/\Fr μ H σ w g o (gcS n [Kf vs] q.σ) w'/\∀id:Id,id.1<n->μ id=none->g id=none:=by obtain⟨val,E,D⟩:=GK C A ab h5;refine⟨C.defers,val,E,val,ae,H',rfl,D,A.part j,⟨i.mu,i.hp,i.size,i.keep,i.pin,λbk U ho=>i.dom bk U ?_⟩,z⟩;obtain⟨id,e,hl,N⟩:=ho;exact⟨id,e,j _ _ hl,N⟩
     rcases Y with rfl|rfl
     .exact r
     .exact r
    .cases b
   split at h
   .rename_i st G;exact key _ st (.inl rfl) G h
   .rename_i st G;exact key _ st (.inr rfl) G h
   .cases h
  .exact hB f args σ n v σ' n' h L hs
theorem VU{T:FuncId->Option F9}{B:BJ}{K k:Nat}(c:JE P T)(hB:Bo P O B){f:FuncId}{args:List V}{v:V}{σ':Aq}{n':Nat}(h:QY T B K k f args [] 0=some (v,σ',n'))(b:LD 0 args=true)(j:RD 0 v=true):Ak P O f args [] v []:=
 Ak.of_at (AeS c hB k _ _ _ _ _ _ _ h (Fz.2 args b) CU.nil) (Fz.2 args b) CU.nil (λid e g=>by cases g) (λid i=>absurd rfl i) (Fz.1 v j) CU.nil
end
end
end Go.Ir
end
section
namespace Go.Ir
open Go.RowKit
noncomputable section
section force
variable{β:Type}
def DF(n:Nat)(k:Nat->β):β:=Nat.rec (motive:=λ_=>β) (k 0) (λm _=>k (Nat.succ m)) n
theorem Dm n (k:Nat->β):DF n k=k n:=by cases n<;>rfl
def Vy(n:Int)(k:Int->β):β:=Int.rec (motive:=λ_=>β) (λa=>DF a λa=>k (.ofNat a)) (λa=>DF a λa=>k (.negSucc a)) n
theorem eF n (k:Int->β):Vy n k=k n:=by
 cases n with
 | ofNat a=>exact Dm a λa=>k (.ofNat a)
 | negSucc a=>exact Dm a λa=>k (.negSucc a)
def jZ(b:Bool)(k:Bool->β):β:=Bool.rec (motive:=λ_=>β) (k false) (k true) b
theorem gS b (k:Bool->β):jZ b k=k b:=by cases b<;>rfl
def Sr(c:UInt8)(k:UInt8->β):β:=DF c.toNat λn=>k (UInt8.ofNat n)
theorem gH c (k:UInt8->β):Sr c k=k c:=by unfold Sr;rw[Dm,UInt8.ofNat_toNat]
def Sz(l:List UInt8)(k:List UInt8->β):β:=List.rec (motive:=λ_=>(List UInt8->β)->β) (λk=>k []) (λc _ b k=>Sr c λc=>b λl=>k (c::l)) l k
theorem fD l:∀k:List UInt8->β,Sz l k=k l:=by
 induction l with
 | nil=>intro k;rfl
 | cons c l b=>intro k;rw[show Sz (c::l) k=Sr c λc=>Sz l λl=>k (c::l) from rfl,gH];exact b _
def hB(x:Bool)(k:V->β):β:=k (.b x)
def hI(a:IntKind)(n:Int)(k:V->β):β:=k (.i a n)
def hS(l:List UInt8)(k:V->β):β:=k (.s l)
def Awa(k:V->β):β:=k .nil
def hSl(l:List V)(k:V->β):β:=k (.sl l)
def Avk(l:List V)(k:V->β):β:=k (.agg l)
def Awd(l:List V)(k:V->β):β:=k (.tup l)
def AxI(id:Id)(o:Nat)(k:V->β):β:=k (.ref id o)
def AvE(id:Id)(k:V->β):β:=k (.arr id)
def AqY(id:Id)(a b c:Nat)(k:V->β):β:=k (.aref id a b c)
def hEp(e:V)(o:Nat)(k:V->β):β:=k (.ep e o)
def hFn(f:FuncId)(a c:List V)(k:V->β):β:=k (.fn f a c)
def hNp(k:V->β):β:=k .np
def hNf(k:V->β):β:=k .nf
def hNi(k:V->β):β:=k .ni
def hNm(k:V->β):β:=k .nm
def hUb(k:V->β):β:=k .ub
def Av9(k:V->β):β:=k .any
def OK(v:V)(k:V->β):β:=V.casesOn (motive_1:=λ_=>(V->β)->β) v hB hI hS Awa hSl Avk Awd AxI AvE AqY hEp hFn hNp hNf hNi hNm hUb Av9 k
theorem Qo v (k:V->β):OK v k=k v:=by cases v<;>rfl
def Ez(l:List V)(k:List V->β):β:=List.rec (motive:=λ_=>(List V->β)->β) (λk=>k []) (λv _ b k=>OK v λv=>b λl=>k (v::l)) l k
theorem EP l:∀k:List V->β,Ez l k=k l:=by
 induction l with
 | nil=>intro k;rfl
 | cons c l b=>intro k;rw[show Ez (c::l) k=OK c λc=>Ez l λl=>k (c::l) from rfl,Qo];exact b _
def Ia(id:Id)(k:Id->β):β:=DF id.1 λa=>DF id.2 λb=>k (a,b)
theorem Kq id (k:Id->β):Ia id k=k id:=by unfold Ia;rw[Dm,Dm]
def Wa(a:IntKind)(k:IntKind->β):β:=
 match a with
 | .i8=>k .i8|.i16=>k .i16|.i32=>k .i32|.i64=>k .i64|.u8=>k .u8|.u16=>k .u16|.u32=>k .u32|.u64=>k .u64
theorem eT a (k:IntKind->β):Wa a k=k a:=by cases a<;>rfl
def vB(x:Bool)(_:Bool)(k:V->β):β:=jZ x λx=>k (.b x)
def vI(a:IntKind)(n:Int)(_:Bool)(k:V->β):β:=Wa a λa=>Vy n λn=>k (.i a n)
def Ard(l:List UInt8)(b:Bool)(k:V->β):β:=bif b then Sz l λl=>k (.s l) else k (.s l)
def Ap8(_:Bool)(k:V->β):β:=k .nil
def vSl(es:List V)(_:Bool)(k:V->β):β:=Ez es λes=>k (.sl es)
def Aus(es:List V)(_:Bool)(k:V->β):β:=Ez es λes=>k (.agg es)
def Av1(es:List V)(_:Bool)(k:V->β):β:=Ez es λes=>k (.tup es)
def ArQ(id:Id)(o:Nat)(_:Bool)(k:V->β):β:=Ia id λid=>DF o λo=>k (.ref id o)
def At7(id:Id)(_:Bool)(k:V->β):β:=Ia id λid=>k (.arr id)
def AfZ(id:Id)(a b c:Nat)(_:Bool)(k:V->β):β:=Ia id λid=>DF a λa=>DF b λb=>DF c λc=>k (.aref id a b c)
def vEp(e:V)(o:Nat)(_:Bool)(k:V->β):β:=OK e λe=>DF o λo=>k (.ep e o)
def vFn(f:FuncId)(a c:List V)(_:Bool)(k:V->β):β:=Ez a λa=>Ez c λc=>k (.fn f a c)
def vNp(_:Bool)(k:V->β):β:=k .np
def vNf(_:Bool)(k:V->β):β:=k .nf
def vNi(_:Bool)(k:V->β):β:=k .ni
def vNm(_:Bool)(k:V->β):β:=k .nm
def vUb(_:Bool)(k:V->β):β:=k .ub
def Apx(_:Bool)(k:V->β):β:=k .any
def RM(b:Bool)(v:V)(k:V->β):β:=V.casesOn (motive_1:=λ_=>Bool->(V->β)->β) v vB vI Ard Ap8 vSl Aus Av1 ArQ At7 AfZ vEp vFn vNp vNf vNi vNm vUb Apx b k
theorem Bp d v (k:V->β):RM d v k=k v:=by
 cases v with
 | b x=>exact gS x λx=>k (.b x)
 | i a n=>show Wa a (λa=>Vy n λn=>k (.i a n))=_;rw[eT,eF]
 | s l=>cases d
        .rfl
        .exact fD l λl=>k (.s l)
 | sl es=>exact EP es λes=>k (.sl es)
 | agg es=>exact EP es λes=>k (.agg es)
 | tup es=>exact EP es λes=>k (.tup es)
 | ref id o=>show Ia id (λid=>DF o λo=>k (.ref id o))=_;rw[Kq,Dm]
 | arr id=>exact Kq id λid=>k (.arr id)
 | aref id a b c=>show Ia id (λid=>DF a λa=>DF b λb=>DF c λc=>k (.aref id a b c))=_;rw[Kq,Dm,Dm,Dm]
 | ep e o=>show OK e (λe=>DF o λo=>k (.ep e o))=_;rw[Qo,Dm]
 | fn f a c=>show Ez a (λa=>Ez c λc=>k (.fn f a c))=_;rw[EP,EP]
 | _=>rfl
def MW(l:List V)(k:List V->β):β:=List.rec (motive:=λ_=>(List V->β)->β) (λk=>k []) (λv _ b k=>RM true v λv=>b λl=>k (v::l)) l k
theorem Wd l:∀k:List V->β,MW l k=k l:=by
 induction l with
 | nil=>intro k;rfl
 | cons c l b=>intro k;rw[show MW (c::l) k=RM true c λc=>MW l λl=>k (c::l) from rfl,Bp];exact b _
def AuW(es:List V)(b:Bool)(k:V->β):β:=bif b then MW es λes=>k (.tup es) else Ez es λes=>k (.tup es)
def QD(b:Bool)(v:V)(k:V->β):β:=V.casesOn (motive_1:=λ_=>Bool->(V->β)->β) v vB vI Ard Ap8 vSl Aus AuW ArQ At7 AfZ vEp vFn vNp vNf vNi vNm vUb Apx b k
theorem Jl d v (k:V->β):QD d v k=k v:=by
 cases v with
 | tup es=>cases d
           .exact EP es λes=>k (.tup es)
           .exact Wd es λes=>k (.tup es)
 | b x=>exact Bp d (.b x) k
 | i a n=>exact Bp d (.i a n) k
 | s l=>exact Bp d (.s l) k
 | nil=>exact Bp d (.nil ) k
 | sl es=>exact Bp d (.sl es) k
 | agg es=>exact Bp d (.agg es) k
 | ref id o=>exact Bp d (.ref id o) k
 | arr id=>exact Bp d (.arr id) k
 | aref id a b c=>exact Bp d (.aref id a b c) k
 | ep e o=>exact Bp d (.ep e o) k
 | fn f a c=>exact Bp d (.fn f a c) k
 | np=>exact Bp d (.np ) k
 | nf=>exact Bp d (.nf ) k
 | ni=>exact Bp d (.ni ) k
 | nm=>exact Bp d (.nm ) k
 | ub=>exact Bp d (.ub ) k
 | any=>exact Bp d (.any ) k
end force
section
variable{β:Type}
end
end
end Go.Ir
end
section
namespace Go.Ir
open Go.RowKit
section
variable{P:Program}{O:World}{f:FuncId}{args:List V}{σ:Aq}{n:Nat}{v:V}
theorem Hk.of_ret(h:Ak P O f args [] v [])(u:YN v=true)(t:CU (Lt n) σ):Hk P O f args σ n v σ n where
 callable:=h.callable
 le:=Ab6 _
 vin:=QI.1 v u
 sin:=t
 run:=by
  intro w μ H k hp i;have c:∀id e,lk ([]:Aq) id=some e->lk σ id=some e:=λid e D=>by cases D
  refine Az5 (h.run n w μ H k (hp.part c) i) ?_;rintro e w' ⟨val,r,y,n',rfl,p,o,E,C,b⟩;obtain⟨s,g⟩:=hp.back c o C;rw[I0] at s g;refine⟨val,cut n r,y,rfl,p.cut (QI.1 v u),s.cut t,⟨λid x q=>?_,g.hp,g.size,g.keep,g.pin,λz B F=>g.dom z B (Io F)⟩,λid j A=>?_⟩
  .rcases Az0 id.1 n with h|h
   .rw[Hh (m:=n) h];exact g.mu id x q
   .rw[hp.bd id h] at q;cases q
  .rw[Hh (m:=n) j];exact b id j A
theorem Hp.lose{w w' σ1 μ H}(hp:Hp O σ n μ H w){R}(p:By R w w')(q:∀k,R k->GW μ σ k)
  (g:∀id e,lk σ1 id=some e->lk σ id=some e/\∀b,Cl (μ id)=some b->¬R b):Hp O σ1 n μ H w'/\Fr μ H σ w μ H σ1 w':=by
 have c:∀b,GW μ σ1 b->GW μ σ b:=by rintro b ⟨id,e,j,i⟩;exact⟨id,e,(g _ _ j).1,i⟩
 refine⟨⟨hp.base_turned p q,hp.pins_turned p q,?_,λb o=>hp.unp b (c b o),λx t i2 u b l1 s=>hp.sep _ _ _ _ b (g _ _ l1).1 (g _ _ s).1,hp.bd⟩,
  ⟨λ_ _ h=>h,λ_ _ h=>h,p.size,λb i o=>p.block b i (λr=>o (q b r)),λ_ _ _=>rfl,λb _ o=>c b o⟩⟩
 intro id e j;refine(hp.ents _ _ (g _ _ j).1).keep (λ_ _ h=>h) (λ_ _ h=>h) (λb i=>?_);exact p.block b ((hp.ents _ _ (g _ _ j).1).block i).2 ((g _ _ j).2 b i)
end
theorem VRels.one_{μ H v b}(h:VRels μ H [v] b):∃x,b=[x]/\Ap μ H v x:=by
 have c:=h.len
 match b,c with
 | [x],_=>exact⟨x,rfl,h.at_ 0 v x rfl rfl⟩
 | [],c=>simp at c
 | _::_::_,c=>simp at c
theorem Ap.np_inv'{μ H val}(h:Ap μ H .np val):val=.pointer none:=by cases h;rfl
section
variable{P:Program}{O:World}
def orC(a b:BJ):BJ:=λf args σ n=>match a f args σ n with
 | some r=>some r
 | none=>b f args σ n
theorem Kr{a b}(c:Bo P O a)(e:Bo P O b):Bo P O (orC a b):=by
 intro f args σ n v σ' n' h;unfold orC at h;split at h
 .rename_i r g;cases h;exact c _ _ _ _ _ _ _ g
 .exact e _ _ _ _ _ _ _ h
noncomputable def onC(b:FuncId)(g:List V->Option V):BJ:=λf args σ n=>bif Nat.beq f b then(match g args with
 | some v=>QD true v λv=>some (v,σ,n)
 | none=>none) else none
theorem Rp{c:FuncId}{g:List V->Option V}(h:∀args v,g args=some v->Ak P O c args [] v []/\YN v=true):Bo P O (onC c g):=by
 intro f args σ n v σ' n' b p k;unfold onC at b;cases e:Nat.beq f c with
 | false=>rw[e] at b;cases b
 | true=>
  rw[e] at b;obtain rfl:=Ayq e;simp only[A00] at b;split at b
  .rename_i q o;rw[Jl] at b;cases b;obtain⟨i,j⟩:=h _ _ o;exact Hk.of_ret i j k
  .cases b
noncomputable def AdH(h:FuncId)(e:List (TypeId×Nat×Nat)):BJ:=λf args σ n=>bif Nat.beq f h then(match args with
 | [.ref id b]=>match Lg σ id with
  | some (.tbox T u)=>chk (e.any λp=>Nat.beq p.1 T&&Nat.beq p.2.1 (cells u).length&&Nat.beq p.2.2 b) (match(cells u)[b]? with
   | some .np=>match Ef u b 1 (.ref id b) with
    | some i=>some (.tup [],Afl σ id (.tbox T i),n)
    | none=>none
   | some (.ref g c)=>chk (iG id g&&Nat.beq b c) (some (.tup [],σ,n))
   | _=>none)
  | _=>none
 | _=>none) else none
theorem AeL{f0:FuncId}{adm:List (TypeId×Nat×Nat)}(hcal:callable P f0=true)
  (used:∀(b off:Nat) (w:World),w.cell? ⟨b,off,none⟩=some (.pointer (some ⟨b,off,none⟩))->Calls P f0 #[.pointer (some ⟨b,off,none⟩)] w fun e w'=>e=.returned (.tuple #[])/\w'=w)
  (fresh:∀(T k off:Nat),(T,k,off)∈adm->∀(b:Nat) (w:World),w.cell? ⟨b,off,none⟩=some (.pointer none)->w.shape? b=some (T,k)->w.frozen? ⟨b,off,none⟩=false->off<k->
   Calls P f0 #[.pointer (some ⟨b,off,none⟩)] w fun e w'=>e=.returned (.tuple #[])/\w'=w.setCell ⟨b,off,none⟩ (.pointer (some ⟨b,off,none⟩))):Bo P O (AdH f0 adm):=by
 intro f args σ n v σ' n' he ha hs
 unfold AdH at he
 cases hb:Nat.beq f f0 with
 | false=>rw[hb] at he;cases he
 | true=>
  rw[hb] at he
  obtain rfl:=Ayq hb
  simp only[A00] at he
  split at he
  .rename_i id off
   split at he
   .rename_i T u hl
    rw[Cg] at hl
    obtain⟨hadm,he⟩:=AC.1 he
    obtain⟨p,hp1,hp2⟩:=A0z.1 hadm
    simp only[AaS,AzY] at hp2
    obtain⟨⟨hT,hk⟩,ho⟩:=hp2
    have hmem:(T,(cells u).length,off)∈adm:=by
     obtain⟨a,b,c⟩:=p
     simp only at hT hk ho
     rw[<-hT,<-hk,<-ho];exact hp1
    have hid:Lt n id:=(hs _ _ hl).1
    have hund:∀{μ:Id->Option Value} {H:Addr->Option Value},Ap μ H (.tup []) (.tuple #[]):=.tup [] [] rfl (fun k c v hk=>by simp at hk)
    split at he
    .rename_i hc
     split at he
     .rename_i u' hset
      cases he
      obtain⟨hl1,hfit,hcells⟩:=HJ hset
      have hoff:off<(cells u).length:=by omega
      have hin:Lz (Lt n) (.tbox T u'):=.tbox _ _ (MO hset (hs _ _ hl).2.tbox_inv (.ref _ _ hid))
      refine⟨hcal,Ab6 _,.tup _ (fun _ h=>by cases h),by rw[Su];exact hs.upd hl hin,?_⟩
      intro w μ H vals hp hargs
      obtain⟨x,rfl,hx⟩:=hargs.one_
      obtain⟨bk,hm,rfl⟩:=hx.ref_inv
      obtain⟨bk',cv,hm',hB,hg,hrel⟩:=hp.ents _ _ hl
      rw[hm] at hm'
      cases hm'
      obtain⟨x0,hx0,hr0⟩:=hrel.toVRels.get hc
      rw[hr0.np_inv'] at hx0
      have hlen:(cells u).length=cv.size:=by rw[hrel.len];simp
      have hk0:off<cv.size:=by omega
      have hcv:cv[off]=.pointer none:=by
       rw[AxN,AxK hk0] at hx0
       exact A2e hx0
      refine Az5 (fresh T _ off hmem bk w (by simp[World.cell?,hg,hk0,hcv]) (by simp[World.shape?,hg,hlen]) (by simp[World.frozen?,hg]) hoff) ?_
      rintro e w' ⟨rfl,rfl⟩
      have hset':w.setCell ⟨bk,off,none⟩ (.pointer (some ⟨bk,off,none⟩))=w.setRow bk (cv.setIfInBounds off (.pointer (some ⟨bk,off,none⟩))):=setCell_eq_setRow w bk off cv T (0,0) _ hg
      rw[hset']
      have hrel':AY μ H (cells u') (cv.setIfInBounds off (.pointer (some ⟨bk,off,none⟩))).toList:=by
       have h1:AY μ H (cells (V.ref id off)) [.pointer (some ⟨bk,off,none⟩)]:=⟨VRels.nil_.cons (.ref id off bk hm),fun v hv=>by simp at hv;subst hv;rfl⟩
       have:=Ee hrel h1 off (off+1)
       rw[hcells,A1A,A1m,Amm (by simpa using hk0)]
       simpa using this
      have hnew:=hp.set_ (e:=.tbox T u') hl ((By.setRow w bk _).to (fun k hk=>by subst hk;simp[hm,Cl])) ⟨bk,_,hm,hB,setRow_heap w bk cv _ T (0,0) hg,hrel'⟩
      rw[Su]
      exact⟨_,μ,H,rfl,hund,hnew.1,hnew.2,fun _ _ h=>h⟩
     .cases he
    .rename_i id' off' hc
     obtain⟨hq,he2⟩:=AC.1 he
     clear he
     simp only[AaS,AzY] at hq
     obtain⟨hq1,rfl⟩:=hq
     obtain rfl:=HU.1 hq1
     cases he2
     refine⟨hcal,Ab6 _,.tup _ (fun _ h=>by cases h),hs,?_⟩
     intro w μ H vals hp hargs
     obtain⟨x,rfl,hx⟩:=hargs.one_
     obtain⟨bk,hm,rfl⟩:=hx.ref_inv
     obtain⟨bk',cv,hm',hB,hg,hrel⟩:=hp.ents _ _ hl
     rw[hm] at hm'
     cases hm'
     obtain⟨x0,hx0,hr0⟩:=hrel.toVRels.get hc
     obtain⟨bk2,hm2,rfl⟩:=hr0.ref_inv
     rw[hm] at hm2
     cases hm2
     have hk0:off<cv.size:=by
      have:=(Ao5.1 hx0).1
      simpa using this
     have hcv:cv[off]=.pointer (some ⟨bk,off,none⟩):=by
      rw[AxN,AxK hk0] at hx0
      exact A2e hx0
     refine Az5 (used bk off w (by simp[World.cell?,hg,hk0,hcv])) ?_
     rintro e w' ⟨rfl,rfl⟩
     exact⟨_,μ,H,rfl,hund,hp,Fr.refl _ _ _ _,fun _ _ h=>h⟩
    .cases he
   .cases he
  .cases he
def Y4(v:V):Option UInt8:=
 match v with
 | .i .u8 (.ofNat n)=>bif Nat.blt n 256 then some (UInt8.ofNat n) else none
 | _=>none
noncomputable def V8(es:List V):Option (List UInt8):=List.rec (motive:=λ_=>Option (List UInt8)) (some []) (λv _ b=>match Y4 v with
 | some c=>match b with
  | some l=>some (c::l)
  | none=>none
 | none=>none) es
theorem kI{v c}(h:Y4 v=some c):v=.i .u8 c.toNat:=by
 unfold Y4 at h;split at h
 .rename_i n;cases b:Nat.blt n 256 with
  | false=>rw[b] at h;cases h
  | true=>
   rw[b] at h;cases h;have:n<256:=by simpa using b
   have e:(UInt8.ofNat n).toNat=n:=by simp;omega
   rw[e];rfl
 .cases h
theorem PM:∀{es l},V8 es=some l->es=A6 l
 | [],l,h=>by cases h;rfl
 | v::es,l,h=>by
  have b:(match Y4 v with
   | some c=>match V8 es with
    | some l=>some (c::l)
    | none=>none
   | none=>none)=some l:=h
  split at b
  .rename_i c e;split at b
   .rename_i i g;cases b;rw[PM g,kI e];rfl
   .cases b
  .cases b
theorem JK{μ H}:∀{l b},AY μ H (AQ (A6 l)) b->b=Lib.byteCells l
 | [],b,g=>by have:=g.len;simp only[A6,Ava,AQ,A1X,AtX] at this;exact Axx this.symm
 | c::l,b,g=>by
  have e:=g.len;have p:AQ (A6 (c::l))=V.i .u8 c.toNat::AQ (A6 l):=rfl;rw[p] at g e;cases b with
  | nil=>simp at e
  | cons x xs=>
   have j:=g.at_ 0 _ x rfl rfl;have o:AY μ H (AQ (A6 l)) xs:=⟨⟨by simpa using e,λk c v q h=>g.at_ (k+1) c v (by simpa using q) (by simpa using h)⟩,λv h=>g.one v (by simp[h])⟩
   rw[JK o,j.i_inv];rfl
noncomputable def AcH(l:List UInt8)(σ:Aq)(n:Nat):Option (V×Aq×Nat):=chk (Nat.ble l.length AG) (QD true (.s l) λv=>some (v,σ,n))
noncomputable def AeF(c:FuncId)(e:TypeId):BJ:=λf args σ n=>bif Nat.beq f c then(match args with
 | [.ref id b]=>match Lg σ id with
  | some (.tbox T u)=>match(cells u)[Nat.succ b]? with
   | some .nil=>AcH [] σ n
   | some (.arr bid)=>match Lg σ bid with
    | some (.arr e' sz es)=>chk (Nat.beq e' e&&Nat.beq sz 1) (match V8 es with
     | some l=>AcH l (zX σ bid) n
     | none=>none)
    | _=>none
   | _=>none
  | _=>none
 | _=>none) else none
theorem Aed{f0:FuncId}{e:TypeId}(hcal:callable P f0=true)
  (hrun:∀(b off:Nat) (l:List UInt8) (v:Value) (B:Nat) (w:World),w.cell? ⟨b,Nat.succ off,none⟩=some v->w.ownsRow B e 1 v l.length (Lib.byteCells l)->
   Calls P f0 #[.pointer (some ⟨b,off,none⟩)] w fun e w'=>e=.returned (.string ⟨l.toArray⟩)/\w.grownBy w' v.ownBlock):Bo P O (AeF f0 e):=by
 intro f args σ n v σ' n' he ha hs
 unfold AeF at he
 cases hb:Nat.beq f f0 with
 | false=>rw[hb] at he;cases he
 | true=>
  rw[hb] at he
  obtain rfl:=Ayq hb
  simp only[A00] at he
  have cell:∀{id off T u x w} {μ:Id->Option Value} {H:Addr->Option Value} {vals:List Value},lk σ id=some (.tbox T u)->(cells u)[Nat.succ off]?=some x->Hp O σ n μ H w->VRels μ H [.ref id off] vals->
    ∃bk val,vals=[.pointer (some ⟨bk,off,none⟩)]/\w.cell? ⟨bk,Nat.succ off,none⟩=some val/\Ap μ H x val:=by
   intro id off T u x w μ H vals hl hc hp hargs
   obtain⟨y,rfl,hy⟩:=hargs.one_
   obtain⟨bk,hm,rfl⟩:=hy.ref_inv
   obtain⟨bk',cv,hm',hB,hg,hrel⟩:=hp.ents _ _ hl
   rw[hm] at hm'
   cases hm'
   obtain⟨x0,hx0,hr0⟩:=hrel.toVRels.get hc
   refine⟨bk,x0,rfl,?_,hr0⟩
   have hk0:=(Ao5.1 hx0).1
   have hk0:Nat.succ off<cv.size:=by simpa using hk0
   rw[AxN,AxK hk0] at hx0
   simp only[World.cell?,hg,AxK hk0]
   exact hx0
  split at he
  .rename_i id off
   split at he
   .rename_i T u hl
    rw[Cg] at hl
    split at he
    .rename_i hc
     unfold AcH at he
     obtain⟨hlim,he⟩:=AC.1 he
     rw[Jl] at he
     cases he
     refine⟨hcal,Ab6 _,.s _,hs,?_⟩
     intro w μ H vals hp hargs
     obtain⟨bk,val,rfl,hcell,hr⟩:=cell hl hc hp hargs
     rw[hr.nil_inv] at hcell
     refine Az5 (hrun bk off [] _ O.heap.size w hcell (A12 w _ e 1)) ?_
     rintro e' w' ⟨rfl,hgr⟩
     have:=hp.lose (σ1:=σ) (R:=fun _=>False) ((By.of_grown hgr).to (fun k hk=>by simp[Value.ownBlock] at hk)) (fun _ h=>h.elim) (fun id e h=>⟨h,fun _ _ h=>h⟩)
     exact⟨_,μ,H,rfl,.s [] (by unfold AG;simp),this.1,this.2,fun _ _ h=>h⟩
    .rename_i bid hc
     split at he
     .rename_i e' sz es hlb
      rw[Cg] at hlb
      obtain⟨hq,he2⟩:=AC.1 he
      clear he
      simp only[AaS,AzY] at hq
      obtain⟨rfl,rfl⟩:=hq
      split at he2
      .rename_i l hbs
       unfold AcH at he2
       obtain⟨hlim,he3⟩:=AC.1 he2
       clear he2
       rw[Jl,aA] at he3
       cases he3
       obtain rfl:=PM hbs
       refine⟨hcal,Ab6 _,.s _,hs.del _,?_⟩
       intro w μ H vals hp hargs
       obtain⟨bk,val,rfl,hcell,hr⟩:=cell hl hc hp hargs
       obtain⟨hmb,h1c⟩:=hr.arr_inv
       obtain⟨bvals,_,hown,hlim',hsz,hrel⟩:=DO hp hlb hmb
       rw[JK hrel,show(A6 l).length=l.length by simp[A6]] at hown
       refine Az5 (hrun bk off l val O.heap.size w hcell hown) ?_
       rintro e'' w' ⟨rfl,hgr⟩
       have hob:∀k,some k=val.ownBlock->Cl (μ bid)=some k:=by
        intro k hk
        rw[hmb]
        obtain⟨A',cap',hv'⟩:=Cr hown
        rw[hv'] at hk⊢
        cases A' with
        | none=>simp[Value.ownBlock] at hk
        | some A'=>simpa[Value.ownBlock,Cl] using hk.symm
       have:=hp.lose (σ1:=del σ bid) (By.of_grown hgr) (fun k hk=>⟨bid,_,hlb,hob k hk⟩) (fun id' e' h=>by
        rw[DE] at h
        split at h
        .cases h
        .rename_i hne
         exact⟨h,fun b hb hb'=>hne (hp.sep _ _ _ _ b hlb h (hob b hb') hb)⟩)
       exact⟨_,μ,H,rfl,.s l (A0H hlim),this.1,this.2,fun _ _ h=>h⟩
      .cases he2
     .cases he
    .cases he
   .cases he
  .cases he
end
section
variable{P:Program}{O:World}{f:FuncId}{args args':List V}{σ:Aq}{n:Nat}{v:V}
def S0:V->Bool
 | .b _|.i _ _|.s _|.ni|.np|.nf|.nm=>true
 | _=>false
def Rr:V->Bool
 | .tup vs=>vs.all S0
 | v=>S0 v
theorem OX{μ μ2 H b v val}(h:S0 v=true)(c:Ap μ H v val):Ap μ2 b v val:=by
 cases c<;>first|(cases h;done)|constructor
 assumption
theorem Wb{μ μ2 H j v val}(h:Rr v=true)(i:Ap μ H v val):Ap μ2 j v val:=by
 cases v with
 | tup vs=>obtain⟨e,rfl,b⟩:=i.tup_inv;exact .tup vs e b.len λk c x g o=>OX (Ao8.1 h c (Ao6 g)) (b.at_ k c x g o)
 | _=>exact OX h i
theorem Qj{S v}(h:S0 v=true):Bw S v:=by cases v<;>first|(cases h;done)|constructor
theorem dM{S v}(h:Rr v=true):Bw S v:=by
 cases v with
 | tup vs=>exact .tup _ λc b=>Qj (Ao8.1 h c b)
 | _=>exact Qj h
theorem W1{w μ H}(hp:Hp O σ n μ H w){φ}(z:∀id es,φ id=some es->∃e sz,lk σ id=some (.arr e sz es)) :
  ∀id es,φ id=some es->∀val,μ id=some val->(∃A c,val=.slice A es.length c/\es.length<=c/\es.length<=AJ/\
   (es=[]\/∃(B:Addr) (sz:Nat) (b:List Value),A=some B/\(∀e∈es,(cells e).length=sz)/\AY μ H (AQ es) b/\∀(k) (v),b[k]?=some v->Bu φ μ H w (B.add k)=some v)):=by
 intro id es o val u;obtain⟨e,sz,C⟩:=z id es o;obtain⟨b,_,h,p,x,q⟩:=DO hp C u;rcases A1H es.length with s|s
 .have:es=[]:=Axx s;subst this;rcases h.2 with⟨rfl,_⟩|⟨g,c,r,rfl,_⟩
  .grind
  grind
 .obtain⟨g,c,r,rfl,hB,J,E,j,D,y⟩:=Hy h s;refine⟨_,c,rfl,j,p,.inr ⟨⟨g,0,none⟩,sz,b,rfl,x,q,λk v G=>?_⟩⟩;have t:=h.cells (g:=g) rfl k v G;have i:H ((⟨g,0,none⟩:Addr).add k)=none:=hp.unp g ⟨id,_,C,by simp[u,Cl]⟩ _ (by rw[CJ]);have F:∃id es,φ id=some es/\Cl (μ id)=some ((⟨g,0,none⟩:Addr).add k).block:=⟨id,es,o,by rw[CJ,u];rfl⟩;simp only[Bu,i];simp_all
theorem Hk.of_plain{φ:Id->Option (List V)}(h:Ak P O f args' [] v [])(M:Rr v=true)(R:CU (Lt n) σ)(F:∀id es,φ id=some es->∃e sz,lk σ id=some (.arr e sz es))(t:args.length=args'.length)
  (C:∀(k:Nat) (c z:V),args[k]?=some c->args'[k]?=some z->JI φ c z):Hk P O f args σ n v σ n where
 callable:=h.callable
 le:=Ab6 _
 vin:=dM M
 sin:=R
 run:=by
  intro w μ H r hp g;have j:∀p x,H p=some x->Bu φ μ H w p=some x:=by intro p x b;simp only[Bu,b]
  have D:Hp O [] n μ (Bu φ μ H w) w:=
   {base:=hp.base
    pins:=by
     intro p x b;simp only[Bu] at b;split at b
     .rename_i y U;rw[<-b];exact hp.pins p y U
     .split at b
      .exact b
      .cases b
    ents:=λ_ _ h=>by cases h
    unp:=λ_ ⟨_,_,h,_⟩=>by cases h
    sep:=λ_ _ _ _ _ h=>by cases h
    bd:=hp.bd }
  have q:VRels μ (Bu φ μ H w) args' r:=by
   refine⟨by rw[<-t];exact g.len,λk z x G b=>?_⟩;have J:k<args.length:=by rw[t];exact(Ao5.1 G).1
   exact Ap.le j (W1 hp F) (C k _ z (Am7 J) G) (g.at_ k _ x (Am7 J) b)
  refine Az5 (h.run n w μ _ r D q) ?_;rintro e w' ⟨val,W,X,n',rfl,E,u,L,B,A⟩;have i:∀o,o<w.heap.size->w'.heap[o]?=w.heap[o]?:=λo s=>B.keep o s (λ⟨_,_,h,_⟩=>by cases h);exact⟨val,μ,H,rfl,Wb M E,⟨u.base,λp x b=>u.pins p x (B.hp p x (j p x b)),λid e t=>(hp.ents id e t).keep (λ_ _ h=>h) (λ_ _ h=>h) (λo s=>i o ((hp.ents id e t).block s).2),hp.unp,hp.sep,hp.bd⟩,
   ⟨λ_ _ h=>h,λ_ _ h=>h,B.size,λo s _=>i o s,λ_ _ _=>rfl,λo _ N=>N⟩,λ_ _ h=>h⟩
noncomputable def onP(b:FuncId)(g:List V->Option V):BJ:=λf args σ n=>bif Nat.beq f b then(match Nv (frz σ (λ_=>true) 60) args with
 | some args'=>(match g args' with
  | some v=>QD true v λv=>some (v,σ,n)
  | none=>none)
 | none=>none) else none
theorem iT{j:FuncId}{g:List V->Option V}(h:∀args v,g args=some v->Ak P O j args [] v []/\Rr v=true):Bo P O (onP j g):=by
 intro f args σ n v σ' n' b C B;unfold onP at b;cases o:Nat.beq f j with
 | false=>rw[o] at b;cases b
 | true=>
  rw[o] at b;obtain rfl:=Ayq o;simp only[A00] at b;split at b
  .rename_i args' A;split at b
   .rename_i D y;rw[Jl] at b;cases b;obtain⟨r,s⟩:=h _ _ y;obtain⟨t,u⟩:=EK A;refine Hk.of_plain (φ:=Pk σ λ_=>true) r s B (λid es i=>?_) t λk c q x p=>HL (u k c q x p);unfold Pk at i;rw[Amm rfl] at i;split at i
    .rename_i e sz es' z;cases i;exact⟨e,sz,z⟩
    .cases i
   .cases b
  .cases b
end
end Go.Ir
end
namespace Go.Ir
open Go.Proofs Go.RowKit
noncomputable abbrev π:=Tryz.prog
theorem aE:∃j,π.info? 134=some j/\j.size=2:=Afo.1 (show(π.info? 134).map (·.size)=some 2 by kernel_rfl)
theorem PZ(b c:Nat)(w:World)(g:w.cell? ⟨b,c,none⟩=some (.pointer (some ⟨b,c,none⟩))) :
  Calls Tryz.prog 167 #[.pointer (some ⟨b,c,none⟩)] w λe w'=>e=.returned (.tuple #[])/\w'=w:=by
 have ⟨j,hj,_⟩:=aE
 go_enter Tryz.func167,Tryz.ntmps167
 go_wp2
 rw[Lib.run_neq_ptr_same w _ Tryz.underlying131 hj]
 go_wp2
 go_end0
 exact⟨rfl,rfl⟩
theorem OH(T k c:Nat)(g:liesAt Tryz.prog Tryz.prog.depth T (k / Tryz.prog.cellsOf T) c 134 1=true)(b:Nat)(w:World)(p:w.cell? ⟨b,c,none⟩=some (.pointer none))(i:w.shape? b=some (T,k))(o:w.frozen? ⟨b,c,none⟩=false)(h:c<k) :
  Calls Tryz.prog 167 #[.pointer (some ⟨b,c,none⟩)] w λe w'=>e=.returned (.tuple #[])/\w'=w.setCell ⟨b,c,none⟩ (.pointer (some ⟨b,c,none⟩)):=by
 have ⟨j,hj,hjs⟩:=aE
 go_enter Tryz.func167,Tryz.ntmps167
 go_wp2
 rw[Lib.run_to_unsafe w ⟨b,c,none⟩ Tryz.underlying131 Tryz.underlying298 hj (by rw[hjs];decide) i h];simp only[Result.andThen];rw[A1z]
 go_wp2
 rw[run_callFunc_extern Tryz.func215 (by kernel_rfl) (by kernel_rfl) (by kernel_rfl) (e:=Extern.AbiNoEscape.same) (by kernel_rfl),Lib.run_noEscape];simp only[Result.andThen];rw[A1z]
 go_wp2
 rw[Lib.run_from_unsafe w ⟨b,c,none⟩ Tryz.underlying298 Tryz.underlying131 hj i g];simp only[Result.andThen];rw[A1z]
 go_wp2
 go_end0
 exact⟨rfl,rfl⟩
theorem HM(w:World) b:w.grownBy w.drew b:=⟨rfl,rfl,rfl,Ab6 _,λ_ _ _=>rfl⟩
theorem RK(w:World) g n:w.grownBy (w.freeze ⟨g,0,none⟩ n) (some g):=by
 unfold World.freeze;split
 .exact⟨rfl,rfl,rfl,Ab6 _,λ_ _ _=>rfl⟩
 .exact⟨rfl,rfl,rfl,by simp,λk c b=>by grind
⟩
theorem Mz{a b c:World}{e}(h:a.grownBy b e)(k:b.grownBy c e):a.grownBy c e:=
 ⟨k.os.trans h.os,k.tape.trans h.tape,k.output.trans h.output,AoW h.size k.size,λi g j=>(k.block i (AuD g h.size) j).trans (h.block i g j)⟩
theorem TZ(w:World) o b:w.grownBy (w.alloc o) b:=⟨rfl,rfl,rfl,by simp,λk c _=>heap_alloc_old w o c⟩
theorem i6(b k g c:Nat)(l:List UInt8)(h:Array Value)(w:World)(q:l≠[])(s:w.cell? ⟨b,k+1,none⟩=some (.slice (some ⟨g,0,none⟩) l.length c))(z:w.heap[g]?=some (.cells h 5 (0,0)))(r:l.length<=c)(o:c<=maxLen)(y:h.size=c)
  (i:∀j x,l[j]?=some x->w.cell? ((⟨g,0,none⟩:Addr).add j)=some (.int .u8 x.toNat)) :
  Calls Tryz.prog 60 #[.pointer (some ⟨b,k,none⟩)] w λe w'=>e=.returned (.string ⟨l.toArray⟩)/\w.grownBy w' (some g):=by
 have A:l.length≠0:=by simpa using q
 have C:w.drew.cell? ⟨b,k+1,none⟩=some (.slice (some ⟨g,0,none⟩) l.length c):=s;have t:(Builtin.unsafeSliceData_ #[132] 176 #[.slice (some ⟨g,0,none⟩) l.length c]).run Tryz.prog w.drew=.ok (.pointer (some ⟨g,0,none⟩)) w.drew:=
  Lib.run_unsafeSliceData_row _ _ _ _ _ _ (by omega)
 have u:(Builtin.unsafeString_ #[176,3] 9 #[.pointer (some ⟨g,0,none⟩),.int .i64 l.length]).run Tryz.prog w.drew=.ok (.string ⟨l.toArray⟩) (w.drew.freeze ⟨g,0,none⟩ l.length):=by refine Lib.run_unsafeString_row w.drew 176 3 9 5 Tryz.underlying176 (by kernel_rfl) g h.size (by have p:w.drew.heap[g]?=some (.cells h 5 (0,0)):=z;simp[World.shape?,p]) l q (by omega) (by unfold maxLen at o;omega) ?_;intro j x B;exact i j x B
 go_enter Tryz.func60,Tryz.ntmps60
 go_wp2
 go_region
 all_goals (go_wp2;go_ret;exact⟨rfl,Mz (HM w _) (RK _ _ _)⟩)
theorem qZ(b c:Nat)(w:World)(g:w.cell? ⟨b,c+1,none⟩=some (.slice none 0 0)) :
  Calls Tryz.prog 60 #[.pointer (some ⟨b,c,none⟩)] w λe w'=>e=.returned (.string ⟨#[]⟩)/\w.grownBy w' none:=by
 have i:∀(W:World) (q:Option Addr),(Builtin.unsafeString_ #[176,3] 9 #[.pointer q,.int .i64 0]).run Tryz.prog W=.ok (.string .empty) W:=λW q=>Lib.run_unsafeString_none W _ _ _ q;have j:w.drew.cell? ⟨b,c+1,none⟩=some (.slice none 0 0):=g;have h:(Builtin.unsafeSliceData_ #[132] 176 #[.slice none 0 0]).run Tryz.prog w.drew=.ok (.pointer none) w.drew:=rfl
 go_enter Tryz.func60,Tryz.ntmps60
 go_wp2
 go_region
 all_goals (go_wp2;go_ret;exact⟨rfl,HM w _⟩)
theorem Tk(b c g:Nat)(h:Array Value)(w:World)(k:w.cell? ⟨b,c+1,none⟩=some (.slice (some ⟨g,0,none⟩) 0 0))(s:w.heap[g]?=some (.cells h 5 (0,0))) :
  Calls Tryz.prog 60 #[.pointer (some ⟨b,c,none⟩)] w λe w'=>e=.returned (.string ⟨#[]⟩)/\w.grownBy w' (some g):=by
 have r:∀(W:World) (q:Option Addr),(Builtin.unsafeString_ #[176,3] 9 #[.pointer q,.int .i64 0]).run Tryz.prog W=.ok (.string .empty) W:=λW q=>Lib.run_unsafeString_none W _ _ _ q;have o:w.drew.cell? ⟨b,c+1,none⟩=some (.slice (some ⟨g,0,none⟩) 0 0):=k;have p:(Builtin.unsafeSliceData_ #[132] 176 #[.slice (some ⟨g,0,none⟩) 0 0]).run Tryz.prog w.drew=.ok (.pointer (some ⟨w.drew.heap.size,0,none⟩)) (w.drew.alloc (.view ⟨g,0,none⟩ 5)):=
  Lib.run_unsafeSliceData_zero w.drew _ _ 5 Tryz.underlying176 ⟨g,0,none⟩ 0 (5,h.size) (by have i:w.drew.heap[g]?=some (.cells h 5 (0,0)):=s;simp[World.shape?,i])
 have j:b<w.heap.size:=A1P w _ k;have c3:(w.drew.alloc (.view ⟨g,0,none⟩ 5)).cell? ⟨b,c+1,none⟩=some (.slice (some ⟨g,0,none⟩) 0 0):=by rw[World.cell?_of_block (w:=w.drew) (heap_alloc_old w.drew _ j)];exact o
 have t:(w.alloc (.view ⟨g,0,none⟩ 5)).drew.cell? ⟨b,c+1,none⟩=some (.slice (some ⟨g,0,none⟩) 0 0):=c3
 go_enter Tryz.func60,Tryz.ntmps60
 go_wp2
 go_region
 all_goals (go_wp2;go_ret;exact⟨rfl,Mz (HM w _) (TZ _ _ _)⟩)
theorem d9(b h g c:Nat)(w:World)(i:c≠0)(j:w.cell? ⟨b,h+1,none⟩=some (.slice (some ⟨g,0,none⟩) 0 c)) :
  Calls Tryz.prog 60 #[.pointer (some ⟨b,h,none⟩)] w λe w'=>e=.returned (.string ⟨#[]⟩)/\w.grownBy w' (some g):=by
 have o:∀(W:World) (q:Option Addr),(Builtin.unsafeString_ #[176,3] 9 #[.pointer q,.int .i64 0]).run Tryz.prog W=.ok (.string .empty) W:=λW q=>Lib.run_unsafeString_none W _ _ _ q;have p:w.drew.cell? ⟨b,h+1,none⟩=some (.slice (some ⟨g,0,none⟩) 0 c):=j;have k:(Builtin.unsafeSliceData_ #[132] 176 #[.slice (some ⟨g,0,none⟩) 0 c]).run Tryz.prog w.drew=.ok (.pointer (some ⟨g,0,none⟩)) w.drew:=
  Lib.run_unsafeSliceData_row _ _ _ _ _ _ i
 clear i
 go_enter Tryz.func60,Tryz.ntmps60
 go_wp2
 go_region
 all_goals (go_wp2;go_ret;exact⟨rfl,HM w _⟩)
theorem M4 b off l v B w (c1:w.cell? ⟨b,Nat.succ off,none⟩=some v)(hown:w.ownsRow B 5 1 v l.length (Lib.byteCells l)) :
  Calls Tryz.prog 60 #[.pointer (some ⟨b,off,none⟩)] w fun e w'=>e=.returned (.string ⟨l.toArray⟩)/\w.grownBy w' v.ownBlock:=by
 have hown':=hown
 rcases hown.2 with⟨rfl,h0⟩|⟨g,cap,cur,rfl,hbg,hg,hnc,hcm,hcs,htake⟩
 .have:l=[]:=Axx h0
  subst this
  exact qZ b off w c1
 .by_cases h0:l=[]
  .subst h0
   by_cases hc0:cap=0
   .subst hc0;exact Tk b off g cur w c1 hg
   .exact d9 b off g cap w hc0 c1
  .refine i6 b off g cap l cur w h0 c1 hg hnc hcm (by simpa using hcs) fun j x hx=>?_
   exact hown.cells (g:=g) rfl j (.int .u8 x.toNat) (by simp[Lib.byteCells,hx])
theorem d5(O:World)(c:List (TypeId×Nat×Nat))(h:∀p∈c,liesAt Tryz.prog Tryz.prog.depth p.1 (p.2.1 / Tryz.prog.cellsOf p.1) p.2.2 134 1=true):Bo Tryz.prog O (AdH 167 c):=by
 have q:callable Tryz.prog 167=true:=by kernel_rfl
 refine AeL q PZ ?_;intro T k g r b w o j i e;exact OH T k g (h (T,k,g) r) b w o j i e
theorem fN(O:World):Bo Tryz.prog O (AeF 60 5):=by
 have b:callable Tryz.prog 60=true:=by kernel_rfl
 exact Aed b M4
end Go.Ir

namespace Go.Ir
def Dd(P:Program)(f:FuncId)(F:F9):Bool:=Ao P f F.nt F.ic F.rs&&F.ic.cl
def BR(m:Nat)(a b:FuncId->Option F9):FuncId->Option F9:=λf=>bif Nat.blt f m then a f else b f
def BO(d:FuncId)(F:F9):FuncId->Option F9:=λf=>bif Nat.beq f d then some F else none
theorem JE.node{P m a b}(e:JE P a)(g:JE P b):JE P (BR m a b):=by
 intro f F h;unfold BR at h;cases c:Nat.blt f m with
 | true=>rw[c] at h;exact e f F h
 | false=>rw[c] at h;exact g f F h
theorem JE.leaf{P d F}(c:Dd P d F=true):JE P (BO d F):=by
 intro f G h;unfold BO at h;cases b:Nat.beq f d with
 | true=>rw[b] at h;cases h;obtain rfl:=Ayq b;unfold Dd at c;simpa using c
 | false=>rw[b] at h;cases h
def ApM(o:Option (V×Aq×Nat)):Option V:=match o with
 | some r=>some r.1
 | none=>none
theorem UM{P:Program}{O:World}{T:FuncId->Option F9}{B:BJ}{K k:Nat}(c:JE P T)(hB:Bo P O B){f:FuncId}{args:List V}{v:V}(h:ApM (QY T B K k f args [] 0)=some v)(e:LD 0 args=true)(g:RD 0 v=true):Ak P O f args [] v []:=by
 cases b:QY T B K k f args [] 0 with
 | none=>rw[b] at h;cases h
 | some r=>rw[b] at h;cases h;obtain⟨v,σ,n⟩:=r;exact VU c hB b e g
end Go.Ir
section
namespace Go.Ir
open Go.RowKit
def Ab3(c:BinOp)(b:Int):Prop:=
 match c with
 | .add|.sub|.mul|.eql|.neq|.lss|.leq|.gtr|.geq=>True
 | .quo|.rem=>b≠0
 | _=>False
def xC(c:BinOp)(k:IntKind)(a b:Int):V:=
 match c with
 | .add=>.i k (k.wrap (a+b))
 | .sub=>.i k (k.wrap (a-b))
 | .mul=>.i k (k.wrap (a*b))
 | .quo=>.i k (k.wrap (a.tdiv b))
 | .rem=>.i k (a.tmod b)
 | .eql=>.b (a==b)
 | .neq=>.b (a !=b)
 | .lss=>.b (decide (a<b))
 | .leq=>.b (decide (a<=b))
 | .gtr=>.b (decide (a>b))
 | .geq=>.b (decide (a>=b))
 | _=>.any
def s9(c:BinOp)(a b:List UInt8):Prop:=
 match c with
 | .add=>a.length+b.length<=AG
 | .eql|.neq|.lss|.leq|.gtr|.geq=>True
 | _=>False
def uU(c:BinOp)(a b:List UInt8):V:=
 match c with
 | .add=>.s (a++b)
 | .eql=>.b (a==b)
 | .neq=>.b (!(a==b))
 | .lss=>.b (Op.bytesLess a b)
 | .leq=>.b (Op.bytesLess a b||a==b)
 | .gtr=>.b (!(Op.bytesLess a b||a==b))
 | .geq=>.b (!Op.bytesLess a b)
 | _=>.any
def Pq(c:BinOp):V->V->Prop
 | .i k _,.i e b=>k=e/\Ab3 c b
 | .s a,.s b=>s9 c a b
 | _,_=>False
def Tp(c:BinOp):V->V->V
 | .i k a,.i _ b=>xC c k a b
 | .s a,.s b=>uU c a b
 | _,_=>.any
theorem yB{c k a b v}:UT c k a b v↔Ab3 c b/\v=xC c k a b:=by cases c<;>simp[UT,Ab3,xC]
theorem Aan{c a b v}:UP c a b v↔s9 c a b/\v=uU c a b:=by cases c<;>simp[UP,s9,uU]
theorem o6{b x y v}:Rg b x y v↔Pq b x y/\v=Tp b x y:=by
 unfold Rg;split
 .simp only[Pq,Tp,yB,and_assoc]
 .simp only[Pq,Tp,Aan]
 .rename_i c e;have:¬Pq b x y:=by unfold Pq;grind
  simp[this]
def Va:V->Prop|.b _=>True|_=>False
def Pb:V->Bool|.b t=>t|_=>false
theorem Xn{v}{Q:Bool->Prop}:(∃t,v=.b t/\Q t)↔Va v/\Q (Pb v):=by cases v<;>simp[Va,Pb]
def V3:V->Prop|.i _ _=>True|_=>False
def Nz:V->Int|.i _ n=>n|_=>0
def kiI:V->IntKind|.i k _=>k|_=>.i64
def isS:V->Prop|.s _=>True|_=>False
def toS:V->List UInt8|.s l=>l|_=>[]
def Ww:V->Prop|.ref _ _|.aref _ _ _ _|.ep _ _=>True|_=>False
def Km:V->Nat->V
 | .ref id o,n=>.ref id (o+n)
 | .aref id b sz o,n=>.aref id b sz (o+n)
 | .ep e o,n=>.ep e (o+n)
 | v,_=>v
def Fw(σ:Aq)(sz:Nat):V->V->Option V
 | .sl es,.i _ n=>if 0<=n then(es[n.toNat]?).bind λc=>if(cells c).length=sz then some (.ep c 0) else none else none
 | .arr id,.i _ n=>if 0<=n then(match lk σ id with|some (.arr _ b es)=>if b=sz/\n.toNat<es.length then some (.aref id n.toNat sz 0) else none|_=>none) else none
 | _,_=>none
def Ht(σ:Aq)(n:Nat)(ag:Bool):V->Option V
 | .ref id b=>match lk σ id with|some (.box u)=>sub u b n ag|some (.tbox _ u)=>sub u b n ag|_=>none
 | .aref id g sz b=>match lk σ id with|some (.arr _ c es)=>if c=sz then(es[g]?).bind λe=>sub e b n ag else none|_=>none
 | .ep u b=>sub u b n ag
 | _=>none
def F0(σ:Aq)(n:Nat)(x:V):V->Option Aq
 | .ref id b=>match lk σ id with|some (.box u)=>(Ef u b n x).map λh=>upd σ id (.box h)|some (.tbox t u)=>(Ef u b n x).map λh=>upd σ id (.tbox t h)|_=>none
 | .aref id i sz b=>match lk σ id with|some (.arr e g es)=>if g=sz then(es[i]?).bind λj=>(Ef j b n x).map λc=>upd σ id (.arr e sz (es.set i c)) else none|_=>none
 | _=>none
def Rb:V->V->Option V
 | .s l,.i _ n=>if 0<=n then(l[n.toNat]?).map λc=>.i .u8 c.toNat else none
 | _,_=>none
section
variable{P:Program}{O:World}{ep:Nat}{l:List I}{env:BB}{σ:Aq}{K:BB→Aq→Prop}
theorem Do{d b}:Ay P O ep (⟨d,b,none,[]⟩::l) env σ K↔∃v σ',E P O ep d b (get env) σ v σ'/\Ay P O ep l (put env d v) σ' K:=by simp[Ay,Dh,EA,cK,LQ]
theorem Axy{d b x ap}(j:b.cl=false):Ay P O ep (⟨d,b,none,x::ap⟩::l) env σ K↔cK ⟨d,b,none,x::ap⟩ (get env)/\Ay P O ep (⟨d,b,none,[]⟩::l) env σ K:=by
 simp only[Ay,Dh,EA];constructor
 .rintro⟨v,σ',⟨c,e,_⟩,g⟩;exact⟨e,v,σ',⟨c,λx i=>(by cases i),λ_ x i=>(by cases i)⟩,g⟩
 .rintro⟨e,v,σ',⟨c,_⟩,g⟩;exact⟨v,σ',⟨c,e,λh=>by rw[j] at h;cases h⟩,g⟩
def JQ(c:Bool)(v:V)(x y:Prop):Prop:=
 match v with
 | .b t=>(t=c->x)/\(t≠c->y)
 | .tup []=>y
 | _=>False
theorem Jz{d b C val τ}(h:∀v σ',E P O ep d b (get env) σ v σ'↔C/\v=val/\σ'=τ) :
  Ay P O ep (⟨d,b,none,[]⟩::l) env σ K↔C/\Ay P O ep l (put env d val) τ K:=by
 rw[Do];grind
theorem Mr{d b C o}(h:∀v σ',E P O ep d b (get env) σ v σ'↔C/\o=some v/\σ'=σ) :
  Ay P O ep (⟨d,b,none,[]⟩::l) env σ K↔C/\o.isSome=true/\Ay P O ep l (put env d (o.getD .any)) σ K:=by
 rw[Do];constructor
 .grind
 .rintro⟨g,c,e⟩;cases o with
  | none=>cases c
  | some v=>grind
variable{d:Nat}
theorem AvX{x}:Ay P O ep (⟨some d,.mv x,none,[]⟩::l) env σ K↔Ay P O ep l ((d,ev (get env) x)::env) σ K:=
 (Jz (C:=True) (val:=ev (get env) x) (τ:=σ) λv σ'=>by simp[E]).trans (by simp[put])
theorem Alp{c a b}:Ay P O ep (⟨some d,.pick c a b,none,[]⟩::l) env σ K↔Va (ev (get env) c)/\Ay P O ep l ((d,bif Pb (ev (get env) c) then ev (get env) a else ev (get env) b)::env) σ K:=
 Jz λv σ'=>by simp only[E];exact Xn
theorem Arv{b x y}:Ay P O ep (⟨some d,.bin b x y,none,[]⟩::l) env σ K↔Pq b (ev (get env) x) (ev (get env) y)/\Ay P O ep l ((d,Tp b (ev (get env) x) (ev (get env) y))::env) σ K:=
 Jz λv σ'=>by simp only[E,o6,and_assoc]
theorem AsY{c x y}:Ay P O ep (⟨some d,.eqb c x y,none,[]⟩::l) env σ K↔(Va (ev (get env) x)/\Va (ev (get env) y))/\Ay P O ep l ((d,.b (if c then !(Pb (ev (get env) x)==Pb (ev (get env) y)) else Pb (ev (get env) x)==Pb (ev (get env) y)))::env) σ K:=
 Jz λv σ'=>by simp only[E];cases ev (get env) x<;>cases ev (get env) y<;>simp[Va,Pb]
theorem Asd{x}:Ay P O ep (⟨some d,.not x,none,[]⟩::l) env σ K↔Va (ev (get env) x)/\Ay P O ep l ((d,.b (!(Pb (ev (get env) x))))::env) σ K:=
 Jz λv σ'=>by simp only[E];exact Xn
theorem Aso{k x}:Ay P O ep (⟨some d,.cvi k x,none,[]⟩::l) env σ K↔V3 (ev (get env) x)/\Ay P O ep l ((d,.i k (k.wrap (Nz (ev (get env) x))))::env) σ K:=
 Jz λv σ'=>by
  simp only[E];cases ev (get env) x<;>(try (simp[V3,Nz];done))
  rename_i b n;simp only[V3,Nz,A03];grind
theorem AcD{x b}:Ay P O ep (⟨some d,.faddr x b,none,[]⟩::l) env σ K↔Ww (ev (get env) x)/\Ay P O ep l ((d,Km (ev (get env) x) b)::env) σ K:=
 Jz λv σ'=>by simp only[E];cases ev (get env) x<;>simp[Ww,Km]
theorem Adv{x i e sz}:Ay P O ep (⟨some d,.iaddr x i e sz,none,[]⟩::l) env σ K↔True/\(Fw σ sz (ev (get env) x) (ev (get env) i)).isSome=true/\Ay P O ep l ((d,(Fw σ sz (ev (get env) x) (ev (get env) i)).getD .any)::env) σ K:=
 Mr λv σ'=>by
  simp only[E,A03];cases t:ev (get env) i<;>(try (cases ev (get env) x<;>simp[Fw];done))
  rename_i k n;cases y:ev (get env) x<;>(try (simp[Fw];done))
  .rename_i es;simp only[Fw];by_cases c:0<=n
   .cases o:es[n.toNat]? with
    | none=>simp[c,o]
    | some s=>
     by_cases j:(cells s).length=sz
     .simp[c,o,j,eq_comm]
     .simp[c,o,j]
   .simp[c]
  .rename_i id;simp only[Fw];by_cases c:0<=n
   .cases g:lk σ id with
    | none=>simp[c,g]
    | some en=>
     cases en with
     | box u=>simp[c,g]
     | tbox _ _=>simp[c,g]
     | map _=>simp[c,g]
     | it _ _=>simp[c,g]
     | mit _ _ _ _=>simp[c,g]
     | arr e' p es=>
      by_cases j:p=sz
      .subst j;by_cases h:n.toNat<es.length
       .simp only[c,g,h,A03,and_self,AbA,Ao3];constructor
        .rintro⟨⟨a,b,q,r,rfl⟩,rfl⟩;exact⟨rfl,rfl⟩
        .rintro⟨rfl,rfl⟩;exact⟨⟨e',es,rfl,h,rfl⟩,rfl⟩
       .simp only[c,g,h,A03,and_false,AbA,Ab9,Ao3,reduceCtorEq,false_and,iff_false];rintro⟨⟨a,b,q,r,rfl⟩,rfl⟩;cases q;exact h r
      .simp[c,g,j]
   .simp[c]
theorem Atd{x i}:Ay P O ep (⟨some d,.idx x i,none,[]⟩::l) env σ K↔True/\(Rb (ev (get env) x) (ev (get env) i)).isSome=true/\Ay P O ep l ((d,(Rb (ev (get env) x) (ev (get env) i)).getD .any)::env) σ K:=
 Mr λv σ'=>by
  simp only[E,A03];cases b:ev (get env) i<;>(try (cases ev (get env) x<;>simp[Rb];done))
  rename_i k n;cases c:ev (get env) x<;>(try (simp[Rb];done))
  rename_i l;simp only[Rb];grind
theorem AmB{x n ag}:Ay P O ep (⟨some d,.load x n ag,none,[]⟩::l) env σ K↔True/\(Ht σ n ag (ev (get env) x)).isSome=true/\Ay P O ep l ((d,(Ht σ n ag (ev (get env) x)).getD .any)::env) σ K:=
 Mr λv σ'=>by
  simp only[E,A03];cases r:ev (get env) x<;>(try (simp[Ht];done))
  .rename_i id g;simp only[Ht];cases p:lk σ id with
   | none=>simp
   | some en=>cases en<;>simp[ldB]
  .rename_i id q sz g;simp only[Ht];cases p:lk σ id with
   | none=>simp
   | some en=>
    cases en with
    | box u=>simp
    | tbox _ _=>simp
    | map _=>simp
    | it _ _=>simp
    | mit _ _ _ _=>simp
    | arr e h es=>
     by_cases j:h=sz
     .subst j;simp only[AbA];constructor
      .rintro⟨⟨e',es',i,b,k,o⟩,rfl⟩;cases b;rw[k];exact⟨o,rfl⟩
      .rintro⟨b,rfl⟩;cases c:es[q]? with
       | none=>rw[c] at b;cases b
       | some i=>rw[c] at b;exact⟨⟨e,es,i,rfl,c,b⟩,rfl⟩
     .simp[j]
end
end Go.Ir
end
