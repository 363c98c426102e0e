/-
  Contracts: the selectors of a message, in the reference: ..
  Contracts: the selectors of a message, in the reference.
  Contracts: combinations, rules, add and Join, of both sides.
  Resolved messages as plain Lean data: the case that a key ..
  Contracts: the case that a key determines, of both sides.
  Contracts: resolve, of the program.
  Contracts: resolve, of the reference.
  Contracts: Flat, of the program.
  The IR of functions of the program, printed by our own tool
  The two checks of a message agree, and what a message has ..
  What a message has that the checks accept: the cases of its ..
  How heavy resolved parts are.
  Flat forms as plain Lean data: the two sides agree.
  Contracts: Clone of cases, cloned.
  Contracts: Flat, of the reference.
-/
import Derived.Test.YtkeebddaokieiaaGreatDoorPad
set_option linter.all false
set_option linter.defProp false
set_option linter.unusedSimpArgs false
set_option linter.unusedVariables false
open Nat (reduceEqDiff)
namespace Go.Ir
open Go.Proofs
variable (W0 : World)
def TR:Nat:=110
theorem c_rFindN (k:Int) (n:Bytes):RetS Tryz.prog W0 83 [.nil,.i .i64 k,.s n] [] (.i .i64 (-1)) []:=by
 refine fn_retW (vs:=[.i .i64 (-1)]) f83ok (by simp) (by simp) fun n0 hn0=>?_
 clear hn0
 simp only [push_cast,seval,reduceEqDiff]
 intros
 refine aWP_loopW 0 (Inv:=fun m st=>∃n1,st=⟨[(0,.nil),(1,.i .i64 k),(2,.s n),(7,.i .i64 0)],[],n1⟩) ⟨_,StLe.refl,_,rfl⟩ ?_
 rintro m _ ⟨n1,rfl⟩
 simp only [push_cast,seval,reduceEqDiff,show (decide False)=false from rfl]
 intros
 exact finW_ret (by simp [get])
theorem c_rFindA (k:Int) (n:Bytes) (lid:Id) (L:List OS) (hl:L.length<=2^40):RetS Tryz.prog W0 83 [.arr lid,.i .i64 k,.s n] [(lid,.arr TR 3 (L.map osV))] (.i .i64 (findI (L.map (·.1)) k n)) [(lid,.arr TR 3 (L.map osV))]:=by
 have hS2:idxI (fun x:OS=>selIs k n x.1) L=findI (L.map (·.1)) k n:=by
  unfold findI
  clear hl
  induction L with
  | nil=>rfl
  | cons x L ih=>simp only [List.map_cons,idxI,ih]
 rw [<-hS2]
 generalize hS:idxI (fun x:OS=>selIs k n x.1) L=S
 refine fn_retW (vs:=[.i .i64 S]) f83ok (by simp) (fun _ h=>h) fun n0 hn0=>?_
 clear hn0
 simp only [push_cast,seval,reduceEqDiff]
 intros
 refine aWP_loopW L.length (Inv:=fun m st=>∃done rest n1,L=done++rest/\m=rest.length/\(if idxI (fun x:OS=>selIs k n x.1) rest<0 then -1 else idxI (fun x:OS=>selIs k n x.1) rest+done.length)=S/\st=⟨[(0,.arr lid),(1,.i .i64 k),(2,.s n),(7,.i .i64 done.length)],[(lid,.arr TR 3 (L.map osV))],n1⟩) ⟨_,StLe.refl,[],_,_,rfl,rfl,?_,rfl⟩ ?_
 ·have:=idxI_lo (fun x:OS=>selIs k n x.1) L
  rw [<-hS];simp;omega
 clear hS hS2
 rintro m _ ⟨done,rest,n1,hz,rfl,hd,rfl⟩
 cases rest with
 | nil=>
  simp only [push_cast,seval,reduceEqDiff,hz]
  intros
  refine finW_retS ?_ (fun _ _ h=>h)
  rw [<-hd];simp [idxI,get]
 | cons x rest=>
  have hb:=zip_bd hz
  have hlt:done.length<(done++x::rest).length:=by simp
  have hov:osV x = .agg [.i .i64 x.1.kind,.s x.1.name,sv x.2]:=rfl
  have hlo:=idxI_lo (fun x:OS=>selIs k n x.1) rest
  have hsi:selIs k n x.1=(x.1.kind == k&&x.1.name == n):=rfl
  simp only [idxI,hsi] at hd
  simp only [push_cast,seval,reduceEqDiff,hz,wrap_zip x (done:=done) (by omega),if_pos hlt,hov,TR]
  repeat' (first|(((first|apply condU_s|apply gdU_t|apply gdU_f)<;>intro _h)<;>simp only [push_cast,seval,reduceEqDiff,_h,hz,wrap_zip x (done:=done) (by omega),if_pos hlt,hov,TR])|intro _)
  ·rename_i h1 _ _ _
   subst hd
   refine finW_retS ?_ (fun _ _ h=>h)
   simp only [*,Bool.true_and,cond_true]
   simp [get]
  all_goals (refine ⟨_,_,Nat.lt_succ_self _,StLe.refl,done++[x],rest,_,by simp,rfl,?_,rfl⟩)
  all_goals
   rw [<-hd]
   simp only [*,Bool.true_and,Bool.false_and,cond_false]
   by_cases h:idxI (fun x:OS=>selIs k n x.1) rest<0
   ·simp [h]
   ·simp [h];rw [if_neg (by omega)];omega
theorem over_le {σi σo σ:Sto} {x:Id} {X:Ent} (hxo:∀p∈σo,p.1≠x) (hxi:∀p∈σi,p.1≠x) (hx:lk σ x=some X):∀i e,lk ((x,X)::σo) i=some e->lk (over σi σo σ) i=some e:=by
 intro i e h
 rw [lk_over]
 simp only [lk] at h
 split at h
 ·rename_i h1;subst h1
  rw [lk_none_of hxo,lk_none_of hxi]
  simp only [Option.isNone_none,if_true]
  rw [hx];exact h
 ·rw [h]
def FreshT (n:Nat) (lo0:Option Id) (L0:List OS) (lo:Option Id) (L:List OS):Prop:=∀p∈selS TR lo L,n<=p.1.1\/p.1∈(selS TR lo0 L0).map (·.1)
theorem FreshT.refl (n:Nat) (lo:Option Id) (L:List OS):FreshT n lo L lo L:=fun p hp=>.inr (List.mem_map.2 ⟨p,hp,rfl⟩)
theorem FreshT.trans {n n':Nat} {lo0 lo lo':Option Id} {L0 L L':List OS} (h:FreshT n lo0 L0 lo L) (k:FreshT n' lo L lo' L') (hn:n<=n'):FreshT n lo0 L0 lo' L':=by
 intro p hp
 rcases k p hp with h1|h1
 ·exact .inl (Nat.le_trans hn h1)
 ·obtain ⟨q,hq,he⟩:=List.mem_map.1 h1
  rcases h q hq with h2|h2
  ·left;rw [<-he];exact h2
  ·right;rw [<-he];exact h2
theorem FreshT.key {lid:Id} {A B:List OS} {x:OS} {n:Nat} {id:Id} (hi:n<=id.1) (s:Sel):FreshT n (some lid) (A++x::B) (some lid) (A++(s,some id)::B):=by
 intro p hp
 rw [selS_some,ossE_app,ossE_cons] at hp
 rw [selS_some,ossE_app,ossE_cons]
 rcases List.mem_cons.1 hp with rfl|hp
 ·right;simp
 ·rcases List.mem_append.1 hp with hp|hp
  ·right;exact List.mem_map.2 ⟨p,List.mem_cons_of_mem _ (List.mem_append_left _ hp),rfl⟩
  ·rcases List.mem_append.1 hp with hp|hp
   ·simp [osE] at hp;subst hp;exact .inl hi
   ·right;exact List.mem_map.2 ⟨p,List.mem_cons_of_mem _ (List.mem_append_right _ (List.mem_append_right _ hp)),rfl⟩
theorem FreshT.add {lo:Option Id} {L:List OS} {n:Nat} {id:Id} (hi:n<=id.1) (k:Int) (nm:Bytes):FreshT n lo L (some id) (L++[(⟨k,nm,[]⟩,none)]):=by
 intro p hp
 rw [selS_some,ossE_app] at hp
 rcases List.mem_cons.1 hp with rfl|hp
 ·exact .inl hi
 ·have hp2:p∈ossE L:=by simpa [ossE,osE] using hp
  exact .inr (List.mem_map.2 ⟨p,List.mem_append_right _ hp2,rfl⟩)
theorem c_InN (s:Bytes):RetS Tryz.prog W0 84 [.nil,.s s] [] (.b false) []:=by
 refine fn_retW (vs:=[.b false]) f84ok (by simp) (by simp) fun n0 hn0=>?_
 clear hn0
 simp only [push_cast,seval,reduceEqDiff]
 intros
 refine aWP_loopW 0 (Inv:=fun m st=>∃n1,st=⟨[(0,.nil),(1,.s s),(5,.i .i64 0)],[],n1⟩) ⟨_,StLe.refl,_,rfl⟩ ?_
 rintro m _ ⟨n1,rfl⟩
 simp only [push_cast,seval,reduceEqDiff,show (decide False)=false from rfl]
 intros
 exact finW_ret (by simp [get])
def CollR (lo0:Option Id) (L0:List OS) (spec:List Sel) (n n':Nat) (v:V) (σ':Sto):Prop:=
 ∃lo L,v=sv lo/\σ'=selS TR lo L/\SelO TR lo L n'/\L.map (·.1)=spec/\FreshT n lo0 L0 lo L
set_option maxHeartbeats 4000000 in
theorem rcoll_cs (p:Part) (k:Int) (nm:Bytes) (hpk:p.kind=k) (hpn:p.name=nm) (x0:Nat) (lid0:Id) (L0:List OS) (n0:Nat) (a1 a5:V) (Q:Exit->St->Prop) (hcl:wtCs p.cases<=2^26)
  (hih:∀x∈p.cases,∀lo L n1,selW (L.map (·.1))+wtPs x.2<=2^26->SelO TR lo L n1->RetE Tryz.prog W0 124 [sv lo,.sl (x.2.map Part.enc)] (selS TR lo L) (CollR lo L (rcollPs x.2 (L.map (·.1)))))
  (hw:selW (L0.map (·.1))+wtCs p.cases<=2^26) (hok:SelO TR (some lid0) L0 n0) (hf:¬findI (L0.map (·.1)) k nm<0) (hx:∀q∈selS TR (some lid0) L0,q.1≠(x0,6)) (hx0:x0<n0)
  (hQ:∀lid L n',L.map (·.1)=rcollCs p.cases k nm (L0.map (·.1))->SelO TR (some lid) L n'->n0<=n'->FreshT n0 (some lid0) L0 (some lid) L->(∀q∈selS TR (some lid) L,q.1≠(x0,6))->Q (.exit 2) ⟨[(0,.arr lid),(1,a1),(5,a5),(6,.ref (x0,6) 0),(7,.i .i64 p.cases.length),(46,.b false)],((x0,6),.box p.v)::selS TR (some lid) L,n'⟩) :
  LoopW Tryz.prog W0 94 f124_31 Q ⟨[(0,.arr lid0),(1,a1),(5,a5),(6,.ref (x0,6) 0),(7,.i .i64 0)],((x0,6),.box p.v)::selS TR (some lid0) L0,n0⟩:=by
 have hlc:=len_wtCs p.cases
 generalize hS:rcollCs p.cases k nm (L0.map (·.1))=S at hQ
 refine aWP_loopW p.cases.length (Inv:=fun m st=>∃cd cr n lid L,p.cases=cd++cr/\m=cr.length/\rcollCs cr k nm (L.map (·.1))=S/\selW (L.map (·.1))+wtCs cr<=2^26/\SelO TR (some lid) L n/\n0<=n/\FreshT n0 (some lid0) L0 (some lid) L/\¬findI (L.map (·.1)) k nm<0/\(∀q∈selS TR (some lid) L,q.1≠(x0,6))/\st=⟨[(0,.arr lid),(1,a1),(5,a5),(6,.ref (x0,6) 0),(7,.i .i64 cd.length)],((x0,6),.box p.v)::selS TR (some lid) L,n⟩) ⟨_,StLe.refl,[],p.cases,_,lid0,L0,rfl,rfl,hS,hw,hok,Nat.le_refl _,FreshT.refl _ _ _,hf,hx,rfl⟩ ?_
 clear hS hok hf hx
 rintro m _ ⟨cd,cr,n,lid,L,hcz,rfl,hd,hw,hok,hn0,hfr,hf0,hx,rfl⟩
 unfold Part.v at hQ⊢
 cases cr with
 | nil=>
  rw [rcollCs] at hd
  have hlt0:decide ((cd.length:Int)<(p.cases.length:Int))=false:=by rw [hcz];simp
  have hcl2:cd.length=p.cases.length:=by rw [hcz];simp
  simp only [push_cast,seval,reduceEqDiff,hlt0]
  intro k2
  rw [hcl2]
  exact hQ lid L _ hd (hok.more (by omega)) (by omega) hfr hx
 | cons c cr=>
  have hcb:=zip_bd hcz
  have hcm:c∈p.cases:=by rw [hcz];simp
  have hwc:=wtCs_mem hcm
  rw [rcollCs_cons] at hd
  rw [wtCs_cons] at hw
  obtain ⟨l1,l2,l3,l4⟩:=hok.arr
  have hlim:L.length<=2^26:=by have:=len_selW (L.map (·.1));rw [List.length_map] at this;omega
  have hfi:=c_rFindA W0 p.kind p.name lid L (by omega)
  rw [hpk,hpn] at hfi
  have flx:(lid=(x0,6))=False:=eq_false (hx (lid,.arr TR 3 (L.map osV)) (by simp [selS_some]))
  have fxl:((x0,6)=lid)=False:=eq_false fun he=>of_eq_false flx he.symm
  have hxE:∀q∈ossE L,q.1≠(x0,6):=fun q hq=>hx q (by rw [selS_some];exact List.mem_cons_of_mem _ hq)
  have hjlt:=idxI_lt (selIs k nm) (L.map (·.1))
  rw [show idxI (selIs k nm) (L.map (·.1))=findI (L.map (·.1)) k nm from rfl,List.length_map] at hjlt
  obtain ⟨j,hj⟩:∃j:Nat,findI (L.map (·.1)) k nm=j:=⟨(findI (L.map (·.1)) k nm).toNat,by omega⟩
  rw [hj] at hfi hjlt hd
  have hj2:j<L.length:=by omega
  rw [Int.toNat_natCast] at hd
  obtain ⟨A,y,B,hL,hA⟩:∃A y B,L=A++y::B/\A.length=j:=⟨L.take j,L[j],L.drop (j+1),by rw [List.getElem_cons_drop,List.take_append_drop],by simp;omega⟩
  have hov1:∀X:Ent,over [(lid,.arr TR 3 (L.map osV))] [(lid,.arr TR 3 (L.map osV))] (((x0,6),X)::(lid,.arr TR 3 (L.map osV))::ossE L)=(lid,.arr TR 3 (L.map osV))::((x0,6),X)::ossE L:=fun X=>
   over_mid (σi:=[(lid,.arr TR 3 (L.map osV))]) (pre:=[((x0,6),X)]) (post:=ossE L) (fun q hq r hr=>by simp at hq hr;subst hq hr;exact of_eq_false fxl) (fun q hq r hr=>by simp at hr;subst hr;exact l2 q hq)
  have hsub1:∀X:Ent,∀i e,lk [(lid,.arr TR 3 (L.map osV))] i=some e->lk (((x0,6),X)::(lid,.arr TR 3 (L.map osV))::ossE L) i=some e:=fun X i e h=>by
   simp only [lk] at h
   split at h
   ·rename_i h1;subst h1;simp only [lk,fxl,if_false,if_true];exact h
   ·cases h
  rw [selS_some]
  simp only [push_cast,seval,reduceEqDiff,hcz,wrap_zip c (done:=cd) (by omega),hpk,hpn]
  intro k2
  refine c_calls hfi (hsub1 _) ?_
  rw [hov1]
  clear hov1 hsub1
  simp only [push_cast,seval,reduceEqDiff,hcz,wrap_zip c (done:=cd) (by omega),hpk,hpn]
  intro k3
  subst hL
  subst hA
  have hE:ossE (A++y::B)=ossE A++(osE y++ossE B):=by rw [ossE_app,ossE_cons]
  refine wkW_i (StLe.sub (nd_cons (nd_cons l4 hxE) fun q hq=>?_) (σ':=((x0,6),Ent.box (.agg [V.i .i64 k,.s p.text,.s nm,.s p.style,.sl (List.map Case.enc (cd++c::cr)),.sl (List.map Part.enc p.parts)]))::(lid,.arr TR 3 ((A++y::B).map osV))::(osE y++(ossE A++ossE B))) (fun q hq=>?_) (Nat.le_refl _)) ?_
  ·rcases List.mem_cons.1 hq with rfl|hq
   ·exact of_eq_false fxl
   ·exact l2 q hq
  ·simp only [hE,List.mem_cons,List.mem_append] at hq⊢
   rcases hq with h|h|h|h|h
   ·exact .inr (.inl h)
   ·exact .inl h
   ·exact .inr (.inr (.inr (.inl h)))
   ·exact .inr (.inr (.inl h))
   ·exact .inr (.inr (.inr (.inr h)))
  have hm1:n<n+1+k2+1+k3:=by omega
  generalize n+1+k2+1+k3=m1 at *
  have fnlid:∀k,((m1+1+k,82)=lid)=False:=fun k=>eq_false fun he=>by rw [<-he] at l1;simp at l1;omega
  have hget:((A++y::B).map osV)[A.length]? = some (osV y):=by simp
  rcases y with ⟨s,ko⟩
  cases ko with
  | none=>
   have hsk:s.keys=[]:=hok.kn (s,none) (by simp) rfl
   have hTE:∀q∈ossE A++ossE B,q.1≠lid/\q.1≠(x0,6)/\q.1.1<n:=by
    intro q hq
    have hq2:q∈ossE (A++(s,none)::B):=by rw [hE];simpa [osE] using hq
    exact ⟨l2 q hq2,hxE q hq2,l3 q hq2⟩
   have hov:osV (s,none) = .agg [.i .i64 s.kind,.s s.name,.nil]:=rfl
   simp only [osE,List.nil_append]
   generalize hT:ossE A++ossE B=T at *
   have hset:∀id,(List.map osV (A++(s,none)::B)).set A.length (.agg [.i .i64 s.kind,.s s.name,.arr id])=List.map osV (A++((⟨s.kind,s.name,[c.1]⟩:Sel),some id)::B):=fun id=>set_map A B (s,none) (⟨s.kind,s.name,[c.1]⟩,some id)
   simp only [push_cast,seval,reduceEqDiff,hcz,wrap_zip c (done:=cd) (by omega),if_pos hj2,hov,TR,flx,fxl,fnlid,eq_true (show 1<=LLim by decide),hset]
   refine c_callsq (c_InN W0 c.1) ?_
   simp only [push_cast,seval,reduceEqDiff,hcz,wrap_zip c (done:=cd) (by omega),if_pos hj2,hov,TR,flx,fxl,fnlid,eq_true (show 1<=LLim by decide),hset]
   intro k7 k4 k5
   obtain ⟨L2,hL2⟩:∃L2,L2=A++((⟨s.kind,s.name,[c.1]⟩:Sel),some (m1+1+k7,82))::B:=⟨_,rfl⟩
   obtain ⟨N2,hN2⟩:∃N2,N2=m1+1+k7+1:=⟨_,rfl⟩
   have hok2:SelO TR (some lid) L2 N2:=by rw [hL2,hN2];exact hok.key (by simp;omega) (by simp) _
   have hfr2:FreshT n (some lid) (A++(s,none)::B) (some lid) L2:=by rw [hL2];exact FreshT.key (by simp;omega) _
   have hspec:((A++(s,none)::B).map (·.1)).modify A.length (addKey c.1)=L2.map (·.1):=by
    rw [hL2,mod_map A B (s,none) (some (m1+1+k7,82))]
    simp [addKey,hsk]
   have hTn:(T.map (·.1)).Nodup:=by rw [<-hT];simpa [hE,osE] using l4
   have hnd2:∀X Y Z:Ent,((((m1+1+k7,82),X)::((x0,6),Y)::(lid,Z)::T).map (fun q:Id × Ent=>q.1)).Nodup:=fun X Y Z=>
    nd_cons (nd_cons (nd_cons hTn fun q hq=>(hTE q hq).1) fun q hq=>by
     rcases List.mem_cons.1 hq with rfl|hq
     ·exact of_eq_false flx
     ·exact (hTE q hq).2.1) fun q hq=>by
     rcases List.mem_cons.1 hq with rfl|hq
     ·intro he;injection he with h1 h2;cases h2
     ·rcases List.mem_cons.1 hq with rfl|hq
      ·exact fun he=>of_eq_false (fnlid k7) he.symm
      ·intro he;have:=(hTE q hq).2.2;rw [he] at this;simp at this;omega
   have hE2:ossE L2=ossE A++(((m1+1+k7,82),.arr 9 1 [.s c.1])::ossE B):=by rw [hL2,ossE_app,ossE_cons];rfl
   have hx2:∀q∈selS TR (some lid) L2,q.1≠(x0,6):=by
    intro q hq
    rcases List.mem_cons.1 (by rw [<-selS_some];exact hq) with rfl|hq
    ·exact of_eq_false flx
    ·rw [hE2] at hq
     rcases List.mem_append.1 hq with h|h
     ·exact (hTE q (by rw [<-hT];exact List.mem_append_left _ h)).2.1
     ·rcases List.mem_cons.1 h with rfl|h
      ·intro he;injection he with h1 h2;cases h2
      ·exact (hTE q (by rw [<-hT];exact List.mem_append_right _ h)).2.1
   have hsub2:∀X:Ent,∀q∈selS TR (some lid) L2,q∈((m1+1+k7,82),Ent.arr 9 1 [.s c.1])::((x0,6),X)::(lid,.arr TR 3 (L2.map osV))::T:=by
    intro X q hq
    simp only [selS_some,hE2,<-hT,List.mem_cons,List.mem_append] at hq⊢
    rcases hq with h|h|h|h
    ·exact .inr (.inr (.inl h))
    ·exact .inr (.inr (.inr (.inl h)))
    ·exact .inl h
    ·exact .inr (.inr (.inr (.inr h)))
   rw [<-hL2]
   refine c_callx (hih c hcm (some lid) L2 N2 (by rw [<-hspec];have:=selW_mod ((A++(s,none)::B).map (·.1)) A.length c.1;omega) hok2) (sub_of (hnd2 _ _ _) (hsub2 _)) (fun n2 v σo hle hR=>?_)
   obtain ⟨lo1,L1,rfl,rfl,hok3,hm3,hf3⟩:=hR
   rw [<-hspec] at hm3
   have hsm:=coll_same _ c.2 (Nat.lt_succ_self _) (((A++(s,none)::B).map (·.1)).modify A.length (addKey c.1))
   rw [hsm.1] at hm3
   have hex:=hsm.2
   rw [<-hm3] at hex
   have hext:=(SelExt.mod ((A++(s,none)::B).map (·.1)) A.length c.1).trans hex
   have hfe:=findI_ext hext k nm hf0
   have h1:=collPs_w c.2 (((A++(s,none)::B).map (·.1)).modify A.length (addKey c.1))
   have h2:=selW_mod ((A++(s,none)::B).map (·.1)) A.length c.1
   rw [rcoll_coll] at hd
   rw [<-hm3] at h1 hd
   cases lo1 with
   | none=>have:=hok3.ne rfl;subst this;have:=hext.1;simp at this
   | some lid1=>
    have hx3:∀q∈selS TR (some lid1) L1,q.1≠(x0,6):=by
     intro q hq he
     rcases hf3 q hq with h|h
     ·rw [he] at h;simp only at h;omega
     ·obtain ⟨r,hr,hre⟩:=List.mem_map.1 h
      exact hx2 r hr (hre.trans he)
    simp only [push_cast,seval,reduceEqDiff,sv,hcz,wrap_zip c (done:=cd) (by omega)]
    intros
    exact ⟨_,_,Nat.lt_succ_self _,StLe.drop (over_le hx3 hx2 (by simp [lk])) (Nat.le_refl _),cd++[c],cr,_,lid1,L1,by simp,rfl,hd,by omega,hok3.more (by omega),by omega,(hfr.trans hfr2 (by omega)).trans hf3 (by omega),by rw [hfe];exact hf0,hx3,rfl⟩
  | some kid=>
   have hke:lid≠kid:=fun he=>l2 (kid,.arr 9 1 (s.keys.map V.s)) (by rw [hE];simp [osE]) he.symm
   have hkx:kid≠(x0,6):=hxE (kid,.arr 9 1 (s.keys.map V.s)) (by rw [hE];simp [osE])
   have hkn:kid.1<n:=l3 (kid,.arr 9 1 (s.keys.map V.s)) (by rw [hE];simp [osE])
   have fkl:(kid=lid)=False:=eq_false (Ne.symm hke)
   have flk:(lid=kid)=False:=eq_false hke
   have fkx:(kid=(x0,6))=False:=eq_false hkx
   have fxk:((x0,6)=kid)=False:=eq_false (Ne.symm hkx)
   have fnk:∀k,((m1+1+k,82)=kid)=False:=fun k=>eq_false fun he=>by rw [<-he] at hkn;simp at hkn;omega
   have hTE:∀q∈ossE A++ossE B,q.1≠lid/\q.1≠(x0,6)/\q.1.1<n/\q.1≠kid:=by
    intro q hq
    have hq2:q∈ossE (A++(s,some kid)::B):=by
     rw [hE]
     rcases List.mem_append.1 hq with h|h
     ·exact List.mem_append_left _ h
     ·exact List.mem_append_right _ (List.mem_append_right _ h)
    refine ⟨l2 q hq2,hxE q hq2,l3 q hq2,?_⟩
    rw [hE] at l4
    obtain ⟨n1,n2,n3⟩:=nd_app_inv l4
    obtain ⟨n4,n5,n6⟩:=nd_app_inv n2
    rcases List.mem_append.1 hq with h|h
    ·exact n3 q h (kid,.arr 9 1 (s.keys.map V.s)) (List.mem_append_left _ (by simp [osE]))
    ·exact (n6 (kid,.arr 9 1 (s.keys.map V.s)) (by simp [osE]) q h).symm
   have hTn:((ossE A++ossE B).map (·.1)).Nodup:=by
    rw [hE] at l4
    exact nd_sub l4 ((List.Sublist.refl _).append (List.sublist_append_right _ _))
   have hov:osV (s,some kid) = .agg [.i .i64 s.kind,.s s.name,.arr kid]:=rfl
   have hkl:s.keys.length<=2^26:=by have:=keys_selW (l:=(A++(s,some kid)::B).map (·.1)) (s:=s) (by simp);omega
   simp only [osE,List.cons_append,List.nil_append]
   generalize hT:ossE A++ossE B=T at *
   have hnd0:∀X Y:Ent,(([((x0,6),X),(lid,Y)]++T).map (fun q:Id × Ent=>q.1)).Nodup:=fun X Y=>
    nd_cons (nd_cons hTn fun q hq=>(hTE q hq).1) fun q hq=>by
     rcases List.mem_cons.1 hq with rfl|hq
     ·exact of_eq_false flx
     ·exact (hTE q hq).2.1
   have hin:=c_InA W0 s.keys c.1 kid 9 (by omega)
   have hovk:∀X Y Z:Ent,over [(kid,Z)] [(kid,Z)] (((x0,6),X)::(lid,Y)::(kid,Z)::T)=(kid,Z)::((x0,6),X)::(lid,Y)::T:=fun X Y Z=>
    over_mid (σi:=[(kid,Z)]) (pre:=[((x0,6),X),(lid,Y)]) (post:=T) (fun q hq r hr=>by
     simp at hr;subst hr
     simp at hq
     rcases hq with rfl|rfl
     ·exact of_eq_false fxk
     ·exact of_eq_false flk) (fun q hq r hr=>by simp at hr;subst hr;exact (hTE q hq).2.2.2)
   have hsubk:∀X Y Z:Ent,∀i e,lk [(kid,Z)] i=some e->lk (((x0,6),X)::(lid,Y)::(kid,Z)::T) i=some e:=by
    intro X Y Z i e h
    simp only [lk] at h
    split at h
    ·rename_i h1;subst h1
     simp only [lk,fxk,flk,if_false,if_true];exact h
    ·cases h
   generalize hIN:s.keys.contains c.1=IN at *
   have hset:∀id,(List.map osV (A++(s,some kid)::B)).set A.length (.agg [.i .i64 s.kind,.s s.name,.arr id])=List.map osV (A++((⟨s.kind,s.name,s.keys++[c.1]⟩:Sel),some id)::B):=fun id=>set_map A B (s,some kid) (⟨s.kind,s.name,s.keys++[c.1]⟩,some id)
   have hkm:List.map V.s s.keys++[V.s c.1]=List.map V.s (s.keys++[c.1]):=by simp
   have hlk:s.keys.length+1<=LLim:=by unfold LLim;omega
   have hdT:=del_none (fun q hq=>(hTE q hq).2.2.2)
   cases IN with
   | true=>
    simp only [push_cast,seval,reduceEqDiff,hcz,wrap_zip c (done:=cd) (by omega),if_pos hj2,hov,TR,flx,fxl,fnlid,fkl,flk,fkx,fxk,fnk]
    refine c_calls hin (hsubk _ _ _) ?_
    rw [hovk]
    simp only [push_cast,seval,reduceEqDiff,hcz,wrap_zip c (done:=cd) (by omega),if_pos hj2,hov,TR,flx,fxl,fnlid,fkl,flk,fkx,fxk,fnk]
    intro k5 k6
    obtain ⟨L2,hL2⟩:∃L2,L2=A++(s,some kid)::B:=⟨_,rfl⟩
    obtain ⟨N2,hN2⟩:∃N2,N2=m1:=⟨_,rfl⟩
    have hok2:SelO TR (some lid) L2 N2:=by rw [hL2,hN2];exact hok.more (by omega)
    have hfr2:FreshT n (some lid) (A++(s,some kid)::B) (some lid) L2:=by rw [hL2];exact FreshT.refl _ _ _
    have hspec:((A++(s,some kid)::B).map (·.1)).modify A.length (addKey c.1)=L2.map (·.1):=by
     rw [hL2,mod_map A B (s,some kid) (some kid)]
     simp only [addKey,hIN,if_true]
    have hnd2:=nd_cons (a:=(kid,.arr 9 1 (s.keys.map V.s))) (hnd0 (.box (.agg [V.i .i64 k,.s p.text,.s nm,.s p.style,.sl (List.map Case.enc (cd++c::cr)),.sl (List.map Part.enc p.parts)])) (.arr TR 3 (L2.map osV))) (fun q hq=>by
     rcases List.mem_cons.1 hq with rfl|hq
     ·exact of_eq_false fxk
     ·rcases List.mem_cons.1 hq with rfl|hq
      ·exact of_eq_false flk
      ·exact (hTE q hq).2.2.2)
    have hE2:ossE L2=ossE A++((kid,.arr 9 1 (s.keys.map V.s))::ossE B):=by rw [hL2,ossE_app,ossE_cons];rfl
    have hx2:∀q∈selS TR (some lid) L2,q.1≠(x0,6):=by rw [hL2];exact hx
    have hsub2:∀X:Ent,∀q∈selS TR (some lid) L2,q∈(kid,Ent.arr 9 1 (s.keys.map V.s))::([((x0,6),X),(lid,.arr TR 3 (L2.map osV))]++T):=by
     intro X q hq
     simp only [selS_some,hE2,<-hT,List.mem_cons,List.mem_append] at hq⊢
     rcases hq with h|h|h|h
     ·exact .inr (.inl (.inr (.inl h)))
     ·exact .inr (.inr (.inl h))
     ·exact .inl h
     ·exact .inr (.inr (.inr h))
    rw [<-hL2]
    refine c_callx (hih c hcm (some lid) L2 N2 (by rw [<-hspec];have:=selW_mod ((A++(s,some kid)::B).map (·.1)) A.length c.1;omega) hok2) (sub_of hnd2 (hsub2 _)) (fun n2 v σo hle hR=>?_)
    obtain ⟨lo1,L1,rfl,rfl,hok3,hm3,hf3⟩:=hR
    rw [<-hspec] at hm3
    have hsm:=coll_same _ c.2 (Nat.lt_succ_self _) (((A++(s,some kid)::B).map (·.1)).modify A.length (addKey c.1))
    rw [hsm.1] at hm3
    have hex:=hsm.2
    rw [<-hm3] at hex
    have hext:=(SelExt.mod ((A++(s,some kid)::B).map (·.1)) A.length c.1).trans hex
    have hfe:=findI_ext hext k nm hf0
    have h1:=collPs_w c.2 (((A++(s,some kid)::B).map (·.1)).modify A.length (addKey c.1))
    have h2:=selW_mod ((A++(s,some kid)::B).map (·.1)) A.length c.1
    rw [rcoll_coll] at hd
    rw [<-hm3] at h1 hd
    cases lo1 with
    | none=>have:=hok3.ne rfl;subst this;have:=hext.1;simp at this
    | some lid1=>
     have hx3:∀q∈selS TR (some lid1) L1,q.1≠(x0,6):=by
      intro q hq he
      rcases hf3 q hq with h|h
      ·rw [he] at h;simp only at h;omega
      ·obtain ⟨r,hr,hre⟩:=List.mem_map.1 h
       exact hx2 r hr (hre.trans he)
     simp only [push_cast,seval,reduceEqDiff,sv,hcz,wrap_zip c (done:=cd) (by omega)]
     intros
     exact ⟨_,_,Nat.lt_succ_self _,StLe.drop (over_le hx3 hx2 (by simp [lk,fkx,fxk])) (Nat.le_refl _),cd++[c],cr,_,lid1,L1,by simp,rfl,hd,by omega,hok3.more (by omega),by omega,(hfr.trans hfr2 (by omega)).trans hf3 (by omega),by rw [hfe];exact hf0,hx3,rfl⟩
   | false=>
    simp only [push_cast,seval,reduceEqDiff,hcz,wrap_zip c (done:=cd) (by omega),if_pos hj2,hov,TR,flx,fxl,fnlid,fkl,flk,fkx,fxk,fnk,eq_true hlk,hset,hdT,hkm,List.length_map]
    refine c_calls hin (hsubk _ _ _) ?_
    rw [hovk]
    simp only [push_cast,seval,reduceEqDiff,hcz,wrap_zip c (done:=cd) (by omega),if_pos hj2,hov,TR,flx,fxl,fnlid,fkl,flk,fkx,fxk,fnk,eq_true hlk,hset,hdT,hkm,List.length_map]
    intro k7 k5 k6
    obtain ⟨L2,hL2⟩:∃L2,L2=A++((⟨s.kind,s.name,s.keys++[c.1]⟩:Sel),some (m1+1+k7,82))::B:=⟨_,rfl⟩
    obtain ⟨N2,hN2⟩:∃N2,N2=m1+1+k7+1:=⟨_,rfl⟩
    have hok2:SelO TR (some lid) L2 N2:=by rw [hL2,hN2];exact hok.key (by simp;omega) (by simp) _
    have hfr2:FreshT n (some lid) (A++(s,some kid)::B) (some lid) L2:=by rw [hL2];exact FreshT.key (by simp;omega) _
    have hspec:((A++(s,some kid)::B).map (·.1)).modify A.length (addKey c.1)=L2.map (·.1):=by
     rw [hL2,mod_map A B (s,some kid) (some (m1+1+k7,82))]
     simp only [addKey,hIN,if_false,Bool.false_eq_true]
    have hnd2:=nd_cons (a:=((m1+1+k7,82),.arr 9 1 ((s.keys++[c.1]).map V.s))) (hnd0 (.box (.agg [V.i .i64 k,.s p.text,.s nm,.s p.style,.sl (List.map Case.enc (cd++c::cr)),.sl (List.map Part.enc p.parts)])) (.arr TR 3 (L2.map osV))) (fun q hq=>by
     rcases List.mem_cons.1 hq with rfl|hq
     ·intro he;injection he with h1 h2;cases h2
     ·rcases List.mem_cons.1 hq with rfl|hq
      ·exact fun he=>of_eq_false (fnlid k7) he.symm
      ·intro he;have:=(hTE q hq).2.2.1;rw [he] at this;simp at this;omega)
    have hE2:ossE L2=ossE A++(((m1+1+k7,82),.arr 9 1 ((s.keys++[c.1]).map V.s))::ossE B):=by rw [hL2,ossE_app,ossE_cons];rfl
    have hx2:∀q∈selS TR (some lid) L2,q.1≠(x0,6):=by
     intro q hq
     rcases List.mem_cons.1 (by rw [<-selS_some];exact hq) with rfl|hq
     ·exact of_eq_false flx
     ·rw [hE2] at hq
      rcases List.mem_append.1 hq with h|h
      ·exact (hTE q (by rw [<-hT];exact List.mem_append_left _ h)).2.1
      ·rcases List.mem_cons.1 h with rfl|h
       ·intro he;injection he with h1 h2;cases h2
       ·exact (hTE q (by rw [<-hT];exact List.mem_append_right _ h)).2.1
    have hsub2:∀X:Ent,∀q∈selS TR (some lid) L2,q∈((m1+1+k7,82),Ent.arr 9 1 ((s.keys++[c.1]).map V.s))::([((x0,6),X),(lid,.arr TR 3 (L2.map osV))]++T):=by
     intro X q hq
     simp only [selS_some,hE2,<-hT,List.mem_cons,List.mem_append] at hq⊢
     rcases hq with h|h|h|h
     ·exact .inr (.inl (.inr (.inl h)))
     ·exact .inr (.inr (.inl h))
     ·exact .inl h
     ·exact .inr (.inr (.inr h))
    rw [<-hL2]
    refine c_callx (hih c hcm (some lid) L2 N2 (by rw [<-hspec];have:=selW_mod ((A++(s,some kid)::B).map (·.1)) A.length c.1;omega) hok2) (sub_of hnd2 (hsub2 _)) (fun n2 v σo hle hR=>?_)
    obtain ⟨lo1,L1,rfl,rfl,hok3,hm3,hf3⟩:=hR
    rw [<-hspec] at hm3
    have hsm:=coll_same _ c.2 (Nat.lt_succ_self _) (((A++(s,some kid)::B).map (·.1)).modify A.length (addKey c.1))
    rw [hsm.1] at hm3
    have hex:=hsm.2
    rw [<-hm3] at hex
    have hext:=(SelExt.mod ((A++(s,some kid)::B).map (·.1)) A.length c.1).trans hex
    have hfe:=findI_ext hext k nm hf0
    have h1:=collPs_w c.2 (((A++(s,some kid)::B).map (·.1)).modify A.length (addKey c.1))
    have h2:=selW_mod ((A++(s,some kid)::B).map (·.1)) A.length c.1
    rw [rcoll_coll] at hd
    rw [<-hm3] at h1 hd
    cases lo1 with
    | none=>have:=hok3.ne rfl;subst this;have:=hext.1;simp at this
    | some lid1=>
     have hx3:∀q∈selS TR (some lid1) L1,q.1≠(x0,6):=by
      intro q hq he
      rcases hf3 q hq with h|h
      ·rw [he] at h;simp only at h;omega
      ·obtain ⟨r,hr,hre⟩:=List.mem_map.1 h
       exact hx2 r hr (hre.trans he)
     simp only [push_cast,seval,reduceEqDiff,sv,hcz,wrap_zip c (done:=cd) (by omega)]
     intros
     exact ⟨_,_,Nat.lt_succ_self _,StLe.drop (over_le hx3 hx2 (by simp [lk,fkx,fxk])) (Nat.le_refl _),cd++[c],cr,_,lid1,L1,by simp,rfl,hd,by omega,hok3.more (by omega),by omega,(hfr.trans hfr2 (by omega)).trans hf3 (by omega),by rw [hfe];exact hf0,hx3,rfl⟩
theorem freshT_ne {lo lo':Option Id} {L L':List OS} {n m:Nat} {id:Id} (h:SelO TR lo L m) (hm:m<=id.1) (hn:id.1<n) (hf:FreshT n lo L lo' L'):∀p∈selS TR lo' L',p.1≠id:=by
 intro p hp he
 rcases hf p hp with h1|h1
 ·rw [he] at h1;omega
 ·obtain ⟨q,hq,hqe⟩:=List.mem_map.1 h1
  have:=h.lt q hq
  rw [hqe,he] at this;omega
theorem rcollCs_w (cs:List Case) (k:Int) (nm:Bytes) (l:List Sel):selW (rcollCs cs k nm l)<=selW l+wtCs cs:=by
 induction cs generalizing l with
 | nil=>simp [rcollCs]
 | cons c cs ih=>
  rw [rcollCs_cons,wtCs_cons,rcoll_coll]
  have h1:=collPs_w c.2 (l.modify (findI l k nm).toNat (addKey c.1));have h2:=ih (collPs c.2 (l.modify (findI l k nm).toNat (addKey c.1)));have h3:=selW_mod l (findI l k nm).toNat c.1;omega
set_option maxHeartbeats 4000000 in
theorem c_rCollect:∀(N:Nat) (ps:List Part) (lo0:Option Id) (L0:List OS) (n1:Nat),wtPs ps<N->selW (L0.map (·.1))+wtPs ps<=2^26->SelO TR lo0 L0 n1->
  RetE Tryz.prog W0 124 [sv lo0,.sl (ps.map Part.enc)] (selS TR lo0 L0) (CollR lo0 L0 (rcollPs ps (L0.map (·.1)))):=by
 intro N
 induction N with
 | zero=>intro ps lo0 L0 n1 h;omega
 | succ N ih=>
 intro ps lo0 L0 n1 hN hb hok0
 have hlen:=len_wtPs ps
 generalize hS:rcollPs ps (L0.map (·.1))=S
 refine fn_retEW f124ok (by simp) fun n0 hn0=>?_
 have hok:SelO TR lo0 L0 n0:=by
  have hl:∀p∈selS TR lo0 L0,p.1.1<n0:=fun p hp=>hn0 p.1 p.2 (mem_lk_of hok0.nd hp)
  exact ⟨hok0.nd,hl,hok0.ne,hok0.kn⟩
 clear hn0 hok0
 simp only [push_cast,seval,reduceEqDiff]
 intro k1 k1b
 refine aWP_loopW ps.length (Inv:=fun m st=>∃done rest n lo L,ps=done++rest/\m=rest.length/\rcollPs rest (L.map (·.1))=S/\selW (L.map (·.1))+wtPs rest<=2^26/\SelO TR lo L n/\n0<=n/\FreshT n0 lo0 L0 lo L/\st=⟨[(0,sv lo),(1,.sl (ps.map Part.enc)),(5,.i .i64 done.length)],selS TR lo L,n⟩) ⟨_,StLe.refl,[],ps,_,lo0,L0,rfl,rfl,hS,hb,?_,?_,?_,rfl⟩ ?_
 ·exact hok.more (by omega)
 ·omega
 ·exact FreshT.refl _ _ _
 clear hS hok
 rintro m _ ⟨done,rest,n,lo,L,hz,rfl,hd,hw,hok,hn0,hfr,rfl⟩
 cases rest with
 | nil=>
  rw [rcollPs] at hd
  simp only [push_cast,seval,reduceEqDiff,hz]
  intro k2 k3
  exact ⟨_,StLe.refl,[sv lo],_,⟨rfl,trivial⟩,fun _ _ h=>h,lo,L,rfl,rfl,hok.more (by simp only;omega),hd,hfr⟩
 | cons p rest=>
  have hbd:=zip_bd hz
  have hwp:=wtPs_mem (ps:=ps) (p:=p) (by rw [hz];simp)
  rw [wtPs_cons] at hw
  have hpw:=p.wt_eq
  rw [rcollPs_cons,p.rcoll_eq] at hd
  simp only [push_cast,seval,reduceEqDiff,hz,wrap_zip p (done:=done) (by omega)]
  intro k2 k3 k4
  refine c_callx (ih p.parts lo L n (by omega) (by omega) hok) (fun i e h=>lk_drop1 (lk_none_of fun q hq he=>?_) i e h) (fun n2 v σo hle hR=>?_)
  ·have:=hok.lt q hq;rw [he] at this;simp at this;omega
  obtain ⟨lo1,L1,rfl,rfl,hok1,hm1,hf1⟩:=hR
  have hx1:∀q∈selS TR lo1 L1,q.1≠(n+1+k2,6):=freshT_ne hok (by simp;omega) (by simp;omega) hf1
  have hcall:=collPs_w p.parts (L.map (·.1))
  rw [<-rcoll_coll,<-hm1] at hcall
  rw [<-hm1] at hd
  have hfr1:=hfr.trans hf1 (by omega)
  have hn1:n0<=n2:=by omega
  clear hfr hf1 hm1
  have hxo:∀X:Ent,∀q∈[((n+1+k2,6),X)],∀r∈selS TR lo L,q.1≠r.1:=by
   intro X q hq r hr he
   simp at hq;subst hq
   have:=hok.lt r hr;rw [<-he] at this;simp at this;omega
  rw [show ∀a:Id × Ent,a::selS TR lo L=[a]++selS TR lo L from fun _=>rfl,over_pre (hxo _)]
  clear hxo hok
  simp only [push_cast,seval,reduceEqDiff,hz,wrap_zip p (done:=done) (by omega)]
  intro k5
  have hndx:∀X:Ent,((selS TR lo1 L1++[((n+1+k2,6),X)]).map (fun q:Id × Ent=>q.1)).Nodup:=fun X=>nd_snoc hok1.nd hx1
  refine wkW_i (StLe.sub (hndx _) (σ':=[_]++selS TR lo1 L1) (fun q hq=>by rcases List.mem_append.1 hq with h|h;exact List.mem_append_right _ h;exact List.mem_append_left _ h) (Nat.le_refl _)) ?_
  have hx0:n+1+k2<n2:=by omega
  clear hndx hle
  generalize n+1+k2=x0 at *
  have hok1:=hok1.more (show n2<=n2+1+k5 by omega)
  generalize hn3:n2+1+k5=n3 at *
  have hsel:=c_rSel W0 p.kind
  have hLl:=len_selW (L1.map (·.1))
  rw [List.length_map] at hLl
  rcases Bool.eq_false_or_eq_true (selB p.kind) with hs|hs
  rotate_left
  ·rw [hs] at hd hsel
   simp only [bq,if_true,if_false,Int.reduceBEq,reduceCtorEq] at hd
   simp only [push_cast,seval,reduceEqDiff,hz,wrap_zip p (done:=done) (by omega)]
   repeat' (first|(((first|apply condU_s|apply gdU_t|apply gdU_f)<;>intro _h)<;>simp only [push_cast,seval,reduceEqDiff,_h,hz,wrap_zip p (done:=done) (by omega)])|(refine c_call (by exact hsel) ?_;simp only [push_cast,seval,reduceEqDiff,hz,wrap_zip p (done:=done) (by omega)])|intro _)
   exact ⟨_,_,Nat.lt_succ_self _,StLe.drop1 (lk_none_of hx1) (Nat.le_refl _),done++[p],rest,_,lo1,L1,by simp,rfl,hd,by omega,hok1.more (by omega),by omega,hfr1,rfl⟩
  ·rw [hs] at hd hsel
   simp only [bq,if_true,if_false,Int.reduceBEq,reduceCtorEq] at hd
   have hFI:=idxI_lo (selIs p.kind p.name) (L1.map (·.1))
   cases lo1 with
   | none=>
    have hL1:=hok1.ne rfl
    subst hL1
    have hfi:=c_rFindN W0 p.kind p.name
    have hSA:selAdd (([]:List OS).map (·.1)) p.kind p.name=[⟨p.kind,p.name,[]⟩]:=rfl
    rw [hSA] at hd
    have hsv:sv none = .nil:=rfl
    have hT0:selS TR none []=[]:=rfl
    have fnew:∀k,((n3+1+k,41)=(x0,6))=False:=fun k=>eq_false fun he=>by injection he with h1 h2;cases h2
    simp only [push_cast,seval,reduceEqDiff,hz,wrap_zip p (done:=done) (by omega),eq_true (show 1<=LLim by decide),hsv,show (decide True)=true from rfl,hT0]
    repeat' (first|(((first|apply condU_s|apply gdU_t|apply gdU_f)<;>intro _h)<;>simp only [push_cast,seval,reduceEqDiff,_h,hz,wrap_zip p (done:=done) (by omega),eq_true (show 1<=LLim by decide),hsv,show (decide True)=true from rfl,hT0])|(refine c_call (by exact hsel) ?_;simp only [push_cast,seval,reduceEqDiff,hz,wrap_zip p (done:=done) (by omega),eq_true (show 1<=LLim by decide),hsv,show (decide True)=true from rfl,hT0])|intro _)
    refine c_calls hfi (fun _ _ h=>by cases h) ?_
    rw [over_nil]
    simp only [push_cast,seval,reduceEqDiff,hz,wrap_zip p (done:=done) (by omega),eq_true (show 1<=LLim by decide),hsv,show (decide True)=true from rfl,hT0]
    rename_i k5'
    intro k6 k7 k8
    obtain ⟨L1,hL1⟩:∃L1:List OS,L1=[]:=⟨[],rfl⟩
    obtain ⟨L2,hL2⟩:∃L2,L2=L1++[((⟨p.kind,p.name,[]⟩:Sel),none)]:=⟨_,rfl⟩
    have hmap:L2.map (·.1)=[⟨p.kind,p.name,[]⟩]:=by rw [hL2,hL1];rfl
    rw [<-hL1] at hfr1 hok1 hcall
    obtain ⟨ni,hni⟩:∃ni,ni=n3+1+k5'+1+k6:=⟨_,rfl⟩
    have hok2:SelO TR (some (ni,41)) L2 (ni+1):=by rw [hL2];exact hok1.add (by simp;omega) (by simp) _ _
    have hfr2:FreshT n3 none L1 (some (ni,41)) L2:=by rw [hL2];exact FreshT.add (by simp;omega) _ _
    rw [<-hni]
    have hf:¬findI (L2.map (·.1)) p.kind p.name<0:=by rw [hmap];simp [findI,idxI,selIs]
    have hE2:ossE L2=[]:=by rw [hL2,hL1];rfl
    have hV2:L2.map osV=[V.agg [V.i .i64 p.kind,.s p.name,.nil]]:=by rw [hL2,hL1];rfl
    have hx2:∀q∈selS TR (some (ni,41)) L2,q.1≠(x0,6):=by
     intro q hq
     simp [selS_some,hE2] at hq;subst hq
     intro he;injection he with h1 h2;cases h2
    refine loopW_le (StLe.sub (nd_cons (nd_cons (by simp) (by simp)) (fun q hq=>by simp at hq;subst hq;intro he;injection he with h1 h2;cases h2)) (σ':=((x0,6),.box p.v)::selS TR (some (ni,41)) L2) (fun q hq=>?_) (Nat.le_refl _)) (rcoll_cs W0 p p.kind p.name rfl rfl x0 (ni,41) L2 _ _ _ _ (by omega) (fun x hx lo L n1 h1 h2=>ih x.2 lo L n1 (by have:=wtCs_mem hx;omega) h1 h2) (by rw [hmap];simp [selW];omega) (hok2.more (by omega)) hf hx2 (by omega) ?_)
    ·simp only [selS_some,hE2,hV2,List.mem_cons,List.not_mem_nil,or_false] at hq⊢
     rcases hq with h|h
     ·exact .inr h
     ·exact .inl h
    ·intro lid3 L3 n5 hm3 hok3 hn5 hf3 hx3
     rw [hmap] at hm3
     have hcw:=rcollCs_w p.cases p.kind p.name [⟨p.kind,p.name,[]⟩]
     rw [<-hm3] at hcw hd
     simp only [selW,List.length_nil] at hcw
     unfold Part.v
     simp only [push_cast,seval,reduceEqDiff,hz,wrap_zip p (done:=done) (by omega)]
     intros
     exact ⟨_,_,Nat.lt_succ_self _,StLe.drop1 (lk_none_of hx3) (Nat.le_refl _),done++[p],rest,_,some lid3,L3,by simp,rfl,hd,by omega,hok3.more (by omega),by omega,(hfr1.trans hfr2 (by omega)).trans hf3 (by omega),rfl⟩
   | some lid=>
    obtain ⟨l1,l2,l3,l4⟩:=hok1.arr
    have flx:(lid=(x0,6))=False:=eq_false (hx1 (lid,.arr TR 3 (L1.map osV)) (by simp [selS_some]))
    have fxl:((x0,6)=lid)=False:=eq_false fun he=>of_eq_false flx he.symm
    have hdl:=del_none l2
    have hxE:∀q∈ossE L1,q.1≠(x0,6):=fun q hq=>hx1 q (by rw [selS_some];exact List.mem_cons_of_mem _ hq)
    have hfi:=c_rFindA W0 p.kind p.name lid L1 (by omega)
    have hsub:∀X:Ent,∀i e,lk [(lid,.arr TR 3 (L1.map osV))] i=some e->lk (((x0,6),X)::(lid,.arr TR 3 (L1.map osV))::ossE L1) i=some e:=by
     intro X i e h
     simp only [lk] at h
     split at h
     ·rename_i h1;subst h1;simp only [lk,fxl,if_false,if_true];exact h
     ·cases h
    have hov:∀X:Ent,over [(lid,.arr TR 3 (L1.map osV))] [(lid,.arr TR 3 (L1.map osV))] (((x0,6),X)::(lid,.arr TR 3 (L1.map osV))::ossE L1)=(lid,.arr TR 3 (L1.map osV))::((x0,6),X)::ossE L1:=fun X=>
     over_mid (σi:=[(lid,.arr TR 3 (L1.map osV))]) (pre:=[((x0,6),X)]) (post:=ossE L1) (fun q hq r hr=>by simp at hq hr;subst hq hr;exact of_eq_false fxl) (fun q hq r hr=>by simp at hr;subst hr;exact l2 q hq)
    have hsv:sv (some lid) = .arr lid:=rfl
    generalize hfI:findI (L1.map (·.1)) p.kind p.name=FI at *
    simp only [selS_some,List.cons_append,List.nil_append]
    simp only [push_cast,seval,reduceEqDiff,hz,wrap_zip p (done:=done) (by omega),hsv,flx,fxl]
    repeat' (first|(((first|apply condU_s|apply gdU_t|apply gdU_f)<;>intro _h)<;>simp only [push_cast,seval,reduceEqDiff,_h,hz,wrap_zip p (done:=done) (by omega),hsv,flx,fxl])|(refine c_call (by exact hsel) ?_;simp only [push_cast,seval,reduceEqDiff,hz,wrap_zip p (done:=done) (by omega),hsv,flx,fxl])|intro _)
    rename_i k5'
    refine c_calls hfi (hsub _) ?_
    rw [hov]
    clear hov hsub
    by_cases hneg:FI<0
    ·have hneg':decide (FI<0)=true:=by simpa using hneg
     have hll:L1.length+1<=LLim:=by unfold LLim;omega
     have hSA:selAdd (L1.map (·.1)) p.kind p.name=L1.map (·.1)++[⟨p.kind,p.name,[]⟩]:=by unfold selAdd;rw [hfI,if_pos hneg]
     rw [hSA] at hd
     have hnv:List.map osV L1++[V.agg [V.i .i64 p.kind,.s p.name,.nil]]=List.map osV (L1++[((⟨p.kind,p.name,[]⟩:Sel),none)]):=by simp [osV,sv]
     simp only [push_cast,seval,reduceEqDiff,hz,flx,fxl,isA_arr',hdl,hneg',eq_true hll,TR,List.length_map,hnv]
     intro k6 k7 k8
     obtain ⟨L2,hL2⟩:∃L2,L2=L1++[((⟨p.kind,p.name,[]⟩:Sel),none)]:=⟨_,rfl⟩
     have hmap:L2.map (·.1)=L1.map (·.1)++[⟨p.kind,p.name,[]⟩]:=by rw [hL2];simp
     obtain ⟨ni,hni⟩:∃ni,ni=n3+1+k5'+1+k6:=⟨_,rfl⟩
     have hok2:SelO TR (some (ni,41)) L2 (ni+1):=by rw [hL2];exact hok1.add (by simp;omega) (by simp) _ _
     have hfr2:FreshT n3 (some lid) L1 (some (ni,41)) L2:=by rw [hL2];exact FreshT.add (by simp;omega) _ _
     rw [<-hni,<-hL2]
     have hf:¬findI (L2.map (·.1)) p.kind p.name<0:=by rw [hmap,findI_end _ _ _ (by rw [hfI];exact hneg)];omega
     have hE2:ossE L2=ossE L1:=by rw [hL2,ossE_app];simp [ossE,osE]
     have hx2:∀q∈selS TR (some (ni,41)) L2,q.1≠(x0,6):=by
      intro q hq
      rcases List.mem_cons.1 (by rw [<-selS_some];exact hq) with rfl|hq
      ·intro he;injection he with h1 h2;cases h2
      ·rw [hE2] at hq;exact hxE q hq
     refine loopW_le (StLe.sub (nd_cons (nd_cons l4 hxE) (fun q hq=>by
       rcases List.mem_cons.1 hq with rfl|hq
       ·intro he;injection he with h1 h2;cases h2
       ·intro he;have:=l3 q hq;rw [he] at this;simp at this;omega)) (σ':=((x0,6),.box p.v)::selS TR (some (ni,41)) L2) (fun q hq=>?_) (Nat.le_refl _)) (rcoll_cs W0 p p.kind p.name rfl rfl x0 (ni,41) L2 _ _ _ _ (by omega) (fun x hx lo L n1 h1 h2=>ih x.2 lo L n1 (by have:=wtCs_mem hx;omega) h1 h2) (by rw [hmap,selW_app];simp [selW];omega) (hok2.more (by omega)) hf hx2 (by omega) ?_)
     ·simp only [selS_some,hE2,List.mem_cons] at hq⊢
      rcases hq with h|h|h
      ·exact .inr (.inl h)
      ·exact .inl h
      ·exact .inr (.inr h)
     ·intro lid3 L3 n5 hm3 hok3 hn5 hf3 hx3
      rw [hmap] at hm3
      have hcw:=rcollCs_w p.cases p.kind p.name (L1.map (·.1)++[⟨p.kind,p.name,[]⟩])
      rw [<-hm3] at hcw hd
      simp only [selW_app,selW,List.length_nil] at hcw
      unfold Part.v
      simp only [push_cast,seval,reduceEqDiff,hz,wrap_zip p (done:=done) (by omega)]
      intros
      exact ⟨_,_,Nat.lt_succ_self _,StLe.drop1 (lk_none_of hx3) (Nat.le_refl _),done++[p],rest,_,some lid3,L3,by simp,rfl,hd,by omega,hok3.more (by omega),by omega,(hfr1.trans hfr2 (by omega)).trans hf3 (by omega),rfl⟩
    ·have hneg':decide (FI<0)=false:=by simpa using hneg
     have hSA:selAdd (L1.map (·.1)) p.kind p.name=L1.map (·.1):=by unfold selAdd;rw [hfI,if_neg hneg]
     rw [hSA] at hd
     simp only [push_cast,seval,reduceEqDiff,hz,flx,fxl,hneg',TR,List.length_map]
     intro k6 k7
     refine loopW_le (StLe.sub (nd_cons (a:=(lid,.arr 110 3 (L1.map osV))) (nd_cons l4 hxE) (fun q hq=>by
       rcases List.mem_cons.1 hq with rfl|hq
       ·exact of_eq_false fxl
       ·exact l2 q hq)) (σ':=((x0,6),.box p.v)::selS TR (some lid) L1) (fun q hq=>?_) (Nat.le_refl _)) (rcoll_cs W0 p p.kind p.name rfl rfl x0 lid L1 _ _ _ _ (by omega) (fun x hx lo L n1 h1 h2=>ih x.2 lo L n1 (by have:=wtCs_mem hx;omega) h1 h2) (by omega) (hok1.more (by omega)) (by rw [hfI];exact hneg) hx1 (by omega) ?_)
     ·simp only [selS_some,List.mem_cons] at hq⊢
      rcases hq with h|h|h
      ·exact .inr (.inl h)
      ·exact .inl h
      ·exact .inr (.inr h)
     ·intro lid3 L3 n5 hm3 hok3 hn5 hf3 hx3
      have hcw:=rcollCs_w p.cases p.kind p.name (L1.map (·.1))
      rw [<-hm3] at hcw hd
      unfold Part.v
      simp only [push_cast,seval,reduceEqDiff,hz,wrap_zip p (done:=done) (by omega)]
      intros
      exact ⟨_,_,Nat.lt_succ_self _,StLe.drop1 (lk_none_of hx3) (Nat.le_refl _),done++[p],rest,_,some lid3,L3,by simp,rfl,hd,by omega,hok3.more (by omega),by omega,hfr1.trans hf3 (by omega),rfl⟩
theorem selFrzT {W0:World} {nt n n':Nat} {env:Env} {lid:Id} {L:List OS} (h:SelO TR (some lid) L n) (hn:n<=n') :
  StLe W0 nt ⟨env,selS TR (some lid) L,n⟩ ⟨env,[(lid,.arr TR 3 (L.map fun x=>x.1.enc))],n'⟩:=by
 obtain ⟨l1,l2,l3,l4⟩:=h.arr
 refine StLe.weak (phiS L) (fun i es hi=>?_) (fun t=>.refl _) (fun i e' hl=>?_) hn
 ·obtain ⟨e,sz,hl⟩:=phiS_some hi
  have hm:=lk_mem_of hl
  refine ⟨⟨e,sz,mem_lk_of h.nd ?_⟩,?_⟩
  ·rw [selS_some];exact List.mem_cons_of_mem _ hm
  ·refine lk_none_of fun p hp=>?_
   simp at hp
   subst hp
   exact fun he=>l2 _ hm he.symm
 ·have hm:=lk_mem_of hl
  simp at hm
  obtain ⟨rfl,rfl⟩:=hm
  refine ⟨.arr TR 3 (L.map osV),mem_lk_of h.nd (by simp [selS_some]),.arr _ _ _ _ (by simp) fun k c c' h1 h2=>?_⟩
  simp only [List.getElem?_map,Option.map_eq_some_iff] at h1 h2
  obtain ⟨x,hx,rfl⟩:=h1
  obtain ⟨y,hy,rfl⟩:=h2
  rw [hx] at hy;cases hy
  have hxm:=List.mem_of_getElem? hx
  exact ⟨vle_sel h l4 hxm,rfl,by unfold osV sv;cases x.2<;>rfl,rfl⟩
set_option maxHeartbeats 4000000 in
theorem c_rSelectors (ps:List Part) (hb:wtPs ps<=2^24) (hne:∀s∈collPs ps [],(s.kind == 9)=false->∀k∈s.keys,k≠[]):RetS Tryz.prog W0 58 [.sl (ps.map Part.enc)] [] (.sl ((selsP ps).map Sel.enc)) []:=by
 generalize hS:selsP ps=S
 refine fn_retW (vs:=[.sl (S.map Sel.enc)]) f58ok (by simp) (by simp) fun n0 hn0=>?_
 clear hn0
 simp only [push_cast,seval,reduceEqDiff]
 intro k1 k2
 have hc0:SelO TR none [] n0:=⟨by simp [selS_none,ossE],by simp [selS_none,ossE],fun _=>rfl,by simp⟩
 refine c_callx (c_rCollect W0 _ ps none [] _ (Nat.lt_succ_self _) (by simp [selW];omega) hc0) (fun _ _ h=>h) (fun n2 v σo hle hR=>?_)
 obtain ⟨lo,L,rfl,rfl,hok,hm,_⟩:=hR
 have hcw:=collPs_w ps []
 rw [show ([]:List OS).map (·.1)=([]:List Sel) from rfl,rcoll_coll] at hm
 rw [<-hm] at hcw hne
 simp only [selW] at hcw
 have hlen:=len_selW (L.map (·.1))
 rw [List.length_map] at hlen
 simp only [push_cast,seval,reduceEqDiff]
 intro k4
 rw [show over (selS TR none []) (selS TR lo L) []=selS TR lo L by simp [over]]
 cases lo with
 | none=>
  have hL:=hok.ne rfl
  subst hL
  refine wkW_i (StLe.pre (σ:=[]) (Nat.le_refl _)) ?_
  have hS0:S=[]:=by rw [<-hS];unfold selsP;rw [<-hm];rfl
  subst hS0
  have hsv:sv none = .nil:=rfl
  simp only [push_cast,seval,reduceEqDiff,hsv]
  intros
  refine aWP_loopW 0 (Inv:=fun m st=>∃n,st=⟨[(3,.nil),(4,.i .i64 0)],[],n⟩) ⟨_,StLe.refl,_,rfl⟩ ?_
  rintro m _ ⟨n,rfl⟩
  simp only [push_cast,seval,reduceEqDiff,hsv,show (decide False)=false from rfl]
  intros
  exact finW_nil rfl
 | some lid=>
  refine wkW_i (selFrzT (hok.more (by omega)) (Nat.le_refl _)) ?_
  obtain ⟨l1,l2,l3,l4⟩:=hok.arr
  have hS1:(L.map (·.1)).map Sel.ord=S:=by rw [hm,<-hS];rfl
  have hkl:∀s∈L.map (·.1),s.keys.length<=2^26:=fun s hs=>by have:=keys_selW hs;omega
  rw [show (L.map fun x=>x.1.enc)=(L.map (·.1)).map Sel.enc by simp]
  have hlen2:(L.map (·.1)).length<=2^26:=by rw [List.length_map];omega
  generalize L.map (·.1)=M at *
  clear hok hm hcw hlen l2 l3 l4
  have hsv:sv (some lid) = .arr lid:=rfl
  simp only [push_cast,seval,reduceEqDiff,TR,List.length_map,hsv]
  intros
  refine aWP_loopW M.length (Inv:=fun m st=>∃done rest n,M=done++rest/\m=rest.length/\st=⟨[(3,.arr lid),(4,.i .i64 done.length)],[(lid,.arr TR 3 ((done.map Sel.ord++rest).map Sel.enc))],n⟩) ⟨_,StLe.refl,[],M,_,rfl,rfl,rfl⟩ ?_
  rintro m _ ⟨done,rest,n,hz,rfl,rfl⟩
  have hlX:((done.map Sel.ord++rest)).length=M.length:=by rw [hz];simp
  cases rest with
  | nil=>
   have hlt0:decide ((done.length:Int)<(M.length:Int))=false:=by rw [hz];simp
   have hS2:done.map Sel.ord=S:=by rw [<-hS1,hz];simp
   rw [List.append_nil] at hlX
   rw [List.append_nil,hS2]
   rw [hS2] at hlX
   simp only [push_cast,seval,reduceEqDiff,hlt0,List.length_map,hlX]
   repeat' (first|(((first|apply condU_s|apply gdU_t|apply gdU_f)<;>intro _h)<;>simp only [push_cast,seval,reduceEqDiff,_h,hlt0,List.length_map,hlX])|intro _)
   exact finW_frz (e:=TR) (sz:=3) rfl (okSel _) (by simp [lk])
  | cons s rest=>
   have hb2:=zip_bd hz
   have hlt0:decide ((done.length:Int)<(M.length:Int))=true:=by simp;omega
   have hor:=c_rOrdered W0 s.kind s.keys (hkl s (by rw [hz];simp)) (hne s (by rw [hz];simp))
   have hget:((done.map Sel.ord++s::rest).map Sel.enc)[done.length]? = some s.enc:=by
    rw [List.getElem?_map,List.getElem?_append_right (by simp)];simp
   have hset:((done.map Sel.ord++s::rest).map Sel.enc).set done.length (.agg [.i .i64 s.kind,.s s.name,.sl ((ordK s.kind s.keys).map V.s)])=(((done++[s]).map Sel.ord)++rest).map Sel.enc:=by
    simp [List.set_append,Sel.ord,Sel.enc]
   have hltl:done.length<((done.map Sel.ord++s::rest)).length:=by simp
   generalize hXX:(done.map Sel.ord++s::rest)=XX at *
   simp only [push_cast,seval,reduceEqDiff,hlt0,hget,hset,if_pos hb2,TR,List.length_map,wrap_zip s (done:=done) (by omega),hlX]
   repeat' (first|(((first|apply condU_s|apply gdU_t|apply gdU_f)<;>intro _h)<;>simp only [push_cast,seval,reduceEqDiff,_h,hlt0,hget,hset,if_pos hb2,TR,List.length_map,wrap_zip s (done:=done) (by omega),hlX])|(refine c_call (by exact hor) ?_;simp only [push_cast,seval,reduceEqDiff,hlt0,hget,hset,if_pos hb2,TR,List.length_map,wrap_zip s (done:=done) (by omega),hlX])|intro _)
   exact ⟨_,_,Nat.lt_succ_self _,StLe.refl,done++[s],rest,_,by rw [hz];simp,rfl,rfl⟩
def combP (n:Nat):List Sel->Nat
 | []=>n
 | s::l=>if 400<n*s.keys.length then n*s.keys.length else combP (n*s.keys.length) l
def combR (n:Nat):List Sel->Nat
 | []=>n
 | s::l=>combR (min (n*s.keys.length) 401) l
theorem c_comb (L:List Sel) (hl:L.length<=2^40) (hk:∀s∈L,s.keys.length<=2^40):RetS Tryz.prog W0 55 [.sl (L.map Sel.enc)] [] (.i .i64 (combP 1 L)) []:=by
 generalize hS:combP 1 L=S
 refine fn_retW (vs:=[.i .i64 S]) f55ok (by simp) (by simp) fun n0 hn0=>?_
 clear hn0
 simp only [push_cast,seval,reduceEqDiff]
 intros
 refine aWP_loopW L.length (Inv:=fun m st=>∃done rest n x k,L=done++rest/\m=rest.length/\combP k rest=S/\k<=400/\x=(k:Int)/\st=⟨[(3,.i .i64 x),(6,.sl (L.map Sel.enc)),(7,.i .i64 L.length),(8,.i .i64 done.length)],[],n⟩) ⟨_,StLe.refl,[],L,_,_,1,rfl,rfl,hS,by omega,rfl,rfl⟩ ?_
 clear hS
 rintro m _ ⟨done,rest,n,x,k,hz,rfl,hd,hk4,hx,rfl⟩
 cases rest with
 | nil=>
  rw [combP] at hd
  subst hd hx
  simp only [push_cast,seval,reduceEqDiff,hz]
  repeat' (first|(((first|apply condU_s|apply gdU_t|apply gdU_f)<;>intro _h)<;>(simp only [push_cast,seval,reduceEqDiff,_h];try (have _g:=_h;simp at _g)))|intro _)
  all_goals (first|(refine finW_ret ?_;simp [get]<;>(intros;omega);done)|(refine finW_rets ?_;simp [push_cast,get];done)|skip)
 | cons s rest=>
  have hb:=zip_bd hz
  have hks:=hk s (by rw [hz];simp)
  have hm:k*s.keys.length<=400*2^40:=Nat.mul_le_mul hk4 hks
  have hm2:(x*(s.keys.length:Int))=((k*s.keys.length:Nat):Int):=by rw [hx];simp
  rw [combP] at hd
  generalize hM:k*s.keys.length=M at *
  have hw:IntKind.i64.wrap (M:Int)=M:=by simp (disch:=omega) only [wrap64]
  by_cases h4:400<M
  ·have h4':decide ((M:Int)>400)=true:=by simp;omega
   rw [if_pos h4] at hd
   simp only [push_cast,seval,reduceEqDiff,hz,wrap_zip s (done:=done) (by omega),List.length_map,hm2,hw,h4']
   intros
   subst hd
   exact finW_ret (by simp [get])
  ·have h4':decide ((M:Int)>400)=false:=by simp;omega
   rw [if_neg h4] at hd
   simp only [push_cast,seval,reduceEqDiff,hz,wrap_zip s (done:=done) (by omega),List.length_map,hm2,hw,h4']
   intros
   exact ⟨_,_,Nat.lt_succ_self _,StLe.drop (fun _ _ h=>by cases h) (Nat.le_refl _),done++[s],rest,_,_,M,by simp,rfl,hd,by omega,rfl,rfl⟩
theorem c_rComb (L:List Sel) (hl:L.length<=2^40) (hk:∀s∈L,s.keys.length<=2^40):RetS Tryz.prog W0 59 [.sl (L.map Sel.enc)] [] (.i .i64 (combR 1 L)) []:=by
 generalize hS:combR 1 L=S
 refine fn_retW (vs:=[.i .i64 S]) f59ok (by simp) (by simp) fun n0 hn0=>?_
 clear hn0
 simp only [push_cast,seval,reduceEqDiff]
 intros
 refine aWP_loopW L.length (Inv:=fun m st=>∃done rest n x k,L=done++rest/\m=rest.length/\combR k rest=S/\k<=401/\x=(k:Int)/\st=⟨[(0,.sl (L.map Sel.enc)),(3,.i .i64 x),(4,.i .i64 done.length)],[],n⟩) ⟨_,StLe.refl,[],L,_,_,1,rfl,rfl,hS,by omega,rfl,rfl⟩ ?_
 clear hS
 rintro m _ ⟨done,rest,n,x,k,hz,rfl,hd,hk4,hx,rfl⟩
 cases rest with
 | nil=>
  rw [combR] at hd
  subst hd hx
  simp only [push_cast,seval,reduceEqDiff,hz]
  repeat' (first|(((first|apply condU_s|apply gdU_t|apply gdU_f)<;>intro _h)<;>(simp only [push_cast,seval,reduceEqDiff,_h];try (have _g:=_h;simp at _g)))|intro _)
  all_goals (first|(refine finW_ret ?_;simp [get]<;>(intros;omega);done)|(refine finW_rets ?_;simp [push_cast,get];done)|skip)
 | cons s rest=>
  have hb:=zip_bd hz
  have hks:=hk s (by rw [hz];simp)
  have hm:k*s.keys.length<=401*2^40:=Nat.mul_le_mul hk4 hks
  have hm2:(x*(s.keys.length:Int))=((k*s.keys.length:Nat):Int):=by rw [hx];simp
  rw [combR] at hd
  generalize hM:k*s.keys.length=M at *
  have hw:IntKind.i64.wrap (M:Int)=M:=by simp (disch:=omega) only [wrap64]
  simp only [push_cast,seval,reduceEqDiff,hz,wrap_zip s (done:=done) (by omega),List.length_map,hm2,hw]
  intros
  exact ⟨_,_,Nat.lt_succ_self _,StLe.refl,done++[s],rest,_,_,min M 401,by simp,rfl,hd,Nat.min_le_right _ _,by omega,rfl⟩
def rulesOf (l:Loc) (kind:Int):List Rule:=if kind == 8 then l.ord else l.card
theorem c_rules (l:Loc) (kind:Int) (hr:(Loc.enc l).ok=true):RetS Tryz.prog W0 142 [l.enc,.i .i64 kind] [] (.sl ((rulesOf l kind).map Rule.enc)) []:=by
 generalize hS:rulesOf l kind=S
 unfold rulesOf at hS
 rw [Loc.enc_eq]
 refine fn_retW (vs:=[.sl (S.map Rule.enc)]) f142ok (by simp) (by simp) fun n0 hn0=>?_
 clear hn0
 simp only [push_cast,seval,reduceEqDiff]
 repeat' (first|(((first|apply condU_s|apply gdU_t|apply gdU_f)<;>intro _h)<;>simp only [push_cast,seval,reduceEqDiff,_h])|intro _)
 all_goals subst hS
 all_goals (refine finW_ret ?_;simp [get, *])
theorem c_rRules (l:Loc) (kind:Int) (hr:(Loc.enc l).ok=true):RetS Tryz.prog W0 146 [l.enc,.i .i64 kind] [] (.sl ((rulesOf l kind).map Rule.enc)) []:=by
 generalize hS:rulesOf l kind=S
 unfold rulesOf at hS
 rw [Loc.enc_eq]
 refine fn_retW (vs:=[.sl (S.map Rule.enc)]) f146ok (by simp) (by simp) fun n0 hn0=>?_
 clear hn0
 simp only [push_cast,seval,reduceEqDiff]
 repeat' (first|(((first|apply condU_s|apply gdU_t|apply gdU_f)<;>intro _h)<;>simp only [push_cast,seval,reduceEqDiff,_h])|intro _)
 all_goals subst hS
 all_goals (refine finW_ret ?_;simp [get, *])
def TPt:Nat:=85
def oE (lo:Option Id) (xs:List Part):Sto:=match lo with
 | none=>[]
 | some id=>[(id,.arr TPt 6 (xs.map Part.enc))]
def addP (o:List Part) (x:Part):List Part:=match o.getLast? with
 | none=>[x]
 | some y=>if x.kind == 1&&y.kind == 1 then o.dropLast++[{ y with text:=y.text++x.text }] else o++[x]
theorem addP_nil (x:Part):addP [] x=[x]:=rfl
theorem addP_snoc (d:List Part) (y x:Part):addP (d++[y]) x=if x.kind == 1&&y.kind == 1 then d++[{ y with text:=y.text++x.text }] else d++[y]++[x]:=by simp [addP]
theorem finNW_i {W0:World} {nt n s:Nat} {env:Env} {σ:Sto} {id:Id} {x:Ent} (hs:get env s = .arr id) (hl:lk σ id=some x):FinNW W0 nt s x [] .ret ⟨env,σ,n⟩:=
 ⟨_,StLe.refl,id,hs,hl,rfl,fun _ _ h=>by cases h⟩
theorem c_add (lo:Option Id) (o:List Part) (x:Part) (hn:lo=none->o=[]) (ho:o.length<=2^30) (ht:∀y∈o,y.text.length<=2^30) (hx:x.text.length<=2^30) :
  RetN Tryz.prog W0 123 [sv lo,x.enc] (oE lo o) (.arr TPt 6 ((addP o x).map Part.enc)) []:=by
 refine fn_newW (s:=4) f123ok (by simp) (by simp [lk]) fun n0 hn0=>?_
 cases lo with
 | none=>
  have ho:=hn rfl
  subst ho
  clear hn0
  have hsv:sv none = .nil:=rfl
  have hoe:oE none []=[]:=rfl
  simp only [push_cast,seval,reduceEqDiff,hsv,hoe,show decide ((0:Int)>0)=false from rfl,eq_true (show 1<=LLim by decide),TPt]
  repeat' (first|(((first|apply condU_s|apply gdU_t|apply gdU_f)<;>intro _h)<;>simp only [push_cast,seval,reduceEqDiff,_h,hsv,hoe,show decide ((0:Int)>0)=false from rfl,eq_true (show 1<=LLim by decide),TPt])|intro _)
  exact finNW_i rfl (by simp [lk,addP,Part.enc_eq])
 | some id=>
  have hid:id.1<n0:=hn0 id (.arr TPt 6 (o.map Part.enc)) (by simp [oE,lk])
  have f3:∀j,((n0,j)=id)=False:=fun j=>ne_idx hid
  have f3':∀j,(id=(n0,j))=False:=fun j=>eq_false fun he=>of_eq_false (f3 j) he.symm
  clear hn0
  have hsv:sv (some id) = .arr id:=rfl
  have hoe:oE (some id) o=[(id,.arr TPt 6 (o.map Part.enc))]:=rfl
  obtain rfl|⟨d,y,rfl⟩:o=[]\/∃d y,o=d++[y]:=by rcases List.eq_nil_or_concat o with h|⟨d,y,h⟩;exact .inl h;exact .inr ⟨d,y,by rw [h,List.concat_eq_append]⟩
  ·skip
   simp only [push_cast,seval,reduceEqDiff,hsv,hoe,show decide ((0:Int)>0)=false from rfl,eq_true (show 1<=LLim by decide),TPt,f3,f3',show (([]:List Part).length:Int)=0 from rfl,List.map_nil,List.length_nil,show ((0:Nat):Int)=0 from rfl]
   repeat' (first|(((first|apply condU_s|apply gdU_t|apply gdU_f)<;>intro _h)<;>simp only [push_cast,seval,reduceEqDiff,_h,hsv,hoe,show decide ((0:Int)>0)=false from rfl,eq_true (show 1<=LLim by decide),TPt,f3,f3',show (([]:List Part).length:Int)=0 from rfl,List.map_nil,List.length_nil,show ((0:Nat):Int)=0 from rfl])|intro _)
   exact finNW_i rfl (by simp [lk,addP,Part.enc_eq])
  ·have hlen:(((d++[y]).length:Int)>0):=by simp<;>omega
   have hw1:IntKind.i64.wrap ((((d++[y]).length:Nat):Int)-1)=(d.length:Int):=by
    simp only [List.length_append,List.length_cons,List.length_nil]
    rw [wrap64 (by simp at ho;omega) (by simp at ho;omega)];omega
   have hdl:d.length<(d++[y]).length:=by simp
   have hty:=ht y (by simp)
   generalize hA:addP (d++[y]) x=AO
   rw [addP_snoc] at hA
   have hset:∀t,((d++[y]).map Part.enc).set d.length (.agg [.i .i64 y.kind,.s t,.s y.name,.s y.style,.sl (y.cases.map Case.enc),.sl (y.parts.map Part.enc)])=(d++[({ y with text:=t }:Part)]).map Part.enc:=by
    intro t;simp [List.set_append,Part.enc_eq]
   have hll:(d++[y]).length+1<=LLim:=by unfold LLim;omega
   have hnv:List.map Part.enc (d++[y])++[x.enc]=(d++[y]++[x]).map Part.enc:=by simp
   rw [Part.enc_eq] at hnv
   simp only [push_cast,seval,reduceEqDiff,hsv,hoe,TPt,f3,f3',eq_true hlen,show (decide True)=true from rfl,hw1,if_pos hdl,hset,eq_true hll,hnv]
   repeat' (first|(((first|apply condU_s|apply gdU_t|apply gdU_f)<;>intro _h)<;>simp only [push_cast,seval,reduceEqDiff,_h,hsv,hoe,TPt,f3,f3',eq_true hlen,show (decide True)=true from rfl,hw1,if_pos hdl,hset,eq_true hll,hnv])|(refine jp_i (by simp only [List.length_append,List.length_cons,List.length_nil,SLim]<;>omega) ?_;simp only [push_cast,seval,reduceEqDiff,hsv,hoe,TPt,f3,f3',eq_true hlen,show (decide True)=true from rfl,hw1,if_pos hdl,hset,eq_true hll,hnv])|intro _)
   all_goals subst hA
   all_goals exact finNW_i rfl (by simp [lk, *])
def joinP (a b:List Part):List Part:=match a.getLast?,b with
 | some y,z::t=>if y.kind == 1&&z.kind == 1 then a.dropLast++[{ y with text:=y.text++z.text }]++t else a++b
 | _,_=>a++b
theorem okPt (l:List Part):∀y∈l.map Part.enc,y.ok=true:=by
 intro y hy;obtain ⟨x,_,rfl⟩:=List.mem_map.1 hy;rw [Part.enc_eq];rfl
theorem celPt (l:List Part):∀y∈l.map Part.enc,(cells y).length=6:=by
 intro y hy;obtain ⟨x,_,rfl⟩:=List.mem_map.1 hy;rw [Part.enc_eq];rfl
theorem frz_oE {W0:World} {nt n n' s:Nat} {lo:Option Id} {o:List Part} {env:Env} {τ:Sto} (hn:lo=none->o=[]) (hτ:∀i e,lk τ i=some e->lk (oE lo o++τ) i=some e/\∀id,lo=some id->i≠id) (hle:n<=n') :
  StLe W0 nt ⟨(s,sv lo)::env,oE lo o++τ,n⟩ ⟨(s,.sl (o.map Part.enc))::env,τ,n'⟩:=by
 cases lo with
 | none=>
  have:=hn rfl;subst this
  refine StLe.weak (fun i=>none) (fun i es' h=>by cases h) (fun t=>?_) (fun i e' h=>⟨e',(hτ i e' h).1,.refl _⟩) hle
  by_cases ht:s=t
  ·subst ht;simp only [get,if_true];exact .nil
  ·simp only [get,if_neg ht];exact .refl _
 | some id=>
  refine StLe.weak (fun i=>if i=id then some (o.map Part.enc) else none) (fun i es' h=>?_) (fun t=>?_) (fun i e' h=>⟨e',(hτ i e' h).1,.refl _⟩) hle
  ·split at h
   ·rename_i hi;subst hi;cases h
    refine ⟨⟨TPt,6,by simp [oE,lk]⟩,?_⟩
    cases hl:lk τ i with
    | none=>rfl
    | some e=>exact absurd rfl ((hτ i e hl).2 i rfl)
   ·cases h
  ·by_cases ht:s=t
   ·subst ht
    simp only [get,if_true]
    refine .arr id _ _ (by simp) rfl (fun k c c' h1 h2=>?_) (fun k c c' h1 h2=>?_)
    ·rw [h1] at h2;cases h2;exact .refl _
    ·rw [h1] at h2;cases h2
     have:=okPt _ c (List.mem_of_getElem? h1)
     exact ⟨rfl,this,this⟩
   ·simp only [get,if_neg ht];exact .refl _
theorem c_rJoin (lo:Option Id) (o b:List Part) (hn:lo=none->o=[]) (ho:o.length<=2^30) (hb:b.length<=2^30) (ht:∀y∈o,y.text.length<=2^30) (hx:∀y∈b,y.text.length<=2^30) :
  RetN Tryz.prog W0 130 [sv lo,.sl (b.map Part.enc)] (oE lo o) (.arr TPt 6 ((joinP o b).map Part.enc)) []:=by
 refine fn_newW (s:=4) f130ok (by simp) (by simp [lk]) fun n0 hn0=>?_
 clear hn0
 simp only [push_cast,seval,reduceEqDiff]
 intro k1
 have hτ:∀i e,lk ([]:Sto) i=some e->lk (oE lo o++[]) i=some e/\∀id,lo=some id->i≠id:=fun i e h=>by cases h
 have hw:=frz_oE (W0:=W0) (nt:=55) (n:=n0+1+k1) (s:=0) (env:=[(1,V.sl (List.map Part.enc b))]) hn hτ (Nat.le_refl _)
 rw [List.append_nil] at hw
 refine wkW_i hw ?_
 clear hw hτ hn
 generalize hJ:joinP o b=AO
 unfold joinP at hJ
 obtain rfl|⟨d,y,rfl⟩:o=[]\/∃d y,o=d++[y]:=by rcases List.eq_nil_or_concat o with h|⟨d,y,h⟩;exact .inl h;exact .inr ⟨d,y,by rw [h,List.concat_eq_append]⟩
 ·have hll:b.length<=LLim:=by unfold LLim;omega
  simp only [List.getLast?_nil,List.nil_append] at hJ
  subst hJ
  simp only [push_cast,seval,reduceEqDiff,List.map_nil,List.length_nil,show decide ((0:Int)>0)=false from rfl,show (([]:List V).length:Int)=0 from rfl,eq_true hll,List.nil_append,List.length_map,eq_true (show 0<=LLim by decide),eq_true (celPt b)]
  repeat' (first|(((first|apply condU_s|apply gdU_t|apply gdU_f)<;>intro _h)<;>simp only [push_cast,seval,reduceEqDiff,_h,List.map_nil,List.length_nil,show decide ((0:Int)>0)=false from rfl,show (([]:List V).length:Int)=0 from rfl,eq_true hll,List.nil_append,List.length_map,eq_true (show 0<=LLim by decide),eq_true (celPt b)])|intro _)
  exact finNW_i rfl (by simp [lk,TPt])
 ·cases b with
  | nil=>
   have hll:(d++[y]).length<=LLim:=by unfold LLim;omega
   simp only [List.append_nil] at hJ
   have hJ2:d++[y]=AO:=by rw [<-hJ];split<;>simp_all
   subst hJ2
   have hlen:decide (((d++[y]).length:Int)>0)=true:=by simp<;>omega
   simp only [push_cast,seval,reduceEqDiff,hlen,List.map_nil,List.length_nil,show decide ((0:Int)>0)=false from rfl,show (([]:List Part).length:Int)=0 from rfl,eq_true hll,List.nil_append,List.append_nil,List.length_map,eq_true (celPt (d++[y])),Nat.add_zero,Nat.zero_add]
   repeat' (first|(((first|apply condU_s|apply gdU_t|apply gdU_f)<;>intro _h)<;>simp only [push_cast,seval,reduceEqDiff,_h,hlen,List.map_nil,List.length_nil,show decide ((0:Int)>0)=false from rfl,show (([]:List Part).length:Int)=0 from rfl,eq_true hll,List.nil_append,List.append_nil,List.length_map,eq_true (celPt (d++[y])),Nat.add_zero,Nat.zero_add])|intro _)
   exact finNW_i rfl (by simp [lk,TPt])
  | cons z t=>
   have hll:(d++[y]).length<=LLim:=by unfold LLim;omega
   have hlen:decide (((d++[y]).length:Int)>0)=true:=by simp<;>omega
   have hlenb:decide ((t.length:Int)+1>0)=true:=by simp<;>omega
   have hw1:IntKind.i64.wrap ((((d++[y]).length:Nat):Int)-1)=(d.length:Int):=by
    simp only [List.length_append,List.length_cons,List.length_nil] at ho⊢
    rw [wrap64 (by omega) (by omega)];omega
   have hdl:d.length<(d++[y]).length:=by simp
   have hty:=ht y (by simp)
   have hxz:=hx z (by simp)
   have hset:∀t,((d++[y]).map Part.enc).set d.length (.agg [.i .i64 y.kind,.s t,.s y.name,.s y.style,.sl (y.cases.map Case.enc),.sl (y.parts.map Part.enc)])=(d++[({ y with text:=t }:Part)]).map Part.enc:=by
    intro t;simp [List.set_append,Part.enc_eq]
   have hll2:(d++[y]).length+(t.length+1)<=LLim:=by unfold LLim;simp at hb;omega
   have hll3:∀y':Part,(d++[y']).length+t.length<=LLim:=by intro y';unfold LLim;simp at hb ho⊢;omega
   have htk:List.take t.length (List.map Part.enc t)=List.map Part.enc t:=by rw [List.take_of_length_le];simp
   have hr1:∀d':List Part,List.map Part.enc d'++List.map Part.enc t=List.map Part.enc (d'++t):=fun d'=>by simp
   have hr2:List.map Part.enc (d++[y])++V.agg [.i .i64 z.kind,.s z.text,.s z.name,.s z.style,.sl (List.map Case.enc z.cases),.sl (List.map Part.enc z.parts)]::List.map Part.enc t=List.map Part.enc (d++[y]++z::t):=by simp [Part.enc_eq]
   have hJ2:(if y.kind == 1&&z.kind == 1 then d++[{ y with text:=y.text++z.text }]++t else d++[y]++z::t)=AO:=by rw [<-hJ];simp
   clear hJ
   have hz0:(List.map Part.enc (z::t))[0]? = some z.enc:=rfl
   have hbl:0<(z::t).length:=by simp
   simp only [push_cast,seval,reduceEqDiff,hlen,hlenb,hw1,if_pos hdl,List.nil_append,List.length_map,eq_true hll,eq_true (celPt (d++[y])),eq_true (celPt (z::t)),eq_true (celPt t),hset,Nat.add_zero,Nat.zero_add,TPt,hz0,if_pos hbl,List.length_nil,eq_true hll2,htk,if_pos (Nat.le_refl _),eq_true (hll3 _),hr1,hr2]
   repeat' (first|(((first|apply condU_s|apply gdU_t|apply gdU_f)<;>intro _h)<;>simp only [push_cast,seval,reduceEqDiff,_h,hlen,hlenb,hw1,if_pos hdl,List.nil_append,List.length_map,eq_true hll,eq_true (celPt (d++[y])),eq_true (celPt (z::t)),eq_true (celPt t),hset,Nat.add_zero,Nat.zero_add,TPt,hz0,if_pos hbl,List.length_nil,eq_true hll2,htk,if_pos (Nat.le_refl _),eq_true (hll3 _),hr1,hr2])|(refine jp_i (by simp only [List.length_append,List.length_cons,List.length_nil,SLim]<;>omega) ?_;simp only [push_cast,seval,reduceEqDiff,hlen,hlenb,hw1,if_pos hdl,List.nil_append,List.length_map,eq_true hll,eq_true (celPt (d++[y])),eq_true (celPt (z::t)),eq_true (celPt t),hset,Nat.add_zero,Nat.zero_add,TPt,hz0,if_pos hbl,List.length_nil,eq_true hll2,htk,if_pos (Nat.le_refl _),eq_true (hll3 _),hr1,hr2])|intro _)
   all_goals subst hJ2
   all_goals exact finNW_i rfl (by simp [lk, *])
end Go.Ir
section
namespace Go.Ir
def findC {α:Type} (cs:List (Bytes × α)) (k:Bytes):Option α:=(cs.find? fun c=>c.1 == k).map (·.2)
def pickC {α:Type} (cls:Bytes->Bytes) (kind:Int) (cs:List (Bytes × α)) (key:Bytes):Option α:=
 (findC cs key).or ((if headEq key&&kind != 9 then findC cs (cls key.tail) else none).or (findC cs kOtherS))
def pickR {α:Type} (cls:Bytes->Bytes) (cs:List (Bytes × α)) (key:Bytes):Option α:=
 (findC cs key).or ((findC cs (if headEq key then cls key.tail else [])).or (findC cs kOtherS))
theorem findC_map {α β:Type} (f:α->β) (cs:List (Bytes × α)) (k:Bytes):findC (cs.map fun c=>(c.1,f c.2)) k=(findC cs k).map f:=by
 unfold findC
 induction cs with
 | nil=>rfl
 | cons c cs ih=>
  simp only [List.map_cons,List.find?_cons]
  cases c.1 == k
  ·exact ih
  ·rfl
theorem or_map {α β:Type} (f:α->β) (a b:Option α):(a.or b).map f=(a.map f).or (b.map f):=by cases a<;>rfl
theorem pickC_map {α β:Type} (f:α->β) (cls:Bytes->Bytes) (kind:Int) (cs:List (Bytes × α)) (k:Bytes):pickC cls kind (cs.map fun c=>(c.1,f c.2)) k=(pickC cls kind cs k).map f:=by
 unfold pickC
 rw [findC_map,findC_map,findC_map,or_map,or_map]
 split<;>rfl
theorem pickR_map {α β:Type} (f:α->β) (cls:Bytes->Bytes) (cs:List (Bytes × α)) (k:Bytes):pickR cls (cs.map fun c=>(c.1,f c.2)) k=(pickR cls cs k).map f:=by
 unfold pickR
 rw [findC_map,findC_map,findC_map,or_map,or_map]
theorem findC_mem {α:Type} {cs:List (Bytes × α)} {k:Bytes} {a:α} (h:findC cs k=some a):(k,a)∈cs:=by
 unfold findC at h
 simp only [Option.map_eq_some_iff] at h
 obtain ⟨c,hc,rfl⟩:=h
 have h1:=List.find?_some hc
 have h2:=List.mem_of_find?_eq_some hc
 have h3:c.1=k:=by simpa using h1
 rw [<-h3];exact h2
theorem findC_nil {α:Type} {cs:List (Bytes × α)} {k:Bytes} (h:∀c∈cs,c.1≠k):findC cs k=none:=by
 unfold findC
 rw [List.find?_eq_none.2 (fun c hc=>by simpa using h c hc)]
 rfl
theorem or_some {α:Type} {a b:Option α} {x:α} (h:a.or b=some x):a=some x\/b=some x:=by
 cases a with
 | none=>right;exact h
 | some y=>left;exact h
theorem pickC_mem {α:Type} {cls:Bytes->Bytes} {kind:Int} {cs:List (Bytes × α)} {key:Bytes} {a:α} (h:pickC cls kind cs key=some a):∃k,(k,a)∈cs:=by
 unfold pickC at h
 rcases or_some h with h|h
 ·exact ⟨_,findC_mem h⟩
 ·rcases or_some h with h|h
  ·split at h
   ·exact ⟨_,findC_mem h⟩
   ·cases h
  ·exact ⟨_,findC_mem h⟩
theorem pickC_pickR {α:Type} {cls:Bytes->Bytes} {kind:Int} {cs:List (Bytes × α)} {key:Bytes} (hk:∀c∈cs,c.1≠[]) (h9:(kind == 9)=true->headEq key=false):pickR cls cs key=pickC cls kind cs key:=by
 unfold pickC pickR
 cases hh:headEq key with
 | true=>
  have:(kind != 9)=true:=by
   cases h:kind == 9 with
   | true=>rw [h9 h] at hh;cases hh
   | false=>simp [bne,h]
  simp [this]
 | false=>simp [findC_nil hk]
abbrev Pick:=Int->Bytes->List (Bytes × List Part)->List Part
mutual
def Part.res (pk:Pick) (count:Bytes):Part->List Part->List Part
 | ⟨k,t,nm,st,cs,ps⟩,out=>
  if selB k then (pk k nm (resCs pk (if k == 9 then count else nm) cs)).foldl addP out
  else if k == 10 then out++[⟨3,[],count,[],[],[]⟩]
  else if k == 11 then out++[⟨k,t,nm,st,cs,resPs pk count ps []⟩]
  else addP out ⟨k,t,nm,st,cs,ps⟩
def resPs (pk:Pick) (count:Bytes):List Part->List Part->List Part
 | [],out=>out
 | p::ps,out=>resPs pk count ps (p.res pk count out)
def resCs (pk:Pick) (count:Bytes):List (Bytes × List Part)->List (Bytes × List Part)
 | []=>[]
 | (k,ps)::cs=>(k,resPs pk count ps [])::resCs pk count cs
end
theorem Part.res_eq (pk:Pick) (count:Bytes) (p:Part) (out:List Part):p.res pk count out =
  if selB p.kind then (pk p.kind p.name (resCs pk (if p.kind == 9 then count else p.name) p.cases)).foldl addP out
  else if p.kind == 10 then out++[⟨3,[],count,[],[],[]⟩]
  else if p.kind == 11 then out++[⟨p.kind,p.text,p.name,p.style,p.cases,resPs pk count p.parts []⟩]
  else addP out p:=by cases p;simp only [Part.res]
theorem resPs_cons (pk:Pick) (count:Bytes) (p:Part) (ps out:List Part):resPs pk count (p::ps) out=resPs pk count ps (p.res pk count out):=by simp only [resPs]
theorem resCs_map (pk:Pick) (count:Bytes) (cs:List (Bytes × List Part)):resCs pk count cs=cs.map fun c=>(c.1,resPs pk count c.2 []):=by
 induction cs with
 | nil=>simp only [resCs,List.map_nil]
 | cons c cs ih=>obtain ⟨k,ps⟩:=c;simp only [resCs,List.map_cons,ih]
mutual
def Part.rres (pk:Pick) (count:Bytes):Part->List Part->List Part
 | ⟨k,t,nm,st,cs,ps⟩,out=>
  if k == 10 then out++[⟨3,[],count,[],[],[]⟩]
  else if k == 11 then out++[⟨k,[],nm,[],[],rresPs pk count ps []⟩]
  else if selB k then joinP out (pk k nm (rresCs pk (if k == 9 then count else nm) cs))
  else joinP out [⟨k,t,nm,st,cs,ps⟩]
def rresPs (pk:Pick) (count:Bytes):List Part->List Part->List Part
 | [],out=>out
 | p::ps,out=>rresPs pk count ps (p.rres pk count out)
def rresCs (pk:Pick) (count:Bytes):List (Bytes × List Part)->List (Bytes × List Part)
 | []=>[]
 | (k,ps)::cs=>(k,rresPs pk count ps [])::rresCs pk count cs
end
theorem Part.rres_eq (pk:Pick) (count:Bytes) (p:Part) (out:List Part):p.rres pk count out =
  if p.kind == 10 then out++[⟨3,[],count,[],[],[]⟩]
  else if p.kind == 11 then out++[⟨p.kind,[],p.name,[],[],rresPs pk count p.parts []⟩]
  else if selB p.kind then joinP out (pk p.kind p.name (rresCs pk (if p.kind == 9 then count else p.name) p.cases))
  else joinP out [p]:=by cases p;simp only [Part.rres]
theorem rresPs_cons (pk:Pick) (count:Bytes) (p:Part) (ps out:List Part):rresPs pk count (p::ps) out=rresPs pk count ps (p.rres pk count out):=by simp only [rresPs]
theorem rresCs_map (pk:Pick) (count:Bytes) (cs:List (Bytes × List Part)):rresCs pk count cs=cs.map fun c=>(c.1,rresPs pk count c.2 []):=by
 induction cs with
 | nil=>simp only [rresCs,List.map_nil]
 | cons c cs ih=>obtain ⟨k,ps⟩:=c;simp only [rresCs,List.map_cons,ih]
def tw (ps:List Part):Nat:=(ps.map fun p=>1+p.text.length).sum
theorem tw_nil:tw []=0:=rfl
theorem tw_cons (p:Part) (ps:List Part):tw (p::ps)=1+p.text.length+tw ps:=by simp [tw]
theorem tw_app (a b:List Part):tw (a++b)=tw a+tw b:=by simp [tw]
theorem len_tw (a:List Part):a.length<=tw a:=by
 induction a with
 | nil=>simp
 | cons p a ih=>rw [tw_cons];simp;omega
theorem text_tw {a:List Part} {p:Part} (h:p∈a):p.text.length<=tw a:=by
 induction a with
 | nil=>cases h
 | cons q a ih=>
  rw [tw_cons]
  rcases List.mem_cons.1 h with rfl|h
  ·omega
  ·have:=ih h;omega
theorem tw_add (o:List Part) (x:Part):tw (addP o x)<=tw o+(1+x.text.length):=by
 rcases List.eq_nil_or_concat o with rfl|⟨d,y,rfl⟩
 ·simp [addP,tw]
 ·rw [List.concat_eq_append,addP_snoc]
  split
  ·simp only [tw_app,tw_cons,tw_nil,List.length_append];omega
  ·simp only [tw_app,tw_cons,tw_nil];omega
theorem tw_adds (l:List Part):∀o,tw (l.foldl addP o)<=tw o+tw l:=by
 induction l with
 | nil=>intro o;simp [tw]
 | cons x l ih=>intro o;rw [List.foldl_cons,tw_cons];have h1:=ih (addP o x);have h2:=tw_add o x;omega
theorem tw_join (a b:List Part):tw (joinP a b)<=tw a+tw b:=by
 unfold joinP
 rcases List.eq_nil_or_concat a with rfl|⟨d,y,rfl⟩
 ·simp [tw]
 ·rw [List.concat_eq_append]
  cases b with
  | nil=>simp [tw]
  | cons z t=>
   simp only [List.getLast?_append,List.getLast?_singleton,Option.some_or,List.dropLast_concat]
   split
   ·simp only [tw_app,tw_cons,tw_nil,List.length_append];omega
   ·simp only [tw_app,tw_cons,tw_nil];omega
def Picks (pk:Pick):Prop:=∀k nm cs,pk k nm cs=[]\/∃key,(key,pk k nm cs)∈cs
theorem res_w (pk:Pick) (hpk:Picks pk):∀(N:Nat) (ps:List Part),wtPs ps<N->∀count out,tw (resPs pk count ps out)<=tw out+wtPs ps/\tw (rresPs pk count ps out)<=tw out+wtPs ps:=by
 intro N
 induction N with
 | zero=>intro ps h;omega
 | succ N ih=>
  intro ps
  induction ps with
  | nil=>intro _ count out;simp [resPs,rresPs]
  | cons p ps ih2=>
   intro h count out
   rw [wtPs_cons] at h
   rw [resPs_cons,rresPs_cons,wtPs_cons]
   have h1:=(ih2 (by omega) count (p.res pk count out)).1
   have h2:=(ih2 (by omega) count (p.rres pk count out)).2
   have hw:=p.wt_eq
   have hl:∀count key q,(key,q)∈resCs pk count p.cases->tw q<=wtCs p.cases:=by
    intro count key q hq
    rw [resCs_map] at hq
    obtain ⟨c,hc,he⟩:=List.mem_map.1 hq
    cases he
    have:=wtCs_mem hc
    have:=(ih c.2 (by omega) count []).1
    rw [tw_nil] at this;omega
   have hlr:∀count key q,(key,q)∈rresCs pk count p.cases->tw q<=wtCs p.cases:=by
    intro count key q hq
    rw [rresCs_map] at hq
    obtain ⟨c,hc,he⟩:=List.mem_map.1 hq
    cases he
    have:=wtCs_mem hc
    have:=(ih c.2 (by omega) count []).2
    rw [tw_nil] at this;omega
   have ha:tw (p.res pk count out)<=tw out+p.wt:=by
    rw [p.res_eq]
    split
    ·have h5:=tw_adds (pk p.kind p.name (resCs pk (if p.kind == 9 then count else p.name) p.cases)) out
     rcases hpk p.kind p.name (resCs pk (if p.kind == 9 then count else p.name) p.cases) with h3|⟨key,h3⟩
     ·rw [h3,tw_nil] at h5;rw [h3];omega
     ·have:=hl _ _ _ h3;omega
    ·split
     ·rw [tw_app,tw_cons,tw_nil];simp only [List.length_nil];omega
     ·split
      ·rw [tw_app,tw_cons,tw_nil];show tw out+(1+p.text.length+0)<=_;omega
      ·have:=tw_add out p;omega
   have hb:tw (p.rres pk count out)<=tw out+p.wt:=by
    rw [p.rres_eq]
    split
    ·rw [tw_app,tw_cons,tw_nil];simp only [List.length_nil];omega
    ·split
     ·rw [tw_app,tw_cons,tw_nil];simp only [List.length_nil];omega
     ·split
      ·have h5:=tw_join out (pk p.kind p.name (rresCs pk (if p.kind == 9 then count else p.name) p.cases))
       rcases hpk p.kind p.name (rresCs pk (if p.kind == 9 then count else p.name) p.cases) with h3|⟨key,h3⟩
       ·rw [h3,tw_nil] at h5;rw [h3];omega
       ·have:=hlr _ _ _ h3;omega
      ·have h5:=tw_join out [p]
       rw [tw_cons,tw_nil] at h5;omega
   exact ⟨by omega,by omega⟩
end Go.Ir
end
namespace Go.Ir
open Go.Proofs
variable (W0 : World)
def ixC {α:Type} (cs:List (Bytes × α)) (k:Bytes):Int:=idxI (fun c=>c.1 == k) cs
theorem ixC_find {α:Type} (cs:List (Bytes × α)) (k:Bytes):(ixC cs k<0/\findC cs k=none)\/∃j c,ixC cs k=(j:Nat)/\cs[j]? = some c/\findC cs k=some c.2:=by
 unfold ixC findC
 induction cs with
 | nil=>left;simp [idxI]
 | cons c cs ih=>
  simp only [idxI,List.find?_cons]
  cases hc:c.1 == k with
  | true=>right;exact ⟨0,c,by simp,rfl,rfl⟩
  | false=>
   simp only [cond_false]
   rcases ih with ⟨h1,h2⟩|⟨j,d,h1,h2,h3⟩
   ·left;rw [if_pos h1];exact ⟨by decide,h2⟩
   ·right;rw [h1];exact ⟨j+1,d,by rw [if_neg (by omega)];omega,by simpa using h2,h3⟩
theorem c_ch11 (c:Case) (k:Bytes) (kid:Id) (σ:Sto) (hk:lk σ kid=some (.box (.s k))):RetS Tryz.prog W0 189 [Case.enc c,.ref kid 0] σ (.b (c.1 == k)) σ:=by
 obtain ⟨a,ps⟩:=c
 refine fn_retW (vs:=[.b (a == k)]) f189ok (by simp) (fun _ h=>h) fun n0 hn0=>?_
 have h1:∀j,((n0,j)=kid)=False:=fun j=>ne_idx (hn0 _ _ hk)
 simp only [push_cast,seval,reduceEqDiff,h1,hk]
 intros
 exact finW_retS (by simp [get]) (fun i e h=>lk_fresh (hn0 i e h) h)
theorem c_ch1 (x:Part) (k:Bytes) (xid:Id) (σ:Sto) (hx:lk σ xid=some (.box x.v)) (hl:x.cases.length<=2^40):RetS Tryz.prog W0 187 [.s k,.ref xid 0] σ (.i .i64 (ixC x.cases k)) σ:=by
 generalize hS:ixC x.cases k=S
 unfold ixC at hS
 refine fn_retW (vs:=[.i .i64 S]) f187ok (by simp) (fun _ h=>h) fun n0 hn0=>?_
 have h1:∀j,((n0,j)=xid)=False:=fun j=>ne_idx (hn0 _ _ hx)
 have hif:=indexFunc_ret (P:=Tryz.prog) (W0:=W0) (f:=188) (e:=97) (sz:=2) (ag:=true) (by kernel_rfl) Case.enc x.cases (fun c=>c.1 == k) 189 [] [.ref (n0,2) 0] [((n0,2),.box (.s k))] (fun c _=>elOk_agg rfl) (fun c _=>c_ch11 W0 c k _ _ (by simp [lk])) (by omega)
 rw [hS] at hif
 unfold Part.v at hx
 simp only [push_cast,seval,reduceEqDiff,h1,hx]
 intro _
 refine c_callr hif (fun i e h=>?_) ?_
 ·simp only [lk] at h⊢
  split at h
  ·rename_i he;rw [if_pos he];exact h
  ·cases h
 simp only [push_cast,seval,reduceEqDiff,h1,hx]
 intro _
 exact finW_retS (by simp [get]) (fun i e h=>lk_fresh (hn0 i e h) h)
theorem cutEq (s:Bytes):Lib.hasPrefix s [61]=headEq s/\(headEq s=true->Lib.trimPrefix s [61]=s.tail):=by
 cases s with
 | nil=>exact ⟨by decide,by decide⟩
 | cons c t=>
  have h:headEq (c::t)=(c == 61):=by
   unfold headEq;rw [Bool.eq_iff_iff];simp only [beq_iff_eq,<-UInt8.toNat_inj];show _↔c.toNat=61;omega
  have e1:Lib.hasPrefix (c::t) [61]=(61 == c):=by simp [Lib.hasPrefix,List.isPrefixOf]
  have e2:(61 == c)=(c == 61):=by rw [Bool.eq_iff_iff];simp only [beq_iff_eq];exact eq_comm
  rw [h,<-e2]
  refine ⟨e1,fun he=>?_⟩
  unfold Lib.trimPrefix
  rw [e1,he];rfl
def clsN (l:Loc) (kind:Int) (n:Bytes):Bytes:=(classV (rulesOf l kind) n).1
set_option maxHeartbeats 4000000 in
theorem c_chosen (l:Loc) (x:Part) (key:Bytes) (hr:(Loc.enc l).ok=true) (hrl:l.rest.length=11) (hb:wtRules l.card+wtRules l.ord<=2^24) (hkl:key.length<=2^30) (hcl:x.cases.length<=2^40) (ho:findC x.cases kOtherS≠none) :
  RetS Tryz.prog W0 122 [l.enc,x.enc,.s key] [] (.sl (((pickC (clsN l x.kind) x.kind x.cases key).getD []).map Part.enc)) []:=by
 have hcut:=c_cutPrefix W0 key [61]
 obtain ⟨hc1,hc2⟩:=cutEq key
 rw [hc1] at hcut
 generalize hS:(pickC (clsN l x.kind) x.kind x.cases key).getD []=S
 unfold pickC at hS
 have hch:=fun k xid σ hx=>c_ch1 W0 x k xid σ hx hcl
 unfold Part.v at hch
 rw [Loc.enc_eq]
 refine fn_retW (vs:=[.sl (S.map Part.enc)]) f122ok (by simp) (by simp) fun n0 hn0=>?_
 clear hn0
 simp only [push_cast,seval,reduceEqDiff]
 intro k1 k2
 refine c_calls (hch key (n0,4) _ (by simp [lk])) (fun _ _ h=>h) ?_
 rw [over_self]
 have hget:∀(j:Nat) (c:Case),x.cases[j]? = some c->(x.cases.map Case.enc)[j]? = some (.agg [.s c.1,.sl (c.2.map Part.enc)]):=by
  intro j c h;rw [List.getElem?_map,h];obtain ⟨a,b⟩:=c;rw [Option.map_some,Case.enc_eq]
 have hjl:∀(j:Nat) (c:Case),x.cases[j]? = some c->j<x.cases.length:=fun j c h=>(List.getElem?_eq_some_iff.1 h).1
 have hoth:∃(j:Nat) (c:Case),ixC x.cases kOtherS=(j:Nat)/\x.cases[j]? = some c/\findC x.cases kOtherS=some c.2:=by
  rcases ixC_find x.cases kOtherS with ⟨_,h⟩|h
  ·exact absurd h ho
  ·exact h
 obtain ⟨jo,co,hjo,hjo2,hfo⟩:=hoth
 rw [hfo] at hS
 rcases ixC_find x.cases key with ⟨hi,hf⟩|⟨j,c,hi,hj,hf⟩
 ·have hi':decide (ixC x.cases key<0)=true:=by simpa using hi
  rw [hf] at hS
  generalize hI:ixC x.cases key=I at *
  have hcho:=fun xid σ hx=>hch kOtherS xid σ hx
  rw [hjo] at hcho
  unfold kOtherS at hcho
  generalize hB:(headEq key&&x.kind != 9)=B at hS
  cases B with
  | false=>
   have hS2:S=co.2:=by rw [<-hS];rfl
   have hBB:headEq key=false\/headEq key=true/\(x.kind != 9)=false:=by
    cases h1:headEq key with
    | false=>exact .inl rfl
    | true=>rw [h1] at hB;exact .inr ⟨rfl,by simpa using hB⟩
   clear hS
   rcases hBB with h1|⟨h1,h2⟩
   ·rw [h1] at hcut
    simp only [push_cast,seval,reduceEqDiff,hi',hget jo co hjo2,if_pos (hjl jo co hjo2),hS2,List.length_map]
    repeat' (first|(((first|apply condU_s|apply gdU_t|apply gdU_f)<;>intro _h)<;>simp only [push_cast,seval,reduceEqDiff,_h,hi',hget jo co hjo2,if_pos (hjl jo co hjo2),hS2,List.length_map])|(refine c_call (by exact hcut) ?_;simp only [push_cast,seval,reduceEqDiff,hi',hget jo co hjo2,if_pos (hjl jo co hjo2),hS2,List.length_map])|intro _)
    refine c_calls (hcho (n0,4) _ (by simp [lk])) (fun _ _ h=>h) ?_
    rw [over_self]
    simp only [push_cast,seval,reduceEqDiff,hi',hget jo co hjo2,if_pos (hjl jo co hjo2),hS2,List.length_map]
    intros
    exact finW_ret (by simp [get])
   ·rw [h1] at hcut
    simp only [push_cast,seval,reduceEqDiff,hi',hget jo co hjo2,if_pos (hjl jo co hjo2),hS2,List.length_map,h2]
    repeat' (first|(((first|apply condU_s|apply gdU_t|apply gdU_f)<;>intro _h)<;>simp only [push_cast,seval,reduceEqDiff,_h,hi',hget jo co hjo2,if_pos (hjl jo co hjo2),hS2,List.length_map,h2])|(refine c_call (by exact hcut) ?_;simp only [push_cast,seval,reduceEqDiff,hi',hget jo co hjo2,if_pos (hjl jo co hjo2),hS2,List.length_map,h2])|intro _)
    refine c_calls (hcho (n0,4) _ (by simp [lk])) (fun _ _ h=>h) ?_
    rw [over_self]
    simp only [push_cast,seval,reduceEqDiff,hi',hget jo co hjo2,if_pos (hjl jo co hjo2),hS2,List.length_map,h2]
    intros
    exact finW_ret (by simp [get])
  | true=>
   simp only [Bool.and_eq_true] at hB
   obtain ⟨h1,h2⟩:=hB
   rw [h1,hc2 h1] at hcut
   have hru:=c_rules W0 l x.kind hr
   have hwr:wtRules (rulesOf l x.kind)<=2^30:=by unfold rulesOf;split<;>omega
   have hcl2:=c_class W0 (rulesOf l x.kind) key.tail (by simp;omega) hwr
   have hcn:clsN l x.kind key.tail=(classV (rulesOf l x.kind) key.tail).1:=rfl
   rw [hcn] at hS
   generalize (classV (rulesOf l x.kind) key.tail).1=CN at *
   generalize (classV (rulesOf l x.kind) key.tail).2=CE at *
   rw [Loc.enc_eq] at hru
   have htk:List.take 11 l.rest=l.rest:=by rw [<-hrl,List.take_length]
   rcases ixC_find x.cases CN with ⟨hi2,hf2⟩|⟨j,c,hi2,hj,hf2⟩
   ·have hi2':decide (ixC x.cases CN<0)=true:=by simpa using hi2
    rw [hf2] at hS
    have hS2:S=co.2:=by rw [<-hS];rfl
    simp only [push_cast,seval,reduceEqDiff,hi',hget jo co hjo2,if_pos (hjl jo co hjo2),hS2,List.length_map,h2,htk,if_pos hrl,hi2']
    repeat' (first|(((first|apply condU_s|apply gdU_t|apply gdU_f)<;>intro _h)<;>simp only [push_cast,seval,reduceEqDiff,_h,hi',hget jo co hjo2,if_pos (hjl jo co hjo2),hS2,List.length_map,h2,htk,if_pos hrl,hi2'])|((first|refine c_call (by exact hcut) ?_|refine c_call (by exact hru) ?_|refine c_call (by exact hcl2) ?_);simp only [push_cast,seval,reduceEqDiff,hi',hget jo co hjo2,if_pos (hjl jo co hjo2),hS2,List.length_map,h2,htk,if_pos hrl,hi2'])|intro _)
    refine c_calls (hch CN (n0,4) _ (by simp [lk])) (fun _ _ h=>h) ?_
    rw [over_self]
    simp only [push_cast,seval,reduceEqDiff,hi',hget jo co hjo2,if_pos (hjl jo co hjo2),hS2,List.length_map,h2,htk,if_pos hrl,hi2']
    intros
    refine c_calls (hcho (n0,4) _ (by simp [lk])) (fun _ _ h=>h) ?_
    rw [over_self]
    simp only [push_cast,seval,reduceEqDiff,hi',hget jo co hjo2,if_pos (hjl jo co hjo2),hS2,List.length_map,h2,htk,if_pos hrl,hi2']
    intros
    exact finW_ret (by simp [get])
   ·rw [hf2] at hS
    have hS2:S=c.2:=by rw [<-hS];rfl
    have hi2':decide ((j:Int)<0)=false:=by simp
    have hch2:=fun xid σ hx=>hch CN xid σ hx
    rw [hi2] at hch2
    clear hjo2 hfo hjo
    simp only [push_cast,seval,reduceEqDiff,hi',hget j c hj,if_pos (hjl j c hj),hS2,List.length_map,h2,htk,if_pos hrl,hi2']
    repeat' (first|(((first|apply condU_s|apply gdU_t|apply gdU_f)<;>intro _h)<;>simp only [push_cast,seval,reduceEqDiff,_h,hi',hget j c hj,if_pos (hjl j c hj),hS2,List.length_map,h2,htk,if_pos hrl,hi2'])|((first|refine c_call (by exact hcut) ?_|refine c_call (by exact hru) ?_|refine c_call (by exact hcl2) ?_);simp only [push_cast,seval,reduceEqDiff,hi',hget j c hj,if_pos (hjl j c hj),hS2,List.length_map,h2,htk,if_pos hrl,hi2'])|intro _)
    refine c_calls (hch2 (n0,4) _ (by simp [lk])) (fun _ _ h=>h) ?_
    rw [over_self]
    simp only [push_cast,seval,reduceEqDiff,hi',hget j c hj,if_pos (hjl j c hj),hS2,List.length_map,h2,htk,if_pos hrl,hi2']
    intros
    exact finW_ret (by simp [get])
 ·rw [hi]
  rw [hf] at hS
  clear hjo2 hfo hjo
  have hi':decide ((j:Int)<0)=false:=by simp
  have hS2:S=c.2:=by rw [<-hS];rfl
  simp only [push_cast,seval,reduceEqDiff,hi',hget j c hj,if_pos (hjl j c hj),hS2,List.length_map]
  repeat' (first|(((first|apply condU_s|apply gdU_t|apply gdU_f)<;>intro _h)<;>simp only [push_cast,seval,reduceEqDiff,_h,hi',hget j c hj,if_pos (hjl j c hj),hS2,List.length_map])|(refine c_call (by exact hcut) ?_;simp only [push_cast,seval,reduceEqDiff,hi',hget j c hj,if_pos (hjl j c hj),hS2,List.length_map])|intro _)
  exact finW_ret (by simp [get])
def firstC {α:Type} (cs:List (Bytes × α)):List Bytes->Option α
 | []=>none
 | w::ws=>(findC cs w).or (firstC cs ws)
theorem findC_cons {α:Type} (c:Bytes × α) (cs:List (Bytes × α)) (k:Bytes):findC (c::cs) k=if c.1 == k then some c.2 else findC cs k:=by
 unfold findC
 rw [List.find?_cons]
 cases c.1 == k<;>rfl
set_option maxHeartbeats 4000000 in
theorem c_caseOf (l:Loc) (x:Part) (key:Bytes) (hr:(Loc.enc l).ok=true) (hrl:l.rest.length=11) (hb:wtRules l.card+wtRules l.ord<=2^24) (hkl:key.length<=2^30) (hk0:key≠[]) (hcl:x.cases.length<=2^40) (ho:findC x.cases kOtherS≠none) :
  RetS Tryz.prog W0 129 [l.enc,x.enc,.s key] [] (.sl (((pickR (clsN l x.kind) x.cases key).getD []).map Part.enc)) []:=by
 have hp:pickR (clsN l x.kind) x.cases key=firstC x.cases [key,if headEq key then clsN l x.kind key.tail else [],kOtherS]:=by
  unfold pickR firstC firstC firstC firstC;cases findC x.cases kOtherS<;>rfl
 rw [hp]
 generalize hS:(firstC x.cases [key,if headEq key then clsN l x.kind key.tail else [],kOtherS]).getD []=S
 have hho:firstC x.cases [key,if headEq key then clsN l x.kind key.tail else [],kOtherS]≠none:=by
  unfold firstC firstC firstC firstC
  cases h:findC x.cases kOtherS with
  | none=>exact absurd h ho
  | some y=>cases findC x.cases key<;>cases findC x.cases (if headEq key then clsN l x.kind key.tail else [])<;>simp
 clear hp ho
 rw [Loc.enc_eq]
 refine fn_retW (vs:=[.sl (S.map Part.enc)]) f129ok (by simp) (by simp) fun n0 hn0=>?_
 clear hn0
 cases key with
 | nil=>exact absurd rfl hk0
 | cons c t=>
 have hloop:∀(n:Nat) (W:List Bytes) (Q:Exit->St->Prop),W.length<=3->firstC x.cases W≠none->(firstC x.cases W).getD []=S->(∀n,Q .ret ⟨[(6,.sl (S.map Part.enc))],[((n0,4),.box (.agg [.i .i64 x.kind,.s x.text,.s x.name,.s x.style,.sl (x.cases.map Case.enc),.sl (x.parts.map Part.enc)]))],n⟩)->LoopW Tryz.prog W0 57 f129_16 Q ⟨[(4,.ref (n0,4) 0),(8,.sl (W.map V.s)),(9,.i .i64 0)],[((n0,4),.box (.agg [.i .i64 x.kind,.s x.text,.s x.name,.s x.style,.sl (x.cases.map Case.enc),.sl (x.parts.map Part.enc)]))],n⟩:=by
  intro n1 W Q hW hf hs hQ
  refine aWP_loopW W.length (Inv:=fun m st=>∃done rest n,W=done++rest/\m=rest.length/\firstC x.cases rest≠none/\(firstC x.cases rest).getD []=S/\st=⟨[(4,.ref (n0,4) 0),(8,.sl (W.map V.s)),(9,.i .i64 done.length)],[((n0,4),.box (.agg [.i .i64 x.kind,.s x.text,.s x.name,.s x.style,.sl (x.cases.map Case.enc),.sl (x.parts.map Part.enc)]))],n⟩) ⟨_,StLe.refl,[],W,_,rfl,rfl,hf,hs,rfl⟩ ?_
  clear hf hs n1
  rintro m _ ⟨done,rest,n,hz,rfl,hf,hs,rfl⟩
  cases rest with
  | nil=>exact absurd rfl hf
  | cons w rest=>
   have hbd:=zip_bd hz
   unfold firstC at hf hs
   simp only [push_cast,seval,reduceEqDiff,hz]
   intros
   refine aWP_loopW x.cases.length (Inv:=fun m st=>∃cd cr n,x.cases=cd++cr/\m=cr.length/\findC x.cases w=findC cr w/\st=⟨[(4,.ref (n0,4) 0),(8,.sl ((done++w::rest).map V.s)),(9,.i .i64 done.length),(10,.i .i64 cd.length)],[((n0,4),.box (.agg [.i .i64 x.kind,.s x.text,.s x.name,.s x.style,.sl (x.cases.map Case.enc),.sl (x.parts.map Part.enc)]))],n⟩) ⟨_,StLe.refl,[],x.cases,_,rfl,rfl,rfl,rfl⟩ ?_
   rintro m _ ⟨cd,cr,n2,hcz,rfl,hd,rfl⟩
   cases cr with
   | nil=>
    have hd2:findC x.cases w=none:=hd
    rw [hd2] at hf hs
    have hlt0:decide ((cd.length:Int)<(x.cases.length:Int))=false:=by rw [hcz];simp
    simp only [push_cast,seval,reduceEqDiff,hlt0,wrap_zip w (done:=done) (by omega)]
    intros
    exact ⟨_,_,Nat.lt_succ_self _,StLe.refl,done++[w],rest,_,by simp,rfl,hf,hs,rfl⟩
   | cons c cr=>
    rw [findC_cons] at hd
    have hcb:=zip_bd hcz
    have hlt0:decide ((cd.length:Int)<(x.cases.length:Int))=true:=by simp;omega
    have hget:(x.cases.map Case.enc)[cd.length]? = some (.agg [.s c.1,.sl (c.2.map Part.enc)]):=by
     rw [hcz,List.getElem?_map,List.getElem?_append_right (by simp)];simp [Case.enc_eq]
    simp only [push_cast,seval,reduceEqDiff,hlt0,hget,if_pos hcb,wrap_zip c (done:=cd) (by omega),List.length_map]
    repeat' (first|(((first|apply condU_s|apply gdU_t|apply gdU_f)<;>intro _h)<;>simp only [push_cast,seval,reduceEqDiff,_h,hlt0,hget,if_pos hcb,wrap_zip c (done:=cd) (by omega),List.length_map])|intro _)
    ·have hcw:=_h
     have hS2:S=c.2:=by
      rw [if_pos (by rw [hcw])] at hd
      rw [<-hs,hd];rfl
     rw [<-hS2]
     exact hQ _
    ·have hcw:=_h
     rw [if_neg (by rw [hcw];simp)] at hd
     exact ⟨_,_,Nat.lt_succ_self _,StLe.refl,cd++[c],cr,_,by rw [hcz];simp,rfl,hd,rfl⟩
 have hhe:headEq (c::t)=((c.toNat:Int) == 61):=rfl
 cases hh:headEq (c::t) with
 | false=>
  rw [hh] at hS hho hhe
  simp only [push_cast,seval,reduceEqDiff,<-hhe]
  intros
  refine loopW_le (StLe.drop (fun i e h=>lk_app_left (τ:=[_]) h) (Nat.le_refl _)) (hloop _ [c::t,[],kOtherS] _ (by simp) hho hS fun n=>?_)
  exact finW_ret (by simp [get])
 | true=>
  have hru:=c_rRules W0 l x.kind hr
  have hwr:wtRules (rulesOf l x.kind)<=2^30:=by unfold rulesOf;split<;>omega
  have hcl2:=c_rClassN W0 (rulesOf l x.kind) t (by simp at hkl;omega) hwr
  have hcn:clsN l x.kind (c::t).tail=(classV (rulesOf l x.kind) t).1:=rfl
  rw [hcn,hh] at hS hho
  rw [hh] at hhe
  generalize (classV (rulesOf l x.kind) t).1=CN at *
  generalize (classV (rulesOf l x.kind) t).2=CE at *
  rw [Loc.enc_eq] at hru
  have htk:List.take 11 l.rest=l.rest:=by rw [<-hrl,List.take_length]
  simp only [push_cast,seval,reduceEqDiff,<-hhe,htk,if_pos hrl,if_pos (Nat.le_refl _),List.take_length]
  repeat' (first|(((first|apply condU_s|apply gdU_t|apply gdU_f)<;>intro _h)<;>simp only [push_cast,seval,reduceEqDiff,_h,<-hhe,htk,if_pos hrl,if_pos (Nat.le_refl _),List.take_length])|((first|refine c_call (by exact hru) ?_|refine c_call (by exact hcl2) ?_);simp only [push_cast,seval,reduceEqDiff,<-hhe,htk,if_pos hrl,if_pos (Nat.le_refl _),List.take_length])|intro _)
  refine loopW_le (StLe.drop (fun i e h=>lk_app_left (τ:=[_]) h) (Nat.le_refl _)) (hloop _ [c::t,CN,kOtherS] _ (by simp) hho hS fun n=>?_)
  exact finW_ret (by simp [get])
end Go.Ir
section
namespace Go.Ir
open Go.Proofs
variable (W0 : World)
mutual
def Part.all (f:Part->Prop):Part->Prop
 | ⟨k,t,nm,st,cs,ps⟩=>f ⟨k,t,nm,st,cs,ps⟩/\allCs f cs/\allPs f ps
def allPs (f:Part->Prop):List Part->Prop
 | []=>True
 | p::ps=>p.all f/\allPs f ps
def allCs (f:Part->Prop):List (Bytes × List Part)->Prop
 | []=>True
 | (k,ps)::cs=>allPs f ps/\allCs f cs
end
theorem Part.all_eq (f:Part->Prop) (p:Part):p.all f↔f p/\allCs f p.cases/\allPs f p.parts:=by cases p;simp only [Part.all]
theorem allPs_cons (f:Part->Prop) (p:Part) (ps:List Part):allPs f (p::ps)↔p.all f/\allPs f ps:=by simp only [allPs]
theorem allCs_cons (f:Part->Prop) (c:Case) (cs:List Case):allCs f (c::cs)↔allPs f c.2/\allCs f cs:=by obtain ⟨a,b⟩:=c;simp only [allCs]
theorem allCs_mem {f:Part->Prop} {cs:List Case} (h:allCs f cs) {c:Case} (hc:c∈cs):allPs f c.2:=by
 induction cs with
 | nil=>cases hc
 | cons d cs ih=>
  rw [allCs_cons] at h
  rcases List.mem_cons.1 hc with rfl|hc
  ·exact h.1
  ·exact ih h.2 hc
def keyAt (L:List Sel) (keys:List Bytes) (k:Int) (nm:Bytes):Bytes:=keys[(findI L k nm).toNat]?.getD []
def pkP (l:Loc) (L:List Sel) (keys:List Bytes):Pick:=fun k nm cs=>(pickC (clsN l k) k cs (keyAt L keys k nm)).getD []
theorem pkP_picks (l:Loc) (L:List Sel) (keys:List Bytes):Picks (pkP l L keys):=by
 intro k nm cs
 unfold pkP
 cases h:pickC (clsN l k) k cs (keyAt L keys k nm) with
 | none=>left;rfl
 | some a=>right;obtain ⟨key,hk⟩:=pickC_mem h;exact ⟨key,hk⟩
def resOk (L:List Sel) (p:Part):Prop:=selB p.kind=true->¬findI L p.kind p.name<0/\findC p.cases kOtherS≠none
theorem rest11 {r:List V} (h:r.length=11):∃a b c d e f g i j k l,r=[a,b,c,d,e,f,g,i,j,k,l]:=by
 match r,h with
 | [a,b,c,d,e,f,g,i,j,k,l],_=>exact ⟨a,b,c,d,e,f,g,i,j,k,l,rfl⟩
theorem c_res1 (s:Sel) (x:Part) (xid:Id) (σ:Sto) (hx:lk σ xid=some (.box x.v)):RetS Tryz.prog W0 121 [s.enc,.ref xid 0] σ (.b (selIs x.kind x.name s)) σ:=by
 generalize hS:selIs x.kind x.name s=S
 unfold selIs at hS
 refine fn_retW (vs:=[.b S]) f121ok (by simp) (fun _ h=>h) fun n0 hn0=>?_
 have h1:∀j,((n0,j)=xid)=False:=fun j=>ne_idx (hn0 _ _ hx)
 unfold Part.v at hx
 simp only [push_cast,seval,reduceEqDiff,h1,hx]
 repeat' (first|(((first|apply condU_s|apply gdU_t|apply gdU_f)<;>intro _h)<;>simp only [push_cast,seval,reduceEqDiff,_h,h1,hx])|intro _)
 all_goals subst hS
 all_goals (refine finW_retS (by simp [get, *]) (fun i e h=>lk_fresh (hn0 i e h) h))
theorem finW_frzS {W0:World} {nt n s:Nat} {env:Env} {σ σ':Sto} {id:Id} {e sz:Nat} {es:List V} (hs:get env s = .arr id) (hok:∀y∈es,y.ok=true) (hl:lk σ id=some (.arr e sz es)) (hσ:∀i e',lk σ' i=some e'->lk σ i=some e'/\i≠id):FinW W0 nt [.t s] [.sl es] σ' .ret ⟨env,σ,n⟩:=by
 refine ⟨⟨[(s,.sl es)],σ',n⟩,StLe.weak (fun i=>if i=id then some es else none) (fun i es' h=>?_) (fun t=>?_) (fun i e' h=>⟨e',(hσ i e' h).1,.refl _⟩) (Nat.le_refl _),⟨by simp [ResOk,get],trivial⟩,fun _ _ h=>h⟩
 ·split at h
  ·rename_i hi;subst hi;cases h
   refine ⟨⟨e,sz,hl⟩,?_⟩
   cases hl2:lk σ' i with
   | none=>rfl
   | some e'=>exact absurd rfl (hσ i e' hl2).2
  ·cases h
 ·by_cases ht:s=t
  ·subst ht
   rw [hs]
   simp only [get,if_true]
   refine .arr id es es (by simp) rfl (fun k c c' h1 h2=>?_) (fun k c c' h1 h2=>?_)
   ·rw [h1] at h2;cases h2;exact .refl _
   ·rw [h1] at h2;cases h2
    have:=hok c (List.mem_of_getElem? h1)
    exact ⟨rfl,this,this⟩
  ·simp only [get,if_neg ht];exact .any _
def rV (l:Loc) (L:List Sel) (keys:List Bytes):V:=.agg (.s l.tag :: .s l.parent :: .s l.dir :: .sl (l.card.map Rule.enc) :: .sl (l.ord.map Rule.enc)::(l.rest++[.sl (L.map Sel.enc),.sl (keys.map V.s)]))
theorem over_3 {id a c:Id} {A X Y C:Ent} (h1:(id=a)=False) (h2:(id=c)=False):over [(id,X)] [] [(a,A),(id,Y),(c,C)]=[(a,A),(c,C)]:=by
 simp [over,lk,h1,h2,List.filter]
theorem snocLe {W0:World} {nt n n':Nat} {env:Env} {σ τ:Sto} {id:Id} {o:List Part} {v:V} {y:Part} (hv:∀φ,VLe φ v y.enc) (hl:(cells y.enc).length=(cells v).length) (hk:v.ok=true)
  (h0:lk σ id=some (.arr TPt 6 (o.map Part.enc++[v]))) (hτ:∀i e,lk τ i=some e->(i=id/\e = .arr TPt 6 ((o++[y]).map Part.enc))\/lk σ i=some e) (hn:n<=n'):StLe W0 nt ⟨env,σ,n⟩ ⟨env,τ,n'⟩:=by
 refine StLe.weak (fun _=>none) (fun _ _ h=>by cases h) (fun _=>.refl _) (fun i e hi=>?_) hn
 rcases hτ i e hi with ⟨rfl,rfl⟩|h
 ·refine ⟨_,h0,.arr _ _ _ _ (by simp) fun k c c' h1 h2=>?_⟩
  rw [List.map_append] at h2
  by_cases hk2:k<(o.map Part.enc).length
  ·rw [List.getElem?_append_left hk2] at h1 h2
   rw [h1] at h2;cases h2
   have hm:=List.mem_of_getElem? h1
   have:=okPt _ _ hm
   exact ⟨.refl _,rfl,this,this⟩
  ·rw [List.getElem?_append_right (by omega)] at h1 h2
   cases hq:k-(o.map Part.enc).length with
   | zero=>
    rw [hq] at h1 h2
    simp at h1 h2
    subst h1 h2
    exact ⟨hv _,hl,hk,okPt [y] _ (by simp)⟩
   | succ q=>rw [hq] at h1;simp at h1
 ·exact ⟨e,h,.refl _⟩
theorem vle_count (count:Bytes) (φ:Id->Option (List V)):VLe φ (.agg [.i .i64 3,.s [],.s count,.s [],.nil,.nil]) (Part.enc ⟨3,[],count,[],[],[]⟩):=by
 rw [Part.enc_eq]
 refine .agg _ _ rfl fun k c c' h1 h2=>?_
 match k with
 | 0=>simp at h1 h2;subst h1 h2;exact .refl _
 | 1=>simp at h1 h2;subst h1 h2;exact .refl _
 | 2=>simp at h1 h2;subst h1 h2;exact .refl _
 | 3=>simp at h1 h2;subst h1 h2;exact .refl _
 | 4=>simp at h1 h2;subst h1 h2;exact .nil
 | 5=>simp at h1 h2;subst h1 h2;exact .nil
 | k+6=>simp at h1
set_option maxHeartbeats 4000000 in
theorem adds_loop (rid:Id) (R:V) (a0 a2 a14 a15 a16:V) (RP:List Part) (n0:Nat) (hrid:rid.1<n0) (id0:Id) (o0:List Part) (m0:Nat) (hid0:n0<=id0.1) (hid1:id0.1<m0) (hw:tw o0+tw RP<=2^26) (Q:Exit->St->Prop)
  (hQ:∀id n,n0<=id.1->id.1<n->Q (.exit 3) ⟨[(0,a0),(2,a2),(7,.arr id),(14,a14),(15,a15),(16,a16),(54,.sl (RP.map Part.enc)),(55,.i .i64 RP.length),(56,.i .i64 RP.length),(57,.b false)],[(id,.arr TPt 6 ((RP.foldl addP o0).map Part.enc)),(rid,.box R)],n⟩) :
  LoopW Tryz.prog W0 89 f57_34 Q ⟨[(0,a0),(2,a2),(7,.arr id0),(14,a14),(15,a15),(16,a16),(54,.sl (RP.map Part.enc)),(55,.i .i64 RP.length),(56,.i .i64 0)],[(id0,.arr TPt 6 (o0.map Part.enc)),(rid,.box R)],m0⟩:=by
 generalize hS:RP.foldl addP o0=S at hQ
 have hrl:=len_tw RP
 have hRl:RP.length<=2^26:=by omega
 refine aWP_loopW RP.length (Inv:=fun m st=>∃done rest n id o,RP=done++rest/\m=rest.length/\rest.foldl addP o=S/\tw o+tw rest<=2^26/\n0<=id.1/\id.1<n/\st=⟨[(0,a0),(2,a2),(7,.arr id),(14,a14),(15,a15),(16,a16),(54,.sl (RP.map Part.enc)),(55,.i .i64 RP.length),(56,.i .i64 done.length)],[(id,.arr TPt 6 (o.map Part.enc)),(rid,.box R)],n⟩) ⟨_,StLe.refl,[],RP,_,_,o0,rfl,rfl,hS,hw,hid0,hid1,rfl⟩ ?_
 clear hS hw hid0 hid1
 rintro m _ ⟨done,rest,n,id,o,hz,rfl,hd,hw,hi0,hin,rfl⟩
 have fir:(id=rid)=False:=eq_false fun he=>by rw [he] at hi0;omega
 have fri:(rid=id)=False:=eq_false fun he=>of_eq_false fir he.symm
 cases rest with
 | nil=>
  rw [List.foldl_nil] at hd
  subst hd
  rw [hz] at hQ⊢
  simp only [List.append_nil] at hQ⊢
  simp only [push_cast,seval,reduceEqDiff]
  intros
  exact hQ _ _ hi0 (by omega)
 | cons p rest=>
  have hbd:=zip_bd hz
  rw [List.foldl_cons] at hd
  rw [tw_cons] at hw
  have hot:o.length<=2^30:=by have:=len_tw o;omega
  have hoT:∀y∈o,y.text.length<=2^30:=fun y hy=>by have:=text_tw hy;omega
  have hadd:=c_add W0 (some id) o p (fun h=>by cases h) hot hoT (by omega)
  rw [Part.enc_eq] at hadd
  have fix:∀k j,(id=(n+1+k,j))=False:=fun k j=>eq_false fun he=>by rw [he] at hin;simp at hin;omega
  have fxi:∀k j,((n+1+k,j)=id)=False:=fun k j=>eq_false fun he=>of_eq_false (fix k j) he.symm
  have frx:∀k j,(rid=(n+1+k,j))=False:=fun k j=>eq_false fun he=>by rw [he] at hrid;simp at hrid;omega
  simp only [push_cast,seval,reduceEqDiff,hz,wrap_zip p (done:=done) (by omega),fix,fxi,frx]
  intros
  refine c_calln hadd (fun i e h=>?_) ?_
  ·simp only [oE,lk] at h
   split at h
   ·rename_i he;subst he;simp only [lk,fxi,if_false,if_true];exact h
   ·cases h
  rw [show oE (some id) o=[(id,.arr TPt 6 (o.map Part.enc))] from rfl,over_3 (fix _ _) fir]
  simp only [push_cast,seval,reduceEqDiff,hz,wrap_zip p (done:=done) (by omega),fix,fxi,frx]
  intros
  exact ⟨_,_,Nat.lt_succ_self _,StLe.dropM (by simp [lk,frx]) (Nat.le_refl _),done++[p],rest,_,_,addP o p,by simp,rfl,hd,by have:=tw_add o p;omega,by (try simp);omega,by (try simp);omega,rfl⟩
set_option maxHeartbeats 4000000 in
theorem c_resolve (l:Loc) (L:List Sel) (keys:List Bytes) (rid:Id) (hr:(Loc.enc l).ok=true) (hrl:l.rest.length=11) (hb:wtRules l.card+wtRules l.ord<=2^24) (hLl:L.length<=2^26) (hkl:keys.length=L.length) (hkb:∀k∈keys,k.length<=2^30) :
  ∀(N:Nat) (ps:List Part) (count:Bytes),wtPs ps<N->wtPs ps<=2^24->allPs (resOk L) ps->
  RetS Tryz.prog W0 57 [.ref rid 0,.sl (ps.map Part.enc),.s count] [(rid,.box (rV l L keys))] (.sl ((resPs (pkP l L keys) count ps []).map Part.enc)) [(rid,.box (rV l L keys))]:=by
 intro N
 induction N with
 | zero=>intro ps count h;omega
 | succ N ih=>
 intro ps count hN hw0 ha
 have hlen:=len_wtPs ps
 have hpk:=pkP_picks l L keys
 generalize hP:pkP l L keys=pk at *
 generalize hS:resPs pk count ps []=S
 refine fn_retW (vs:=[.sl (S.map Part.enc)]) f57ok (by simp) (fun _ h=>h) fun n0 hn0=>?_
 have hrid:rid.1<n0:=hn0 rid (.box (rV l L keys)) (by simp [lk])
 clear hn0
 have fr:∀a j,n0<=a->((a,j)=rid)=False:=fun a j h=>ne_idx (by omega)
 have fr':∀a j,n0<=a->(rid=(a,j))=False:=fun a j h=>eq_false fun he=>of_eq_false (fr a j h) he.symm
 simp only [push_cast,seval,reduceEqDiff]
 intros
 refine aWP_loopW ps.length (Inv:=fun m st=>∃done rest n id o,ps=done++rest/\m=rest.length/\resPs pk count rest o=S/\tw o+wtPs rest<=2^25/\allPs (resOk L) rest/\n0<=id.1/\id.1<n/\st=⟨[(0,.ref rid 0),(2,.s count),(7,.arr id),(14,.sl (ps.map Part.enc)),(15,.i .i64 ps.length),(16,.i .i64 done.length)],[(id,.arr TPt 6 (o.map Part.enc)),(rid,.box (rV l L keys))],n⟩) ⟨_,(StLe.own (s:=7) (e:=TPt) (sz:=6) (k:=99) rfl).trans (StLe.envD (fun t=>?_) (Nat.le_refl _)),[],ps,_,_,[],rfl,rfl,hS,by rw [tw_nil];omega,ha,?_,?_,rfl⟩ ?_
 ·left
  by_cases h3:7=t
  ·subst h3;rfl
  ·simp [get,h3]
 ·simp;omega
 ·simp
 clear hS ha
 rintro m _ ⟨done,rest,n,id,o,hz,rfl,hd,hw,ha,hi0,hin,rfl⟩
 have fir:(id=rid)=False:=eq_false fun he=>by rw [he] at hi0;omega
 have fri:(rid=id)=False:=eq_false fun he=>of_eq_false fir he.symm
 cases rest with
 | nil=>
  rw [resPs] at hd
  subst hd
  simp only [push_cast,seval,reduceEqDiff,hz]
  intros
  exact finW_frzS (e:=TPt) (sz:=6) rfl (okPt _) (by simp [lk,fri]) (fun i e h=>by
   simp only [lk] at h⊢
   split at h
   ·rename_i he;subst he;rw [if_neg (of_eq_false fir),if_pos rfl];exact ⟨h,of_eq_false fri⟩
   ·cases h)
 | cons p rest=>
  have hbd:=zip_bd hz
  have hwp:=wtPs_mem (ps:=ps) (p:=p) (by rw [hz];simp)
  rw [wtPs_cons] at hw
  have hpw:=p.wt_eq
  rw [allPs_cons,p.all_eq] at ha
  obtain ⟨⟨ha1,ha2,ha3⟩,ha4⟩:=ha
  rw [resPs_cons,p.res_eq] at hd
  have hsel:=c_sSel W0 p.kind
  have fix:∀k j,(id=(n+1+k,j))=False:=fun k j=>eq_false fun he=>by rw [he] at hin;simp at hin;omega
  have fxi:∀k j,((n+1+k,j)=id)=False:=fun k j=>eq_false fun he=>of_eq_false (fix k j) he.symm
  have frx:∀k j,(rid=(n+1+k,j))=False:=fun k j=>fr' _ _ (by omega)
  have fxr:∀k j,((n+1+k,j)=rid)=False:=fun k j=>fr _ _ (by omega)
  have hot:o.length<=2^30:=by have:=len_tw o;omega
  have hoT:∀y∈o,y.text.length<=2^30:=fun y hy=>by have:=text_tw hy;omega
  have hadd:=c_add W0 (some id) o p (fun h=>by cases h) hot hoT (by omega)
  rw [Part.enc_eq] at hadd
  have hsub:∀X:Id × Ent,X.1≠id->∀i e,lk (oE (some id) o) i=some e->lk [X,(id,.arr TPt 6 (o.map Part.enc)),(rid,.box (rV l L keys))] i=some e:=by
   intro X hX i e h
   simp only [oE,lk] at h
   split at h
   ·rename_i he;subst he;obtain ⟨a,b⟩:=X;simp only [lk,if_neg hX,if_true];exact h
   ·cases h
  cases hs:selB p.kind with
  | false=>
   rw [hs] at hd hsel
   have hll:o.length+1<=LLim:=by unfold LLim;omega
   cases h10:p.kind == 10 with
   | true=>
    rw [h10] at hd
    simp only [bq,if_true,if_false,Int.reduceBEq,reduceCtorEq] at hd
    simp only [push_cast,seval,reduceEqDiff,hz,wrap_zip p (done:=done) (by omega),fix,fxi,frx,fxr,fir,fri,h10,eq_true hll,List.length_map,TPt]
    repeat' (first|(((first|apply condU_s|apply gdU_t|apply gdU_f)<;>intro _h)<;>simp only [push_cast,seval,reduceEqDiff,_h,hz,wrap_zip p (done:=done) (by omega),fix,fxi,frx,fxr,fir,fri,h10,eq_true hll,List.length_map,TPt])|(refine c_call (by exact hsel) ?_;simp only [push_cast,seval,reduceEqDiff,hz,wrap_zip p (done:=done) (by omega),fix,fxi,frx,fxr,fir,fri,h10,eq_true hll,List.length_map,TPt])|intro _)
    rename_i k1 k2 k3 k4 k5 k6
    exact ⟨_,_,Nat.lt_succ_self _,snocLe (id:=(n+1+k1+1+k2+1+k3+1+k4,72)) (o:=o) (vle_count count) (by rw [Part.enc_eq];rfl) rfl (by simp [lk,TPt]) (fun i e h=>by
     simp only [lk] at h⊢
     split at h
     ·rename_i he;subst he;left;cases h;exact ⟨rfl,rfl⟩
     ·rename_i he;rw [if_neg he];right
      rw [if_neg (fun h2=>by rw [<-h2] at h;simp [frx,frx] at h)]
      exact h) (Nat.le_refl _),done++[p],rest,_,_,o++[⟨3,[],count,[],[],[]⟩],by simp,rfl,hd,by rw [tw_app,tw_cons,tw_nil];simp only [List.length_nil];omega,ha4,by simp;omega,by simp;omega,rfl⟩
   | false=>
    rw [h10] at hd
    cases h11:p.kind == 11 with
    | true=>
     rw [h11] at hd
     simp only [bq,if_true,if_false,Int.reduceBEq,reduceCtorEq] at hd
     have hre:=ih p.parts count (by omega) (by omega) ha3
     generalize hRP:resPs pk count p.parts []=RP at *
     have hnv:List.map Part.enc o++[V.agg [.i .i64 p.kind,.s p.text,.s p.name,.s p.style,.sl (p.cases.map Case.enc),.sl (RP.map Part.enc)]]=List.map Part.enc (o++[⟨p.kind,p.text,p.name,p.style,p.cases,RP⟩]):=by
      rw [List.map_append,List.map_cons,Part.enc_eq ⟨p.kind,p.text,p.name,p.style,p.cases,RP⟩];rfl
     simp only [push_cast,seval,reduceEqDiff,hz,wrap_zip p (done:=done) (by omega),fix,fxi,frx,fxr,fir,fri,h10,h11,eq_true hll,List.length_map,TPt,hnv]
     repeat' (first|(((first|apply condU_s|apply gdU_t|apply gdU_f)<;>intro _h)<;>simp only [push_cast,seval,reduceEqDiff,_h,hz,wrap_zip p (done:=done) (by omega),fix,fxi,frx,fxr,fir,fri,h10,h11,eq_true hll,List.length_map,TPt,hnv])|(refine c_call (by exact hsel) ?_;simp only [push_cast,seval,reduceEqDiff,hz,wrap_zip p (done:=done) (by omega),fix,fxi,frx,fxr,fir,fri,h10,h11,eq_true hll,List.length_map,TPt,hnv])|intro _)
     refine c_callr hre (fun i e h=>?_) ?_
     ·simp only [lk] at h
      split at h
      ·rename_i he;subst he;simp only [lk,fxr,fir,if_false,if_true];exact h
      ·cases h
     simp only [push_cast,seval,reduceEqDiff,hz,wrap_zip p (done:=done) (by omega),fix,fxi,frx,fxr,fir,fri,h10,h11,eq_true hll,List.length_map,TPt,hnv]
     intros
     exact ⟨_,_,Nat.lt_succ_self _,StLe.dropM (by simp [lk,frx]) (Nat.le_refl _),done++[p],rest,_,_,o++[⟨p.kind,p.text,p.name,p.style,p.cases,RP⟩],by simp,rfl,hd,by rw [tw_app,tw_cons,tw_nil];simp only;omega,ha4,by simp;omega,by simp;omega,rfl⟩
    | false=>
     rw [h11] at hd
     simp only [bq,if_true,if_false,Int.reduceBEq,reduceCtorEq] at hd
     simp only [push_cast,seval,reduceEqDiff,hz,wrap_zip p (done:=done) (by omega),fix,fxi,frx,fxr,fir,fri,h10,h11]
     repeat' (first|(((first|apply condU_s|apply gdU_t|apply gdU_f)<;>intro _h)<;>simp only [push_cast,seval,reduceEqDiff,_h,hz,wrap_zip p (done:=done) (by omega),fix,fxi,frx,fxr,fir,fri,h10,h11])|(refine c_call (by exact hsel) ?_;simp only [push_cast,seval,reduceEqDiff,hz,wrap_zip p (done:=done) (by omega),fix,fxi,frx,fxr,fir,fri,h10,h11])|intro _)
     rename_i k1 k2 k3 k4 k5
     refine c_calln hadd (hsub _ (of_eq_false (fxi _ _))) ?_
     rw [show oE (some id) o=[(id,.arr TPt 6 (o.map Part.enc))] from rfl,over_3 (fix _ _) fir]
     simp only [push_cast,seval,reduceEqDiff,hz,wrap_zip p (done:=done) (by omega),fix,fxi,frx,fxr,fir,fri,h10,h11]
     intros
     exact ⟨_,_,Nat.lt_succ_self _,StLe.dropM (by simp [lk,frx]) (Nat.le_refl _),done++[p],rest,_,_,addP o p,by simp,rfl,hd,by have:=tw_add o p;omega,ha4,by simp;omega,by simp;omega,rfl⟩
  | true=>
   rw [hs] at hd hsel
   simp only [bq,if_true,if_false,Int.reduceBEq,reduceCtorEq] at hd
   obtain ⟨hf0,hoc⟩:=ha1 hs
   have hjlt:=idxI_lt (selIs p.kind p.name) L
   obtain ⟨j,hj⟩:∃j:Nat,findI L p.kind p.name=j:=⟨(findI L p.kind p.name).toNat,by omega⟩
   have hj2:j<keys.length:=by
    rw [show idxI (selIs p.kind p.name) L=findI L p.kind p.name from rfl,hj] at hjlt;omega
   have hkj:keys[j]? = some keys[j]:=List.getElem?_eq_getElem hj2
   have hka:keyAt L keys p.kind p.name=keys[j]:=by unfold keyAt;rw [hj,Int.toNat_natCast,hkj];rfl
   have hkl2:keys[j].length<=2^30:=hkb _ (List.getElem_mem hj2)
   have hlc:=len_wtCs p.cases
   have hch:=c_chosen W0 l p keys[j] hr hrl hb hkl2 (by omega) hoc
   have hpe:∀cs,pk p.kind p.name cs=(pickC (clsN l p.kind) p.kind cs keys[j]).getD []:=fun cs=>by rw [<-hP];unfold pkP;rw [hka]
   rw [hpe,resCs_map,pickC_map (fun q=>resPs pk (if p.kind == 9 then count else p.name) q [])] at hd
   obtain ⟨CP,hCP,hCa⟩:∃CP,pickC (clsN l p.kind) p.kind p.cases keys[j]=some CP/\∃k,(k,CP)∈p.cases:=by
    cases h:pickC (clsN l p.kind) p.kind p.cases keys[j] with
    | none=>
     exfalso
     unfold pickC at h
     cases h1:findC p.cases kOtherS with
     | none=>exact hoc h1
     | some y=>
      rw [h1] at h
      cases h2:findC p.cases keys[j] with
      | some z=>rw [h2] at h;cases h
      | none=>
       rw [h2] at h
       split at h
       ·cases h3:findC p.cases (clsN l p.kind keys[j].tail) with
        | none=>rw [h3] at h;cases h
        | some z=>rw [h3] at h;cases h
       ·cases h
    | some CP=>exact ⟨CP,rfl,pickC_mem h⟩
   obtain ⟨ck,hCm⟩:=hCa
   rw [hCP] at hch hd
   simp only [Option.getD_some,Option.map_some] at hch hd
   have hcw:=wtCs_mem hCm
   have hcall:=allCs_mem ha2 hCm
   have hre:=fun cnt=>ih CP cnt (by simp only at hcw;omega) (by simp only at hcw;omega) hcall
   have hif:=fun (xid:Id)=>indexFunc_ret (P:=Tryz.prog) (W0:=W0) (f:=120) (e:=TS) (sz:=3) (ag:=true) (by kernel_rfl) Sel.enc L (selIs p.kind p.name) 121 [] [.ref xid 0] [(xid,.box p.v)] (fun s _=>elOk_agg rfl) (fun s _=>c_res1 W0 s p _ _ (by simp [lk])) (by omega)
   rw [show idxI (selIs p.kind p.name) L=findI L p.kind p.name from rfl,hj] at hif
   unfold Part.v at hif
   rw [Loc.enc_eq,Part.enc_eq] at hch
   obtain ⟨r1,r2,r3,r4,r5,r6,r7,r8,r9,r10,r11,hrest⟩:=rest11 hrl
   have hRV:rV l L keys = .agg [.s l.tag,.s l.parent,.s l.dir,.sl (l.card.map Rule.enc),.sl (l.ord.map Rule.enc),r1,r2,r3,r4,r5,r6,r7,r8,r9,r10,r11,.sl (L.map Sel.enc),.sl (keys.map V.s)]:=by
    unfold rV;rw [hrest];rfl
   rw [hrest] at hch
   simp only [hRV] at hre⊢
   have hks:(keys.map V.s)[j]? = some (.s keys[j]):=by rw [List.getElem?_map,hkj];rfl
   cases h9:p.kind == 9 with
   | true=>
    have hn9:(p.kind != 9)=false:=by simp [bne,h9]
    rw [h9] at hd
    simp only [bq,if_true,if_false,Int.reduceBEq,reduceCtorEq] at hd
    simp only [push_cast,seval,reduceEqDiff,hz,wrap_zip p (done:=done) (by omega),fix,fxi,frx,fxr,fir,fri,hn9,hks,if_pos hj2,List.length_map]
    repeat' (first|(((first|apply condU_s|apply gdU_t|apply gdU_f)<;>intro _h)<;>simp only [push_cast,seval,reduceEqDiff,_h,hz,wrap_zip p (done:=done) (by omega),fix,fxi,frx,fxr,fir,fri,hn9,hks,if_pos hj2,List.length_map])|(refine c_call (by exact hsel) ?_;simp only [push_cast,seval,reduceEqDiff,hz,wrap_zip p (done:=done) (by omega),fix,fxi,frx,fxr,fir,fri,hn9,hks,if_pos hj2,List.length_map])|intro _)
    refine c_callr (hif _) (fun i e h=>?_) ?_
    ·simp only [lk] at h⊢
     split at h
     ·rename_i he;rw [if_pos he];exact h
     ·cases h
    simp only [push_cast,seval,reduceEqDiff,hz,wrap_zip p (done:=done) (by omega),fix,fxi,frx,fxr,fir,fri,hn9,hks,if_pos hj2,List.length_map]
    intros
    refine c_call hch ?_
    simp only [push_cast,seval,reduceEqDiff,hz,wrap_zip p (done:=done) (by omega),fix,fxi,frx,fxr,fir,fri,hn9,hks,if_pos hj2,List.length_map]
    refine c_callr (hre count) (fun i e h=>?_) ?_
    ·simp only [lk] at h
     split at h
     ·rename_i he;subst he;simp only [lk,fxr,fir,if_false,if_true];exact h
     ·cases h
    have htr:=(res_w pk hpk _ CP (Nat.lt_succ_self _) count []).1
    rw [tw_nil] at htr
    have htw:=tw_adds (resPs pk count CP []) o
    simp only [push_cast,seval,reduceEqDiff,hz,wrap_zip p (done:=done) (by omega),fix,fxi,frx,fxr,fir,fri,hn9,hks,if_pos hj2,List.length_map]
    intros
    generalize resPs pk count CP []=RP at *
    refine loopW_le (StLe.drop (fun i e h=>lk_drop1 (by simp [lk,frx,fix]) i e h) (Nat.le_refl _)) (adds_loop W0 rid _ _ _ _ _ _ RP n0 hrid id o _ hi0 (by omega) (by simp only at hcw;omega) _ fun id2 n2 h1 h2=>?_)
    simp only [push_cast,seval,reduceEqDiff,hz,wrap_zip p (done:=done) (by omega),fix,fxi,frx,fxr,fir,fri,hn9,hks,if_pos hj2,List.length_map]
    intros
    exact ⟨_,_,Nat.lt_succ_self _,StLe.refl,done++[p],rest,_,_,RP.foldl addP o,by simp,rfl,hd,by simp only at hcw;omega,ha4,by (try simp);omega,by (try simp);omega,rfl⟩
   | false=>
    have hn9:(p.kind != 9)=true:=by simp [bne,h9]
    rw [h9] at hd
    simp only [bq,if_true,if_false,Int.reduceBEq,reduceCtorEq] at hd
    simp only [push_cast,seval,reduceEqDiff,hz,wrap_zip p (done:=done) (by omega),fix,fxi,frx,fxr,fir,fri,hn9,hks,if_pos hj2,List.length_map]
    repeat' (first|(((first|apply condU_s|apply gdU_t|apply gdU_f)<;>intro _h)<;>simp only [push_cast,seval,reduceEqDiff,_h,hz,wrap_zip p (done:=done) (by omega),fix,fxi,frx,fxr,fir,fri,hn9,hks,if_pos hj2,List.length_map])|(refine c_call (by exact hsel) ?_;simp only [push_cast,seval,reduceEqDiff,hz,wrap_zip p (done:=done) (by omega),fix,fxi,frx,fxr,fir,fri,hn9,hks,if_pos hj2,List.length_map])|intro _)
    refine c_callr (hif _) (fun i e h=>?_) ?_
    ·simp only [lk] at h⊢
     split at h
     ·rename_i he;rw [if_pos he];exact h
     ·cases h
    simp only [push_cast,seval,reduceEqDiff,hz,wrap_zip p (done:=done) (by omega),fix,fxi,frx,fxr,fir,fri,hn9,hks,if_pos hj2,List.length_map]
    intros
    refine c_call hch ?_
    simp only [push_cast,seval,reduceEqDiff,hz,wrap_zip p (done:=done) (by omega),fix,fxi,frx,fxr,fir,fri,hn9,hks,if_pos hj2,List.length_map]
    refine c_callr (hre p.name) (fun i e h=>?_) ?_
    ·simp only [lk] at h
     split at h
     ·rename_i he;subst he;simp only [lk,fxr,fir,if_false,if_true];exact h
     ·cases h
    have htr:=(res_w pk hpk _ CP (Nat.lt_succ_self _) p.name []).1
    rw [tw_nil] at htr
    have htw:=tw_adds (resPs pk p.name CP []) o
    simp only [push_cast,seval,reduceEqDiff,hz,wrap_zip p (done:=done) (by omega),fix,fxi,frx,fxr,fir,fri,hn9,hks,if_pos hj2,List.length_map]
    intros
    generalize resPs pk p.name CP []=RP at *
    refine loopW_le (StLe.drop (fun i e h=>lk_drop1 (by simp [lk,frx,fix]) i e h) (Nat.le_refl _)) (adds_loop W0 rid _ _ _ _ _ _ RP n0 hrid id o _ hi0 (by omega) (by simp only at hcw;omega) _ fun id2 n2 h1 h2=>?_)
    simp only [push_cast,seval,reduceEqDiff,hz,wrap_zip p (done:=done) (by omega),fix,fxi,frx,fxr,fir,fri,hn9,hks,if_pos hj2,List.length_map]
    intros
    exact ⟨_,_,Nat.lt_succ_self _,StLe.refl,done++[p],rest,_,_,RP.foldl addP o,by simp,rfl,hd,by simp only at hcw;omega,ha4,by (try simp);omega,by (try simp);omega,rfl⟩
end Go.Ir
end
namespace Go.Ir
open Go.Proofs
variable (W0 : World)
theorem c_rFindS (k:Int) (n:Bytes) (L:List Sel) (hl:L.length<=2^40):RetS Tryz.prog W0 83 [.sl (L.map Sel.enc),.i .i64 k,.s n] [] (.i .i64 (findI L k n)) []:=by
 generalize hS:findI L k n=S
 unfold findI at hS
 refine fn_retW (vs:=[.i .i64 S]) f83ok (by simp) (by simp) fun n0 hn0=>?_
 clear hn0
 simp only [push_cast,seval,reduceEqDiff]
 intros
 refine aWP_loopW L.length (Inv:=fun m st=>∃done rest n1,L=done++rest/\m=rest.length/\(if idxI (selIs k n) rest<0 then -1 else idxI (selIs k n) rest+done.length)=S/\st=⟨[(0,.sl (L.map Sel.enc)),(1,.i .i64 k),(2,.s n),(7,.i .i64 done.length)],[],n1⟩) ⟨_,StLe.refl,[],_,_,rfl,rfl,?_,rfl⟩ ?_
 ·have:=idxI_lo (selIs k n) L
  rw [<-hS];simp;omega
 clear hS
 rintro m _ ⟨done,rest,n1,hz,rfl,hd,rfl⟩
 cases rest with
 | nil=>
  simp only [push_cast,seval,reduceEqDiff,hz]
  intros
  refine finW_ret ?_
  rw [<-hd];simp [idxI,get]
 | cons x rest=>
  have hb:=zip_bd hz
  have hlo:=idxI_lo (selIs k n) rest
  have hsi:selIs k n x=(x.kind == k&&x.name == n):=rfl
  simp only [idxI,hsi] at hd
  simp only [push_cast,seval,reduceEqDiff,hz,wrap_zip x (done:=done) (by omega)]
  repeat' (first|(((first|apply condU_s|apply gdU_t|apply gdU_f)<;>intro _h)<;>simp only [push_cast,seval,reduceEqDiff,_h,hz,wrap_zip x (done:=done) (by omega)])|intro _)
  ·rename_i h1 _ _ _
   subst hd
   refine finW_ret ?_
   simp only [*,Bool.true_and,cond_true]
   simp [get]
  all_goals (refine ⟨_,_,Nat.lt_succ_self _,StLe.refl,done++[x],rest,_,by simp,rfl,?_,rfl⟩)
  all_goals
   rw [<-hd]
   simp only [*,Bool.true_and,Bool.false_and,cond_false]
   by_cases h:idxI (selIs k n) rest<0
   ·simp [h]
   ·simp [h];rw [if_neg (by omega)];omega
def pkR (l:Loc) (L:List Sel) (keys:List Bytes):Pick:=fun k nm cs=>(pickR (clsN l k) cs (keyAt L keys k nm)).getD []
theorem pickR_mem {α:Type} {cls:Bytes->Bytes} {cs:List (Bytes × α)} {key:Bytes} {a:α} (h:pickR cls cs key=some a):∃k,(k,a)∈cs:=by
 unfold pickR at h
 rcases or_some h with h|h
 ·exact ⟨_,findC_mem h⟩
 ·rcases or_some h with h|h
  ·exact ⟨_,findC_mem h⟩
  ·exact ⟨_,findC_mem h⟩
theorem pkR_picks (l:Loc) (L:List Sel) (keys:List Bytes):Picks (pkR l L keys):=by
 intro k nm cs
 unfold pkR
 cases h:pickR (clsN l k) cs (keyAt L keys k nm) with
 | none=>left;rfl
 | some a=>right;obtain ⟨key,hk⟩:=pickR_mem h;exact ⟨key,hk⟩
theorem vle_elem (k:Int) (nm:Bytes) (ps:List Part) (φ:Id->Option (List V)):VLe φ (.agg [.i .i64 k,.s [],.s nm,.s [],.nil,.sl (ps.map Part.enc)]) (Part.enc ⟨k,[],nm,[],[],ps⟩):=by
 rw [Part.enc_eq]
 refine .agg _ _ rfl fun k c c' h1 h2=>?_
 match k with
 | 0=>simp at h1 h2;subst h1 h2;exact .refl _
 | 1=>simp at h1 h2;subst h1 h2;exact .refl _
 | 2=>simp at h1 h2;subst h1 h2;exact .refl _
 | 3=>simp at h1 h2;subst h1 h2;exact .refl _
 | 4=>simp at h1 h2;subst h1 h2;exact .nil
 | 5=>simp at h1 h2;subst h1 h2;exact .refl _
 | k+6=>simp at h1
set_option maxHeartbeats 4000000 in
theorem c_rResolve (l:Loc) (L:List Sel) (keys:List Bytes) (hr:(Loc.enc l).ok=true) (hrl:l.rest.length=11) (hb:wtRules l.card+wtRules l.ord<=2^24) (hLl:L.length<=2^26) (hkl:keys.length=L.length) (hkb:∀k∈keys,k.length<=2^30) (hk0:∀k∈keys,k≠[]) :
  ∀(N:Nat) (ps:List Part) (count:Bytes),wtPs ps<N->wtPs ps<=2^24->allPs (resOk L) ps->
  RetS Tryz.prog W0 61 [l.enc,.sl (ps.map Part.enc),.sl (L.map Sel.enc),.sl (keys.map V.s),.s count] [] (.sl ((rresPs (pkR l L keys) count ps []).map Part.enc)) []:=by
 intro N
 induction N with
 | zero=>intro ps count h;omega
 | succ N ih=>
 intro ps count hN hw0 ha
 have hlen:=len_wtPs ps
 have hpk:=pkR_picks l L keys
 generalize hP:pkR l L keys=pk at *
 generalize hS:rresPs pk count ps []=S
 obtain ⟨r1,r2,r3,r4,r5,r6,r7,r8,r9,r10,r11,hrest⟩:=rest11 hrl
 have hLV:l.enc = .agg [.s l.tag,.s l.parent,.s l.dir,.sl (l.card.map Rule.enc),.sl (l.ord.map Rule.enc),r1,r2,r3,r4,r5,r6,r7,r8,r9,r10,r11]:=by
  rw [Loc.enc_eq,hrest]
 simp only [hLV] at ih⊢
 refine fn_retW (vs:=[.sl (S.map Part.enc)]) f61ok (by simp) (by simp) fun n0 hn0=>?_
 clear hn0
 simp only [push_cast,seval,reduceEqDiff]
 intros
 refine aWP_loopW ps.length (Inv:=fun m st=>∃done rest n id o,ps=done++rest/\m=rest.length/\rresPs pk count rest o=S/\tw o+wtPs rest<=2^25/\allPs (resOk L) rest/\n0<id.1/\id.1<n/\st=⟨[(1,.sl (ps.map Part.enc)),(2,.sl (L.map Sel.enc)),(3,.sl (keys.map V.s)),(4,.s count),(5,.ref (n0,5) 0),(11,.arr id),(12,.i .i64 done.length)],[(id,.arr TPt 6 (o.map Part.enc)),((n0,5),.box (.agg [.s l.tag,.s l.parent,.s l.dir,.sl (l.card.map Rule.enc),.sl (l.ord.map Rule.enc),r1,r2,r3,r4,r5,r6,r7,r8,r9,r10,r11]))],n⟩) ⟨_,(StLe.own (s:=11) (e:=TPt) (sz:=6) (k:=99) rfl).trans (StLe.envD (fun t=>?_) (Nat.le_refl _)),[],ps,_,_,[],rfl,rfl,hS,by rw [tw_nil];omega,ha,?_,?_,rfl⟩ ?_
 ·left
  by_cases h3:11=t
  ·subst h3;rfl
  ·simp [get,h3]
 ·simp;omega
 ·simp
 clear hS ha
 rintro m _ ⟨done,rest,n,id,o,hz,rfl,hd,hw,ha,hi0,hin,rfl⟩
 have fir:(id=(n0,5))=False:=eq_false fun he=>by rw [he] at hi0;simp at hi0
 have fri:((n0,5)=id)=False:=eq_false fun he=>of_eq_false fir he.symm
 cases rest with
 | nil=>
  rw [rresPs] at hd
  subst hd
  simp only [push_cast,seval,reduceEqDiff,hz]
  intros
  exact finW_frz (e:=TPt) (sz:=6) rfl (okPt _) (by simp [lk,fri])
 | cons p rest=>
  have hbd:=zip_bd hz
  have hwp:=wtPs_mem (ps:=ps) (p:=p) (by rw [hz];simp)
  rw [wtPs_cons] at hw
  have hpw:=p.wt_eq
  rw [allPs_cons,p.all_eq] at ha
  obtain ⟨⟨ha1,ha2,ha3⟩,ha4⟩:=ha
  rw [rresPs_cons,p.rres_eq] at hd
  have hsel:=c_rSel W0 p.kind
  have fix:∀k j,(id=(n+1+k,j))=False:=fun k j=>eq_false fun he=>by rw [he] at hin;simp at hin;omega
  have fxi:∀k j,((n+1+k,j)=id)=False:=fun k j=>eq_false fun he=>of_eq_false (fix k j) he.symm
  have frx:∀k j,((n0,5)=(n+1+k,j))=False:=fun k j=>eq_false fun he=>by injection he with h1 h2;omega
  have fxr:∀k j,((n+1+k,j)=(n0,5))=False:=fun k j=>eq_false fun he=>by injection he with h1 h2;omega
  have hot:o.length<=2^30:=by have:=len_tw o;omega
  have hoT:∀y∈o,y.text.length<=2^30:=fun y hy=>by have:=text_tw hy;omega
  have hjoin:=fun b hb1 hb2=>c_rJoin W0 (some id) o b (fun h=>by cases h) hot hb1 hoT hb2
  have hll:o.length+1<=LLim:=by unfold LLim;omega
  cases h10:p.kind == 10 with
  | true=>
   rw [h10] at hd
   simp only [bq,if_true,if_false,Int.reduceBEq,reduceCtorEq] at hd
   simp only [push_cast,seval,reduceEqDiff,hz,wrap_zip p (done:=done) (by omega),fix,fxi,frx,fxr,fir,fri,h10,eq_true hll,List.length_map,TPt]
   intro k1 k2 k3 k4 k5
   exact ⟨_,_,Nat.lt_succ_self _,snocLe (id:=(n+1+k1+1+k2+1+k3,38)) (o:=o) (vle_count count) (by rw [Part.enc_eq];rfl) rfl (by simp [lk,TPt]) (fun i e h=>by
     simp only [lk] at h⊢
     split at h
     ·rename_i he;subst he;left;cases h;exact ⟨rfl,rfl⟩
     ·rename_i he;rw [if_neg he];right
      rw [if_neg (fun h2=>by rw [<-h2] at h;simp [frx] at h)]
      exact h) (Nat.le_refl _),done++[p],rest,_,_,o++[⟨3,[],count,[],[],[]⟩],by simp,rfl,hd,by rw [tw_app,tw_cons,tw_nil];simp only [List.length_nil];omega,ha4,by simp;omega,by simp;omega,rfl⟩
  | false=>
   rw [h10] at hd
   cases h11:p.kind == 11 with
   | true=>
    rw [h11] at hd
    simp only [bq,if_true,if_false,Int.reduceBEq,reduceCtorEq] at hd
    have hre:=ih p.parts count (by omega) (by omega) ha3
    generalize hRP:rresPs pk count p.parts []=RP at *
    simp only [push_cast,seval,reduceEqDiff,hz,wrap_zip p (done:=done) (by omega),fix,fxi,frx,fxr,fir,fri,h10,h11,eq_true hll,List.length_map,TPt]
    repeat' (first|(((first|apply condU_s|apply gdU_t|apply gdU_f)<;>intro _h)<;>simp only [push_cast,seval,reduceEqDiff,_h,hz,wrap_zip p (done:=done) (by omega),fix,fxi,frx,fxr,fir,fri,h10,h11,eq_true hll,List.length_map,TPt])|(refine c_call (by exact hre) ?_;simp only [push_cast,seval,reduceEqDiff,hz,wrap_zip p (done:=done) (by omega),fix,fxi,frx,fxr,fir,fri,h10,h11,eq_true hll,List.length_map,TPt])|intro _)
    rename_i k1 k2 k3 k4 k5 k6
    exact ⟨_,_,Nat.lt_succ_self _,snocLe (id:=(n+1+k1+1+k2+1+k3+1+k4,57)) (o:=o) (vle_elem p.kind p.name RP) (by rw [Part.enc_eq];rfl) rfl (by simp [lk,TPt]) (fun i e h=>by
     simp only [lk] at h⊢
     split at h
     ·rename_i he;subst he;left;cases h;exact ⟨rfl,rfl⟩
     ·rename_i he;rw [if_neg he];right
      rw [if_neg (fun h2=>by rw [<-h2] at h;simp [frx] at h)]
      exact h) (Nat.le_refl _),done++[p],rest,_,_,o++[⟨p.kind,[],p.name,[],[],RP⟩],by simp,rfl,hd,by rw [tw_app,tw_cons,tw_nil];simp only [List.length_nil];omega,ha4,by simp;omega,by simp;omega,rfl⟩
   | false=>
    rw [h11] at hd
    cases hs:selB p.kind with
    | false=>
     rw [hs] at hd hsel
     simp only [bq,if_true,if_false,Int.reduceBEq,reduceCtorEq] at hd
     have hj1:=hjoin [p] (by simp) (fun y hy=>by simp at hy;subst hy;omega)
     rw [List.map_cons,List.map_nil,Part.enc_eq] at hj1
     simp only [push_cast,seval,reduceEqDiff,hz,wrap_zip p (done:=done) (by omega),fix,fxi,frx,fxr,fir,fri,h10,h11]
     repeat' (first|(((first|apply condU_s|apply gdU_t|apply gdU_f)<;>intro _h)<;>simp only [push_cast,seval,reduceEqDiff,_h,hz,wrap_zip p (done:=done) (by omega),fix,fxi,frx,fxr,fir,fri,h10,h11])|(refine c_call (by exact hsel) ?_;simp only [push_cast,seval,reduceEqDiff,hz,wrap_zip p (done:=done) (by omega),fix,fxi,frx,fxr,fir,fri,h10,h11])|intro _)
     refine c_calln hj1 (fun i e h=>?_) ?_
     ·simp only [oE,lk] at h
      split at h
      ·rename_i he;subst he;simp only [lk,fxi,if_false,if_true];exact h
      ·cases h
     rw [show oE (some id) o=[(id,.arr TPt 6 (o.map Part.enc))] from rfl,over_3 (fix _ _) fir]
     have h5:=tw_join o [p]
     rw [tw_cons,tw_nil] at h5
     simp only [push_cast,seval,reduceEqDiff,hz,wrap_zip p (done:=done) (by omega),fix,fxi,frx,fxr,fir,fri,h10,h11]
     intros
     exact ⟨_,_,Nat.lt_succ_self _,StLe.dropM (by simp [lk,frx]) (Nat.le_refl _),done++[p],rest,_,_,joinP o [p],by simp,rfl,hd,by omega,ha4,by (try simp);omega,by (try simp);omega,rfl⟩
    | true=>
     rw [hs] at hd hsel
     simp only [bq,if_true,if_false,Int.reduceBEq,reduceCtorEq] at hd
     obtain ⟨hf0,hoc⟩:=ha1 hs
     have hjlt:=idxI_lt (selIs p.kind p.name) L
     obtain ⟨j,hj⟩:∃j:Nat,findI L p.kind p.name=j:=⟨(findI L p.kind p.name).toNat,by omega⟩
     have hj2:j<keys.length:=by
      rw [show idxI (selIs p.kind p.name) L=findI L p.kind p.name from rfl,hj] at hjlt;omega
     have hkj:keys[j]? = some keys[j]:=List.getElem?_eq_getElem hj2
     have hka:keyAt L keys p.kind p.name=keys[j]:=by unfold keyAt;rw [hj,Int.toNat_natCast,hkj];rfl
     have hkl2:keys[j].length<=2^30:=hkb _ (List.getElem_mem hj2)
     have hlc:=len_wtCs p.cases
     have hch:=c_caseOf W0 l p keys[j] hr hrl hb hkl2 (hk0 _ (List.getElem_mem hj2)) (by omega) hoc
     have hpe:∀cs,pk p.kind p.name cs=(pickR (clsN l p.kind) cs keys[j]).getD []:=fun cs=>by rw [<-hP];unfold pkR;rw [hka]
     rw [hpe,rresCs_map,pickR_map (fun q=>rresPs pk (if p.kind == 9 then count else p.name) q [])] at hd
     obtain ⟨CP,hCP,hCa⟩:∃CP,pickR (clsN l p.kind) p.cases keys[j]=some CP/\∃k,(k,CP)∈p.cases:=by
      cases h:pickR (clsN l p.kind) p.cases keys[j] with
      | none=>
       exfalso
       unfold pickR at h
       cases h1:findC p.cases kOtherS with
       | none=>exact hoc h1
       | some y=>
        rw [h1] at h
        cases h2:findC p.cases keys[j] with
        | some z=>rw [h2] at h;cases h
        | none=>
         rw [h2] at h
         cases h3:findC p.cases (if headEq keys[j]=true then clsN l p.kind keys[j].tail else []) with
         | none=>rw [h3] at h;cases h
         | some z=>rw [h3] at h;cases h
      | some CP=>exact ⟨CP,rfl,pickR_mem h⟩
     obtain ⟨ck,hCm⟩:=hCa
     rw [hCP] at hch hd
     simp only [Option.getD_some,Option.map_some] at hch hd
     have hcw:=wtCs_mem hCm
     have hcall:=allCs_mem ha2 hCm
     have hre:=fun cnt=>ih CP cnt (by simp only at hcw;omega) (by simp only at hcw;omega) hcall
     have hfd:=c_rFindS W0 p.kind p.name L (by omega)
     rw [hj] at hfd
     rw [hLV,Part.enc_eq] at hch
     have hcnt:=c_rCounted W0 p.kind
     have hks:(keys.map V.s)[j]? = some (.s keys[j]):=by rw [List.getElem?_map,hkj];rfl
     cases h9:p.kind == 9 with
     | true=>
      have hcb:cntB p.kind=false:=by
       have:p.kind=9:=by simpa using h9
       rw [this];rfl
      rw [hcb] at hcnt
      rw [h9] at hd
      simp only [bq,if_true,if_false,Int.reduceBEq,reduceCtorEq] at hd
      simp only [push_cast,seval,reduceEqDiff,hz,wrap_zip p (done:=done) (by omega),fix,fxi,frx,fxr,fir,fri,h10,h11,hks,if_pos hj2,List.length_map]
      repeat' (first|(((first|apply condU_s|apply gdU_t|apply gdU_f)<;>intro _h)<;>simp only [push_cast,seval,reduceEqDiff,_h,hz,wrap_zip p (done:=done) (by omega),fix,fxi,frx,fxr,fir,fri,h10,h11,hks,if_pos hj2,List.length_map])|((first|refine c_call (by exact hsel) ?_|refine c_call (by exact hcnt) ?_|refine c_call (by exact hfd) ?_|refine c_call (by exact hch) ?_|refine c_call (by exact hre count) ?_);simp only [push_cast,seval,reduceEqDiff,hz,wrap_zip p (done:=done) (by omega),fix,fxi,frx,fxr,fir,fri,h10,h11,hks,if_pos hj2,List.length_map])|intro _)
      have htr:=(res_w pk hpk _ CP (Nat.lt_succ_self _) count []).2
      rw [tw_nil] at htr
      have hj1:=hjoin (rresPs pk count CP []) (by have:=len_tw (rresPs pk count CP []);simp only at hcw;omega) (fun y hy=>by have:=text_tw hy;simp only at hcw;omega)
      have h5:=tw_join o (rresPs pk count CP [])
      generalize rresPs pk count CP []=RP at *
      refine c_calln hj1 (fun i e h=>?_) ?_
      ·simp only [oE,lk] at h
       split at h
       ·rename_i he;subst he;simp only [lk,fxi,if_false,if_true];exact h
       ·cases h
      rw [show oE (some id) o=[(id,.arr TPt 6 (o.map Part.enc))] from rfl,over_3 (fix _ _) fir]
      simp only [push_cast,seval,reduceEqDiff,hz,wrap_zip p (done:=done) (by omega),fix,fxi,frx,fxr,fir,fri,h10,h11,hks,if_pos hj2,List.length_map]
      intros
      exact ⟨_,_,Nat.lt_succ_self _,StLe.dropM (by simp [lk,frx]) (Nat.le_refl _),done++[p],rest,_,_,joinP o RP,by simp,rfl,hd,by simp only at hcw;omega,ha4,by (try simp);omega,by (try simp);omega,rfl⟩
     | false=>
      have hcb:cntB p.kind=true:=by
       unfold selB at hs;unfold cntB
       simp at hs h9⊢
       omega
      rw [hcb] at hcnt
      rw [h9] at hd
      simp only [bq,if_true,if_false,Int.reduceBEq,reduceCtorEq] at hd
      simp only [push_cast,seval,reduceEqDiff,hz,wrap_zip p (done:=done) (by omega),fix,fxi,frx,fxr,fir,fri,h10,h11,hks,if_pos hj2,List.length_map]
      repeat' (first|(((first|apply condU_s|apply gdU_t|apply gdU_f)<;>intro _h)<;>simp only [push_cast,seval,reduceEqDiff,_h,hz,wrap_zip p (done:=done) (by omega),fix,fxi,frx,fxr,fir,fri,h10,h11,hks,if_pos hj2,List.length_map])|((first|refine c_call (by exact hsel) ?_|refine c_call (by exact hcnt) ?_|refine c_call (by exact hfd) ?_|refine c_call (by exact hch) ?_|refine c_call (by exact hre p.name) ?_);simp only [push_cast,seval,reduceEqDiff,hz,wrap_zip p (done:=done) (by omega),fix,fxi,frx,fxr,fir,fri,h10,h11,hks,if_pos hj2,List.length_map])|intro _)
      have htr:=(res_w pk hpk _ CP (Nat.lt_succ_self _) p.name []).2
      rw [tw_nil] at htr
      have hj1:=hjoin (rresPs pk p.name CP []) (by have:=len_tw (rresPs pk p.name CP []);simp only at hcw;omega) (fun y hy=>by have:=text_tw hy;simp only at hcw;omega)
      have h5:=tw_join o (rresPs pk p.name CP [])
      generalize rresPs pk p.name CP []=RP at *
      refine c_calln hj1 (fun i e h=>?_) ?_
      ·simp only [oE,lk] at h
       split at h
       ·rename_i he;subst he;simp only [lk,fxi,if_false,if_true];exact h
       ·cases h
      rw [show oE (some id) o=[(id,.arr TPt 6 (o.map Part.enc))] from rfl,over_3 (fix _ _) fir]
      simp only [push_cast,seval,reduceEqDiff,hz,wrap_zip p (done:=done) (by omega),fix,fxi,frx,fxr,fir,fri,h10,h11,hks,if_pos hj2,List.length_map]
      intros
      exact ⟨_,_,Nat.lt_succ_self _,StLe.dropM (by simp [lk,frx]) (Nat.le_refl _),done++[p],rest,_,_,joinP o RP,by simp,rfl,hd,by simp only at hcw;omega,ha4,by (try simp);omega,by (try simp);omega,rfl⟩
def decK:List Sel->Nat->List Bytes × Nat
 | [],i=>([],i)
 | s::L,i=>(s.keys[(decK L i).2 % s.keys.length]?.getD []::(decK L i).1,(decK L i).2 / s.keys.length)
theorem decK_len (L:List Sel) (i:Nat):(decK L i).1.length=L.length:=by
 induction L with
 | nil=>rfl
 | cons s L ih=>simp [decK,ih]
theorem decK_le (L:List Sel) (i:Nat):(decK L i).2<=i:=by
 induction L with
 | nil=>exact Nat.le_refl _
 | cons s L ih=>exact Nat.le_trans (Nat.div_le_self _ _) ih
theorem rest16 {r:List V} (h:r.length=16):∃a b c d e f g i j k l m n o p q,r=[a,b,c,d,e,f,g,i,j,k,l,m,n,o,p,q]:=by
 match r,h with
 | [a,b,c,d,e,f,g,i,j,k,l,m,n,o,p,q],_=>exact ⟨a,b,c,d,e,f,g,i,j,k,l,m,n,o,p,q,rfl⟩
set_option maxHeartbeats 4000000 in
theorem keys_loop (L:List Sel) (hL:L.length<=2^26) (hk:∀s∈L,s.keys≠[]/\s.keys.length<=2^26) (i:Nat) (hi:i<=2^30) (rid kid fid:Id) (h1:(rid=kid)=False) (h2:(rid=fid)=False) (h3:(kid=fid)=False) (A:List V) (hA:A.length=16) (X:V) (τ:Sto) (a1 a2 a4 a37 a38:V) (n0:Nat) (Q:Exit->St->Prop)
  (hQ:∀n,n0<=n->Q (.exit 2) ⟨[(1,a1),(2,a2),(4,a4),(6,.ref fid 0),(9,.ref rid 0),(10,.i .i64 (decK L i).2),(11,.i .i64 (-1)),(37,a37),(38,a38),(56,.b false)],(rid,.box (.agg (A++[.sl (L.map Sel.enc),.arr kid])))::(kid,.arr 9 1 ((decK L i).1.map V.s))::(fid,.box (.agg [.sl (L.map Sel.enc),X]))::τ,n⟩) :
  LoopW Tryz.prog W0 92 f16_46 Q ⟨[(1,a1),(2,a2),(4,a4),(6,.ref fid 0),(9,.ref rid 0),(10,.i .i64 i),(11,.i .i64 ((L.length:Int)-1)),(37,a37),(38,a38)],(rid,.box (.agg (A++[.sl (L.map Sel.enc),.arr kid])))::(kid,.arr 9 1 ((List.replicate L.length []).map V.s))::(fid,.box (.agg [.sl (L.map Sel.enc),X]))::τ,n0⟩:=by
 refine aWP_loopW L.length (Inv:=fun m st=>∃B C n k r,L=B++C/\m=B.length/\k=(B.length:Int)-1/\r=(((decK C i).2:Nat):Int)/\n0<=n/\st=⟨[(1,a1),(2,a2),(4,a4),(6,.ref fid 0),(9,.ref rid 0),(10,.i .i64 r),(11,.i .i64 k),(37,a37),(38,a38)],(rid,.box (.agg (A++[.sl (L.map Sel.enc),.arr kid])))::(kid,.arr 9 1 ((List.replicate B.length []++(decK C i).1).map V.s))::(fid,.box (.agg [.sl (L.map Sel.enc),X]))::τ,n⟩) ⟨_,StLe.refl,L,[],n0,(L.length:Int)-1,(i:Int),(List.append_nil L).symm,rfl,rfl,rfl,Nat.le_refl _,by rw [show (decK [] i).1=[] from rfl,List.append_nil]⟩ ?_
 rintro m _ ⟨B,C,n,k,r,hz,rfl,hk1,hr1,hn,rfl⟩
 obtain rfl|⟨D,s,rfl⟩:B=[]\/∃D s,B=D++[s]:=by rcases List.eq_nil_or_concat B with h|⟨d,y,h⟩;exact .inl h;exact .inr ⟨d,y,by rw [h,List.concat_eq_append]⟩
 ·simp at hz hk1
  subst hz hk1 hr1
  simp only [push_cast,seval,reduceEqDiff,show decide ((-1:Int)>=0)=false from rfl]
  intros
  exact hQ _ (by omega)
 ·have hL2:L=D++s::C:=by rw [hz];simp
  have hks:=hk s (by rw [hL2];simp)
  have hkp:0<s.keys.length:=List.length_pos_iff.2 hks.1
  have hbd:=zip_bd hL2
  have hk2:k=(D.length:Int):=by rw [hk1];simp
  have hrl:=decK_le C i
  have hmod:(r.tmod (s.keys.length:Int))=(((decK C i).2 % s.keys.length:Nat):Int):=by rw [hr1];rfl
  have hdiv:(r.tdiv (s.keys.length:Int))=(((decK C i).2 / s.keys.length:Nat):Int):=by rw [hr1];rfl
  have hdl:(decK C i).2 / s.keys.length<=(decK C i).2:=Nat.div_le_self _ _
  have hml:=Nat.mod_lt (decK C i).2 hkp
  have hwr0:∀d:Nat,d<=2^30->IntKind.i64.wrap (d:Int)=d:=fun d h=>by simp (disch:=omega) only [wrap64]
  have hwk:IntKind.i64.wrap ((D.length:Int)-1)=(D.length:Int)-1:=by simp (disch:=omega) only [wrap64]
  have hne:(s.keys.length:Int)≠0:=by omega
  obtain ⟨key,hkey⟩:∃key,s.keys[(decK C i).2 % s.keys.length]? = some key:=⟨_,List.getElem?_eq_getElem hml⟩
  have hget:(s.keys.map V.s)[(decK C i).2 % s.keys.length]? = some (.s key):=by rw [List.getElem?_map,hkey];rfl
  have hset:(List.map V.s (List.replicate (D++[s]).length []++(decK C i).1)).set D.length (.s key)=List.map V.s (List.replicate D.length []++(decK (s::C) i).1):=by
   simp only [List.length_append,List.length_cons,List.length_nil,decK,hkey,Option.getD_some]
   rw [List.replicate_succ']
   simp [List.set_append]
  have hkl:D.length<(List.replicate (D++[s]).length ([]:Bytes)++(decK C i).1).length:=by simp;omega
  have hge:decide ((D.length:Int)>=0)=true:=by simp
  have hsg:(L.map Sel.enc)[D.length]? = some s.enc:=by rw [hL2,List.getElem?_map,List.getElem?_append_right (by simp)];simp
  have hgk:(List.map V.s (List.replicate (D++[s]).length []++(decK C i).1))[D.length]? = some (.s []):=by
   rw [List.getElem?_map,List.getElem?_append_left (by simp),List.getElem?_replicate];simp
  have hdec:(decK (s::C) i).2=(decK C i).2 / s.keys.length:=rfl
  subst hk2
  generalize (decK C i).2 % s.keys.length=q at *
  generalize (decK C i).2 / s.keys.length=dd at *
  have hwr:=hwr0 dd (by omega)
  obtain ⟨b0,b1,b2,b3,b4,b5,b6,b7,b8,b9,b10,b11,b12,b13,b14,b15,rfl⟩:=rest16 hA
  simp only [push_cast,seval,reduceEqDiff,hge,show (decide True)=true from rfl,hsg,hmod,hdiv,hwr,hwk,hget,hset,hgk,if_pos hkl,if_pos hml,if_pos hbd,eq_true hne,h1,h2,h3,List.length_map,hne]
  intros
  exact ⟨_,_,by simp,StLe.refl,D,s::C,_,_,_,hL2,rfl,rfl,by rw [hdec],by omega,rfl⟩
theorem decK_at (L:List Sel) (hk:∀s∈L,s.keys≠[]) (i:Nat):∀(j:Nat) (k:Bytes),(decK L i).1[j]? = some k->∃s,L[j]? = some s/\k∈s.keys:=by
 induction L with
 | nil=>intro j k h;simp [decK] at h
 | cons s L ih=>
  intro j k h
  cases j with
  | zero=>
   have hp:0<s.keys.length:=List.length_pos_iff.2 (hk s (by simp))
   have hm:=Nat.mod_lt (decK L i).2 hp
   simp only [decK,List.getElem?_cons_zero,Option.some.injEq] at h
   rw [List.getElem?_eq_getElem hm,Option.getD_some] at h
   exact ⟨s,rfl,by rw [<-h];exact List.getElem_mem hm⟩
  | succ j=>
   simp only [decK,List.getElem?_cons_succ] at h⊢
   exact ih (fun t ht=>hk t (by simp [ht])) j k h
theorem decK_short {L:List Sel} (hk:∀s∈L,s.keys≠[]) {M:Nat} (hl:∀s∈L,∀k∈s.keys,k.length<=M) (i:Nat):∀k∈(decK L i).1,k.length<=M:=by
 intro k hm
 obtain ⟨j,hj⟩:=List.getElem?_of_mem hm
 obtain ⟨s,hs,hmem⟩:=decK_at L hk i j k hj
 exact hl s (List.mem_of_getElem? hs) k hmem
theorem frz_box {W0:World} {nt n n' e sz:Nat} {env env':Env} {τ:Sto} {rid kid:Id} {A es:List V} (hrk:rid≠kid) (hτ:lk τ kid=none) (hok:∀y∈es,y.ok=true) (henv:∀s,get env' s=get env s\/get env' s = .any) (hn:n<=n') :
  StLe W0 nt ⟨env,(rid,.box (.agg (A++[.arr kid])))::(kid,.arr e sz es)::τ,n⟩ ⟨env',(rid,.box (.agg (A++[.sl es])))::τ,n'⟩:=by
 refine StLe.weak (fun i=>if i=kid then some es else none) (fun i es' h=>?_) (fun s=>?_) (fun i e' h=>?_) hn
 ·split at h
  ·rename_i hi;subst hi;cases h
   simp only [lk,if_neg hrk]
   exact ⟨⟨e,sz,by simp⟩,hτ⟩
  ·cases h
 ·rcases henv s with h|h
  ·rw [h];exact .refl _
  ·rw [h];exact .any _
 ·simp only [lk] at h⊢
  by_cases hi:rid=i
  ·rw [if_pos hi] at h⊢
   cases h
   refine ⟨_,rfl,.box _ _ (.agg _ _ (by simp) fun k c c' h1 h2=>?_) (by simp [cells]) rfl rfl⟩
   by_cases hk:k<A.length
   ·rw [List.getElem?_append_left hk] at h1 h2
    rw [h1] at h2;cases h2;exact .refl _
   ·rw [List.getElem?_append_right (by omega)] at h1 h2
    cases hq:k-A.length with
    | zero=>
     rw [hq] at h1 h2
     simp at h1 h2
     subst h1 h2
     refine .arr kid es es (by simp) rfl (fun k c c' h1 h2=>?_) (fun k c c' h1 h2=>?_)
     ·rw [h1] at h2;cases h2;exact .refl _
     ·rw [h1] at h2;cases h2
      have:=hok c (List.mem_of_getElem? h1)
      exact ⟨rfl,this,this⟩
    | succ q=>rw [hq] at h1;simp at h1
  ·rw [if_neg hi] at h⊢
   have hne:kid≠i:=by rintro rfl;rw [hτ] at h;cases h
   rw [if_neg hne]
   exact ⟨_,h,.refl _⟩
abbrev FormP:=List Sel × List (List Part)
def vEnc (v:List Part):V:=.sl (v.map Part.enc)
def formV (f:FormP):V:=.agg [.sl (f.1.map Sel.enc),.sl (f.2.map vEnc)]
theorem okV (l:List (List Part)):∀y∈l.map vEnc,y.ok=true:=by
 intro y hy;obtain ⟨x,_,rfl⟩:=List.mem_map.1 hy;rfl
def varsOf (pkf:List Bytes->Pick) (L:List Sel) (ps:List Part) (n:Nat):List (List Part):=(List.range n).map fun i=>resPs (pkf (decK L i).1) [] ps []
def flatP (l:Loc) (ps:List Part):FormP × Int:=
 if !validP ps then (([],[]),1)
 else if decide ((combP 1 (selsP ps):Int)>400) then (([],[]),6)
 else if !rulesF [] l.card||!rulesF [] l.ord then (([],[]),18)
 else ((selsP ps,varsOf (pkP l (selsP ps)) (selsP ps) ps (combP 1 (selsP ps))),0)
theorem finForm {W0:World} {nt n:Nat} {env:Env} {σ:Sto} {id:Id} {u:V} {f:FormP} {e:Int} (h4:get env 4 = .ref id 0) (h5:get env 5 = .i .i64 e) (hu:lk σ id=some (.box u)) (φ:Id->Option (List V)) (hφ:∀i es,φ i=some es->(∃e sz,lk σ i=some (.arr e sz es))/\i≠id)
  (hv:VLe φ u (formV f)) (hl:(cells u).length=2) (ho:u.ok=true):FinW W0 nt [.c 4 2 true,.t 5] [formV f,.i .i64 e] [] .ret ⟨env,σ,n⟩:=by
 refine ⟨⟨[(4,.ref id 0),(5,.i .i64 e)],[(id,.box (formV f))],n⟩,StLe.weak φ (fun i es h=>?_) (fun t=>?_) (fun i e' h=>?_) (Nat.le_refl _),⟨⟨id,0,formV f,rfl,by simp [lk],rfl⟩,rfl,trivial⟩,fun _ _ h=>by cases h⟩
 ·obtain ⟨a,b⟩:=hφ i es h
  exact ⟨a,by simp only [lk];rw [if_neg (fun he=>b he.symm)]⟩
 ·by_cases ht:4=t
  ·subst ht;rw [h4];exact .refl _
  ·by_cases ht5:5=t
   ·subst ht5;rw [h5];exact .refl _
   ·simp only [get,if_neg ht,if_neg ht5];exact .any _
 ·simp only [lk] at h
  split at h
  ·rename_i he;subst he;cases h
   exact ⟨_,hu,.box _ _ hv (by rw [hl];rfl) ho rfl⟩
  ·cases h
theorem vle_err (φ:Id->Option (List V)):VLe φ (.agg [.nil,.nil]) (formV ([],[])):=by
 refine .agg _ _ rfl fun k c c' h1 h2=>?_
 match k with
 | 0=>simp at h1 h2;subst h1 h2;exact .nil
 | 1=>simp at h1 h2;subst h1 h2;exact .nil
 | k+2=>simp at h1
theorem vle_form {φ:Id->Option (List V)} (L:List Sel) (V0:List (List Part)) (vo:Option Id) (hn:vo=none->V0=[]) (hφ:∀id,vo=some id->φ id=some (V0.map vEnc)):VLe φ (.agg [.sl (L.map Sel.enc),sv vo]) (formV (L,V0)):=by
 refine .agg _ _ rfl fun k c c' h1 h2=>?_
 match k with
 | 0=>simp at h1 h2;subst h1 h2;exact .refl _
 | 1=>
  simp at h1 h2;subst h1 h2
  cases vo with
  | none=>rw [hn rfl];exact .nil
  | some id=>
   refine .arr id _ _ (hφ id rfl) rfl (fun k c c' h1 h2=>?_) (fun k c c' h1 h2=>?_)
   ·rw [h1] at h2;cases h2;exact .refl _
   ·rw [h1] at h2;cases h2
    have:=okV _ c (List.mem_of_getElem? h1)
    exact ⟨rfl,this,this⟩
 | k+2=>simp at h1
def TVs:Nat:=31
def vS (vo:Option Id) (V0:List (List Part)):Sto:=match vo with
 | none=>[]
 | some id=>[(id,.arr TVs 1 (V0.map vEnc))]
set_option maxHeartbeats 4000000 in
theorem c_Flat (l:Loc) (ps:List Part) (hr:(Loc.enc l).ok=true) (hrl:l.rest.length=11) (hb:wtRules l.card+wtRules l.ord<=2^24) (hw:wtPs ps<=2^24)
  (hL:(selsP ps).length<=2^26) (hk:∀s∈selsP ps,s.keys≠[]/\s.keys.length<=2^26) (hkl:∀s∈selsP ps,∀k∈s.keys,k.length<=2^30) (hok:validP ps=true->allPs (resOk (selsP ps)) ps) :
  RetS Tryz.prog W0 16 [l.enc,.sl (ps.map Part.enc)] [] (.tup [formV (flatP l ps).1,.i .i64 (flatP l ps).2]) []:=by
 have hva:=c_Valid W0 ps hw
 have hse:=c_selectors W0 ps hw
 generalize hS:flatP l ps=S
 obtain ⟨S1,S2⟩:=S
 unfold flatP at hS
 generalize hLL:selsP ps=L at *
 have hco:=c_comb W0 L (by omega) (fun s hs=>by have:=(hk s hs).2;omega)
 have hv1:=c_pValid W0 l.card (by omega)
 have hv2:=c_pValid W0 l.ord (by omega)
 obtain ⟨r1,r2,r3,r4,r5,r6,r7,r8,r9,r10,r11,hrest⟩:=rest11 hrl
 have hLV:l.enc = .agg [.s l.tag,.s l.parent,.s l.dir,.sl (l.card.map Rule.enc),.sl (l.ord.map Rule.enc),r1,r2,r3,r4,r5,r6,r7,r8,r9,r10,r11]:=by
  rw [Loc.enc_eq,hrest]
 have hRV:∀KS:List Bytes,rV l L KS = .agg [.s l.tag,.s l.parent,.s l.dir,.sl (l.card.map Rule.enc),.sl (l.ord.map Rule.enc),r1,r2,r3,r4,r5,r6,r7,r8,r9,r10,r11,.sl (L.map Sel.enc),.sl (KS.map V.s)]:=fun KS=>by unfold rV;rw [hrest];rfl
 rw [hLV]
 refine fn_retW (vs:=[formV S1,.i .i64 S2]) f16ok (by simp) (by simp) fun n0 hn0=>?_
 clear hn0
 generalize hVB:validP ps=VB at *
 cases VB with
 | false=>
  simp only [Bool.not_false,if_true] at hS
  cases hS
  simp only [push_cast,seval,reduceEqDiff]
  repeat' (first|(((first|apply condU_s|apply gdU_t|apply gdU_f)<;>intro _h)<;>simp only [push_cast,seval,reduceEqDiff,_h])|(refine c_call (by exact hva) ?_;simp only [push_cast,seval,reduceEqDiff])|intro _)
  exact finForm (u:=.agg [.nil,.nil]) (f:=([],[])) rfl rfl (by simp [lk]) (fun _=>none) (fun _ _ h=>by cases h) (vle_err _) rfl rfl
 | true=>
  simp only [Bool.not_true,if_false,Bool.false_eq_true] at hS
  have hok:=hok rfl
  generalize hNN:combP 1 L=NN at *
  by_cases h4:(NN:Int)>400
  ·have h4':decide ((NN:Int)>400)=true:=by simpa using h4
   rw [h4',if_pos rfl] at hS
   cases hS
   simp only [push_cast,seval,reduceEqDiff,h4']
   repeat' (first|(((first|apply condU_s|apply gdU_t|apply gdU_f)<;>intro _h)<;>simp only [push_cast,seval,reduceEqDiff,_h,h4'])|((first|refine c_call (by exact hva) ?_|refine c_call (by exact hse) ?_|refine c_call (by exact hco) ?_);simp only [push_cast,seval,reduceEqDiff,h4'])|intro _)
   exact finForm (u:=.agg [.nil,.nil]) (f:=([],[])) rfl rfl (by simp [lk]) (fun _=>none) (fun _ _ h=>by cases h) (vle_err _) rfl rfl
  ·have h4':decide ((NN:Int)>400)=false:=by simpa using h4
   rw [h4',if_neg (by simp)] at hS
   cases hq1:rulesF [] l.card with
   | false=>
    rw [hq1] at hv1 hS
    simp only [bq,if_true,if_false,Int.reduceBEq,reduceCtorEq] at hS
    cases hS
    simp only [push_cast,seval,reduceEqDiff,h4']
    repeat' (first|(((first|apply condU_s|apply gdU_t|apply gdU_f)<;>intro _h)<;>simp only [push_cast,seval,reduceEqDiff,_h,h4'])|((first|refine c_call (by exact hva) ?_|refine c_call (by exact hse) ?_|refine c_call (by exact hco) ?_|refine c_call (by exact hv1) ?_);simp only [push_cast,seval,reduceEqDiff,h4'])|intro _)
    exact finForm (u:=.agg [.nil,.nil]) (f:=([],[])) rfl rfl (by simp [lk]) (fun _=>none) (fun _ _ h=>by cases h) (vle_err _) rfl rfl
   | true=>
   cases hq2:rulesF [] l.ord with
   | false=>
    rw [hq1] at hv1
    rw [hq2] at hv2
    rw [hq1,hq2] at hS
    simp only [bq,if_true,if_false,Int.reduceBEq,reduceCtorEq] at hS
    cases hS
    simp only [push_cast,seval,reduceEqDiff,h4']
    repeat' (first|(((first|apply condU_s|apply gdU_t|apply gdU_f)<;>intro _h)<;>simp only [push_cast,seval,reduceEqDiff,_h,h4'])|((first|refine c_call (by exact hva) ?_|refine c_call (by exact hse) ?_|refine c_call (by exact hco) ?_|refine c_call (by exact hv1) ?_|refine c_call (by exact hv2) ?_);simp only [push_cast,seval,reduceEqDiff,h4'])|intro _)
    exact finForm (u:=.agg [.nil,.nil]) (f:=([],[])) rfl rfl (by simp [lk]) (fun _=>none) (fun _ _ h=>by cases h) (vle_err _) rfl rfl
   | true=>
    rw [hq1] at hv1
    rw [hq2] at hv2
    rw [hq1,hq2] at hS
    simp only [bq,if_true,if_false,Int.reduceBEq,reduceCtorEq] at hS
    cases hS
    simp only [push_cast,seval,reduceEqDiff,h4']
    repeat' (first|(((first|apply condU_s|apply gdU_t|apply gdU_f)<;>intro _h)<;>simp only [push_cast,seval,reduceEqDiff,_h,h4'])|((first|refine c_call (by exact hva) ?_|refine c_call (by exact hse) ?_|refine c_call (by exact hco) ?_|refine c_call (by exact hv1) ?_|refine c_call (by exact hv2) ?_);simp only [push_cast,seval,reduceEqDiff,h4'])|intro _)
    rename_i k1 k2 k3 k4 k5 k6 k7
    have hm1:n0<n0+1+k1+1+k2/\n0+1+k1+1+k2<n0+1+k1+1+k2+1+k3+1+k4+1+k5+1+k6+1+k7:=by omega
    generalize n0+1+k1+1+k2+1+k3+1+k4+1+k5+1+k6+1+k7=n1 at *
    generalize n0+1+k1+1+k2=m1 at *
    have hN4:NN<=400:=by omega
    generalize hLC:V.agg [.s l.tag,.s l.parent,.s l.dir,.sl (l.card.map Rule.enc),.sl (l.ord.map Rule.enc),r1,r2,r3,r4,r5,r6,r7,r8,r9,r10,r11]=LC
    have hi1:NN-0=NN:=by omega
    refine aWP_loopW NN (Inv:=fun m st=>∃i n vo,i<=NN/\m=NN-i/\(vo=none->i=0)/\(∀id,vo=some id->m1<id.1/\id.1<n)/\m1<n/\st=⟨[(1,.sl (ps.map Part.enc)),(2,.ref (n0,2) 0),(4,.ref (n0,4) 0),(6,.ref (m1,6) 0),(37,.i .i64 NN),(38,.i .i64 i)],((m1,6),.box (.agg [.sl (L.map Sel.enc),sv vo]))::(vS vo (varsOf (pkP l L) L ps i)++[((n0,4),.box (.agg [.nil,.nil])),((n0,2),.box LC)]),n⟩) ⟨_,StLe.refl,0,n1,none,Nat.zero_le _,hi1.symm,fun _=>rfl,(fun _ h=>by cases h),hm1.2,rfl⟩ ?_
    clear hi1
    rintro m _ ⟨i,n,vo,hi,rfl,hvo,hvi2,hmn,rfl⟩
    have f1:∀k j:Nat,((n+1+k,j)=(m1,6))=False:=fun k j=>eq_false fun he=>by injection he with h1 h2;omega
    have f2:∀k j q:Nat,((n+1+k,j)=(n0,q))=False:=fun k j q=>eq_false fun he=>by injection he with h1 h2;omega
    have f3:∀q:Nat,((m1,6)=(n0,q))=False:=fun q=>eq_false fun he=>by injection he with h1 h2;omega
    have f3':∀q:Nat,((n0,q)=(m1,6))=False:=fun q=>eq_false fun he=>of_eq_false (f3 q) he.symm
    have f1':∀k j:Nat,((m1,6)=(n+1+k,j))=False:=fun k j=>eq_false fun he=>of_eq_false (f1 k j) he.symm
    have f2':∀k j q:Nat,((n0,q)=(n+1+k,j))=False:=fun k j q=>eq_false fun he=>of_eq_false (f2 k j q) he.symm
    by_cases hlt:i<NN
    ·have hlt':decide ((i:Int)<(NN:Int))=true:=by simpa using hlt
     have hkeys:=decK_short (L:=L) (fun s hs=>(hk s hs).1) hkl i
     have hres:=fun rid=>c_resolve W0 l L (decK L i).1 rid hr hrl hb (by omega) (decK_len L i) hkeys _ ps [] (Nat.lt_succ_self _) hw hok
     have hvi:varsOf (pkP l L) L ps (i+1)=varsOf (pkP l L) L ps i++[resPs (pkP l L (decK L i).1) [] ps []]:=by
      unfold varsOf;rw [List.range_succ,List.map_append];rfl
     have hvl:(varsOf (pkP l L) L ps i).length=i:=by simp [varsOf]
     have hwi:IntKind.i64.wrap ((i:Int)+1)=((i+1:Nat):Int):=by rw [wrap64 (by omega) (by omega)];simp
     have hwL:IntKind.i64.wrap ((L.length:Int)-1)=(L.length:Int)-1:=by simp (disch:=omega) only [wrap64]
     have hLL1:((L.length:Int)<=(L.length:Int)/\(L.length:Int)<=(LLim:Int))=True:=eq_true ⟨Int.le_refl _,by unfold LLim;omega⟩
     have hrep:List.replicate L.length (V.s [])=(List.replicate L.length ([]:Bytes)).map V.s:=by simp
     have hVn:(varsOf (pkP l L) L ps i++[resPs (pkP l L (decK L i).1) [] ps []]).length<=LLim:=by rw [List.length_append,hvl];unfold LLim;simp;omega
     generalize resPs (pkP l L (decK L i).1) [] ps []=RV at *
     generalize hVSg:varsOf (pkP l L) L ps i=VS at *
     cases vo with
     | none=>
      have hi0:=hvo rfl
      have hvs:vS none VS=[]:=rfl
      have hsv:sv none = .nil:=rfl
      have hVS:VS=[]:=List.length_eq_zero_iff.1 (by omega)
      rw [hvs,List.nil_append,<-hLC]
      simp only [push_cast,seval,reduceEqDiff,hlt',f1,f2,f3,hsv,List.length_map,hwL,hLL1,hrep]
      intros
      rename_i b1 b2 b3 b4 b5
      have hx:n<n+1+b1+1+b2/\n+1+b1+1+b2<n+1+b1+1+b2+1+b3+1+b4+1+b5:=by omega
      generalize n+1+b1+1+b2+1+b3+1+b4+1+b5=n3 at *
      generalize n+1+b1+1+b2=x0 at *
      have g1:∀j:Nat,((x0,j)=(m1,6))=False:=fun j=>eq_false fun he=>by injection he with h1 h2;omega
      have g1':∀j:Nat,((m1,6)=(x0,j))=False:=fun j=>eq_false fun he=>of_eq_false (g1 j) he.symm
      have g2:∀j q:Nat,((x0,j)=(n0,q))=False:=fun j q=>eq_false fun he=>by injection he with h1 h2;omega
      have g2':∀j q:Nat,((n0,q)=(x0,j))=False:=fun j q=>eq_false fun he=>of_eq_false (g2 j q) he.symm
      refine keys_loop W0 L hL hk i (by omega) _ _ _ (by simp) (g1 _) (g1 _) [.s l.tag,.s l.parent,.s l.dir,.sl (l.card.map Rule.enc),.sl (l.ord.map Rule.enc),r1,r2,r3,r4,r5,r6,r7,r8,r9,r10,r11] rfl _ _ _ _ _ _ _ _ _ ?_
      intro n2 hn2
      have hrx:=hres (x0,49)
      rw [hRV] at hrx
      generalize (decK L i).1=KS at *
      generalize (decK L i).2=KR at *
      simp only [push_cast,seval,reduceEqDiff,hlt',f1,f2,f3,hsv,List.length_map,hwL,hLL1,hrep]
      refine wkW_i (frz_box (rid:=(x0,49)) (kid:=(x0,47)) (A:=[.s l.tag,.s l.parent,.s l.dir,.sl (l.card.map Rule.enc),.sl (l.ord.map Rule.enc),r1,r2,r3,r4,r5,r6,r7,r8,r9,r10,r11,.sl (L.map Sel.enc)]) (by simp) (by simp [lk,g1',g2']) (fun y hy=>by obtain ⟨z,_,rfl⟩:=List.mem_map.1 hy;rfl) (fun s=>.inl rfl) (Nat.le_refl _)) ?_
      have e1:∀k j:Nat,((n2+1+k,j)=(m1,6))=False:=fun k j=>eq_false fun he=>by injection he with h1 h2;omega
      have e1':∀k j:Nat,((m1,6)=(n2+1+k,j))=False:=fun k j=>eq_false fun he=>of_eq_false (e1 k j) he.symm
      have e2:∀k j q:Nat,((n2+1+k,j)=(n0,q))=False:=fun k j q=>eq_false fun he=>by injection he with h1 h2;omega
      have e0:∀j:Nat,((n2,j)=(m1,6))=False:=fun j=>eq_false fun he=>by injection he with h1 h2;omega
      have e0':∀j:Nat,((m1,6)=(n2,j))=False:=fun j=>eq_false fun he=>of_eq_false (e0 j) he.symm
      have e3:∀j q:Nat,((n2,j)=(n0,q))=False:=fun j q=>eq_false fun he=>by injection he with h1 h2;omega
      have e4:∀j q:Nat,((n2,j)=(x0,q))=False:=fun j q=>eq_false fun he=>by injection he with h1 h2;omega
      simp only [push_cast,seval,reduceEqDiff,g1,g1',g2,g2',f3,f3',e0,e0',e1,e1',e2,e3,e4,List.length_map,hwi,eq_true (show 1<=LLim by decide)]
      refine c_callr hrx (fun i e h=>lk_app_left (τ:=[_,_,_]) h) ?_
      simp only [push_cast,seval,reduceEqDiff,g1,g1',g2,g2',f3,f3',e0,e0',e1,e1',e2,e3,e4,List.length_map,hwi,eq_true (show 1<=LLim by decide)]
      intros
      have hvs':vS (some (n2,88)) (varsOf (pkP l L) L ps (i+1))=[((n2,88),.arr TVs 1 [V.sl (RV.map Part.enc)])]:=by rw [hvi,hVS];rfl
      refine ⟨NN-(i+1),⟨_,[((m1,6),.box (.agg [.sl (L.map Sel.enc),.arr (n2,88)])),((n2,88),.arr TVs 1 [V.sl (RV.map Part.enc)]),((n0,4),.box (.agg [.nil,.nil])),((n0,2),.box (.agg [.s l.tag,.s l.parent,.s l.dir,.sl (l.card.map Rule.enc),.sl (l.ord.map Rule.enc),r1,r2,r3,r4,r5,r6,r7,r8,r9,r10,r11]))],_⟩,by omega,StLe.sub ?_ ?_ (Nat.le_refl _),i+1,_,some (n2,88),by omega,rfl,(fun h=>by cases h),?_,?_,by rw [hvs'];rfl⟩
      ·simp [g1,g2,e0,e3,e4,f3]
      ·intro p hp
       simp at hp⊢
       rcases hp with h|h|h|h<;>simp [h,TVs]
      ·intro id h;cases h;exact ⟨by simp only;omega,by simp only;omega⟩
      ·omega
     | some vid=>
      obtain ⟨hv1,hv2⟩:=hvi2 vid rfl
      have hsv:sv (some vid) = .arr vid:=rfl
      have hvs:vS (some vid) VS=[(vid,.arr TVs 1 (VS.map vEnc))]:=rfl
      have d1:∀k j:Nat,((n+1+k,j)=vid)=False:=fun k j=>eq_false fun he=>by rw [<-he] at hv2;simp at hv2;omega
      have d1':∀k j:Nat,(vid=(n+1+k,j))=False:=fun k j=>eq_false fun he=>of_eq_false (d1 k j) he.symm
      have d2:((m1,6)=vid)=False:=eq_false fun he=>by rw [<-he] at hv1;simp at hv1
      have d2':(vid=(m1,6))=False:=eq_false fun he=>of_eq_false d2 he.symm
      have d3:∀q:Nat,(vid=(n0,q))=False:=fun q=>eq_false fun he=>by rw [he] at hv1;simp at hv1;omega
      have d3':∀q:Nat,((n0,q)=vid)=False:=fun q=>eq_false fun he=>of_eq_false (d3 q) he.symm
      rw [hvs,<-hLC]
      simp only [push_cast,seval,reduceEqDiff,hlt',f1,f2,f3,hsv,List.length_map,hwL,hLL1,hrep,List.cons_append,List.nil_append,d1,d1',d2,d2',d3,d3']
      intros
      rename_i b1 b2 b3 b4 b5
      have hx:n<n+1+b1+1+b2/\n+1+b1+1+b2<n+1+b1+1+b2+1+b3+1+b4+1+b5:=by omega
      generalize n+1+b1+1+b2+1+b3+1+b4+1+b5=n3 at *
      generalize n+1+b1+1+b2=x0 at *
      have g1:∀j:Nat,((x0,j)=(m1,6))=False:=fun j=>eq_false fun he=>by injection he with h1 h2;omega
      have g1':∀j:Nat,((m1,6)=(x0,j))=False:=fun j=>eq_false fun he=>of_eq_false (g1 j) he.symm
      have g2:∀j q:Nat,((x0,j)=(n0,q))=False:=fun j q=>eq_false fun he=>by injection he with h1 h2;omega
      have g2':∀j q:Nat,((n0,q)=(x0,j))=False:=fun j q=>eq_false fun he=>of_eq_false (g2 j q) he.symm
      have g3:∀j:Nat,((x0,j)=vid)=False:=fun j=>eq_false fun he=>by rw [<-he] at hv2;simp at hv2;omega
      have g3':∀j:Nat,(vid=(x0,j))=False:=fun j=>eq_false fun he=>of_eq_false (g3 j) he.symm
      refine keys_loop W0 L hL hk i (by omega) _ _ _ (by simp) (g1 _) (g1 _) [.s l.tag,.s l.parent,.s l.dir,.sl (l.card.map Rule.enc),.sl (l.ord.map Rule.enc),r1,r2,r3,r4,r5,r6,r7,r8,r9,r10,r11] rfl _ _ _ _ _ _ _ _ _ ?_
      intro n2 hn2
      have hrx:=hres (x0,49)
      rw [hRV] at hrx
      generalize (decK L i).1=KS at *
      generalize (decK L i).2=KR at *
      simp only [push_cast,seval,reduceEqDiff,hlt',f1,f2,f3,hsv,List.length_map,hwL,hLL1,hrep,List.cons_append,List.nil_append,d1,d1',d2,d2',d3,d3']
      refine wkW_i (frz_box (rid:=(x0,49)) (kid:=(x0,47)) (A:=[.s l.tag,.s l.parent,.s l.dir,.sl (l.card.map Rule.enc),.sl (l.ord.map Rule.enc),r1,r2,r3,r4,r5,r6,r7,r8,r9,r10,r11,.sl (L.map Sel.enc)]) (by simp) (by simp [lk,g1',g2',g3']) (fun y hy=>by obtain ⟨z,_,rfl⟩:=List.mem_map.1 hy;rfl) (fun s=>.inl rfl) (Nat.le_refl _)) ?_
      have e0:∀j:Nat,((n2,j)=(m1,6))=False:=fun j=>eq_false fun he=>by injection he with h1 h2;omega
      have e0':∀j:Nat,((m1,6)=(n2,j))=False:=fun j=>eq_false fun he=>of_eq_false (e0 j) he.symm
      have e3:∀j q:Nat,((n2,j)=(n0,q))=False:=fun j q=>eq_false fun he=>by injection he with h1 h2;omega
      have e4:∀j q:Nat,((n2,j)=(x0,q))=False:=fun j q=>eq_false fun he=>by injection he with h1 h2;omega
      have e5:∀j:Nat,((n2,j)=vid)=False:=fun j=>eq_false fun he=>by rw [<-he] at hv2;simp at hv2;omega
      have hap:List.map vEnc VS++[V.sl (RV.map Part.enc)]=(VS++[RV]).map vEnc:=by simp [vEnc]
      rw [List.length_append,List.length_cons,List.length_nil] at hVn
      simp only [push_cast,seval,reduceEqDiff,g1,g1',g2,g2',g3,g3',f3,f3',d2,d2',d3,d3',e0,e0',e3,e4,e5,List.length_map,hwi,eq_true hVn,TVs,hap]
      refine c_callr hrx (fun i e h=>lk_app_left (τ:=[_,_,_,_]) h) ?_
      simp only [push_cast,seval,reduceEqDiff,g1,g1',g2,g2',g3,g3',f3,f3',d2,d2',d3,d3',e0,e0',e3,e4,e5,List.length_map,hwi,eq_true hVn,TVs,hap]
      intros
      have hvs':vS (some (n2,88)) (varsOf (pkP l L) L ps (i+1))=[((n2,88),.arr TVs 1 ((VS++[RV]).map vEnc))]:=by rw [hvi];rfl
      refine ⟨NN-(i+1),⟨_,[((m1,6),.box (.agg [.sl (L.map Sel.enc),.arr (n2,88)])),((n2,88),.arr TVs 1 ((VS++[RV]).map vEnc)),((n0,4),.box (.agg [.nil,.nil])),((n0,2),.box (.agg [.s l.tag,.s l.parent,.s l.dir,.sl (l.card.map Rule.enc),.sl (l.ord.map Rule.enc),r1,r2,r3,r4,r5,r6,r7,r8,r9,r10,r11]))],_⟩,by omega,StLe.sub ?_ ?_ (Nat.le_refl _),i+1,_,some (n2,88),by omega,rfl,(fun h=>by cases h),?_,?_,by rw [hvs'];rfl⟩
      ·simp [g1,g2,e0,e3,e4,f3]
      ·intro p hp
       simp at hp⊢
       rcases hp with h|h|h|h<;>simp [h,TVs]
      ·intro id h;cases h;exact ⟨by simp only;omega,by simp only;omega⟩
      ·omega
    ·have hie:i=NN:=by omega
     have hlt':decide ((i:Int)<(NN:Int))=false:=by simpa using hlt
     cases vo with
     | none=>
      have hi0:=hvo rfl
      have hV0:varsOf (pkP l L) L ps i=[]:=by rw [hi0];rfl
      have hvs:vS none (varsOf (pkP l L) L ps i)=[]:=rfl
      have hsv:sv none = .nil:=rfl
      rw [hvs,List.nil_append]
      simp only [push_cast,seval,reduceEqDiff,hlt',f3,f3',hsv]
      intros
      rw [<-hie,hV0]
      exact finForm (u:=.agg [.sl (L.map Sel.enc),.nil]) (f:=(L,[])) rfl rfl (by simp [lk,f3]) (fun _=>none) (fun _ _ h=>by cases h) (vle_form L [] none (fun _=>rfl) (fun _ h=>by cases h)) rfl rfl
     | some vid=>
      obtain ⟨hv1,hv2⟩:=hvi2 vid rfl
      have hsv:sv (some vid) = .arr vid:=rfl
      have hvs:vS (some vid) (varsOf (pkP l L) L ps i)=[(vid,.arr TVs 1 ((varsOf (pkP l L) L ps i).map vEnc))]:=rfl
      have d2:((m1,6)=vid)=False:=eq_false fun he=>by rw [<-he] at hv1;simp at hv1
      have d2':(vid=(m1,6))=False:=eq_false fun he=>of_eq_false d2 he.symm
      have d3:∀q:Nat,(vid=(n0,q))=False:=fun q=>eq_false fun he=>by rw [he] at hv1;simp at hv1;omega
      have d3':∀q:Nat,((n0,q)=vid)=False:=fun q=>eq_false fun he=>of_eq_false (d3 q) he.symm
      rw [hvs]
      simp only [push_cast,seval,reduceEqDiff,hlt',f3,f3',hsv,d2,d2',d3,d3',List.cons_append,List.nil_append]
      intros
      rw [<-hie]
      generalize varsOf (pkP l L) L ps i=VS at *
      refine finForm (u:=.agg [.sl (L.map Sel.enc),.arr vid]) (f:=(L,VS)) rfl rfl (by simp [lk,f3,d3]) (fun j=>if j=vid then some (VS.map vEnc) else none) (fun j es h=>?_) (vle_form L VS (some vid) (fun h=>by cases h) (fun id h=>by cases h;simp)) rfl rfl
      split at h
      ·rename_i he;subst he;cases h
       exact ⟨⟨TVs,1,by simp [lk,d2]⟩,fun he=>of_eq_false (d3 _) he⟩
      ·cases h
end Go.Ir
namespace Go.Ir
open Go.Proofs
variable {P : Program} {W0 : World} {nt n : Nat} {Q : Exit → St → Prop} {env : Env} {σ : Sto}
def f38_8:IC:=.seq (.ops [m1 7 0,o1 8 (.calln 86 [(.c .nil),.t 7,(.c (.s []))]),m1 2 8,o1 3 (.mv (ci 0))] [2,3] []) .ret
def f38_2:IC:=.seq (.seq (.ops [m1 4 0,o1 5 (.call 23 [.t 4]),o1 6 (.not (.t 5))] [0,6] []) (.cond (.t 6) (.seq (.ops [o1 2 (.mv (.c .nil)),o1 3 (.mv (ci 1))] [2,3] []) .ret) .skip)) f38_8
def f38_0:IC:=.seq (.ops [o1 2 (.mv (.c .nil)),o1 3 (.mv (ci 0))] [0] []) f38_2
@[push_cast]def f38R:List R:=[.t 2,.t 3]
@[push_cast]def f38e:=aWv f38_8.eq_1<|aWv f38_2.eq_1<|aWu f38_0.eq_1
theorem f38ok:okFn Tryz.prog 38 9 f38_0 f38R=true:=by kernel_rfl
def f86_23:IC:=.seq (.ops [m1 19 7,o1 20 (.load (.t 10) 6 true),o1 21 (.msl false 85 6 [.t 20]),o1 22 (.app (.t 19) (.t 21) 85 6),m1 7 22] [2,3,7,8,11,12,13] []) (.exit 1)
def f86_27:IC:=.ops [o1 23 (.load (.t 3) 1 false),m1 24 2,m1 25 8,o1 26 (.call 150 [.t 25]),o1 27 (.bin .add (.t 24) (.t 26)),m1 28 7,o1 29 (.call 151 [.t 28]),o1 30 (.build [(.s []),.nil] [(0,1,(.t 27)),(1,1,(.t 29))]),o1 31 (.msl false 73 2 [.t 30]),o1 32 (.app (.t 23) (.t 31) 73 2),o0 (.store (.t 3) (.t 32) 1)] [2,3,8,10,11,12,13] [[2,3],[1,4],[3,4],[5,6],[4,7],[6,7],[7,8],[0,9],[8,9],[0,10],[9,10]]
def f86_32:IC:=.opxd [o1 35 (.load (.t 10) 6 true),m1 36 2,m1 37 8,o1 38 (.call 150 [.t 37]),o1 39 (.bin .add (.t 36) (.t 38)),o1 40 (.bin .add (.t 39) (.c (.s [47]))),o1 41 (.mkfn 153 [] [.t 3])] [2,3,7,8,11,12,13,35,40,41] 42 152 [(.t 35),(.t 40),(.t 41)] [2,3,7,8,11,12,13] [[2,3],[1,4],[3,4],[4,5],[0,7],[1,4,5,7],[2,3,7],[3,7],[4,5,7],[5,7],[6,7]]
def f86_30:IC:=.seq (.ops [m1 33 8,o1 34 (.bin .add (.t 33) (ci 1)),m1 8 34] [2,3,7,8,10,11,12,13] []) f86_32
def f86_19:IC:=.seq (.seq (.ops [o1 17 (.load (.t 10) 6 true),o1 18 (.call 69 [.t 17])] [2,3,7,8,10,11,12,13,18] []) (.cond (.t 18) f86_23 .skip)) (.seq (.wk f86_27) (.seq (.ops [o1 7 (.mv (.c .nil))] [2,3,7,8,10,11,12,13] []) f86_30))
def f86_15:IC:=.seq (.block 1 (.seq (.ops [o1 15 (.iaddr (.t 11) (.t 13) 85 6),o1 16 (.load (.t 15) 6 true),o1 10 (.alloc (.agg [(.i .i64 0),(.s []),(.s []),(.s []),.nil,.nil])),o0 (.store (.t 10) (.t 16) 6)] [2,3,7,8,10,11,12,13] []) f86_19)) (.ops [o1 43 (.bin .add (.t 13) (ci 1)),m1 13 43] [2,3,7,8,11,12,13] [])
def f86_11:IC:=.seq (.ops [o1 14 (.bin .lss (.t 13) (.t 12))] [2,3,7,8,11,12,13,14] []) (.seq (.cond (.t 14) .skip (.exit 0)) f86_15)
def f86_36:IC:=.ops [o1 44 (.load (.t 3) 1 false),m1 45 2,m1 46 8,o1 47 (.call 150 [.t 46]),o1 48 (.bin .add (.t 45) (.t 47)),m1 49 7,o1 50 (.call 151 [.t 49]),o1 51 (.build [(.s []),.nil] [(0,1,(.t 48)),(1,1,(.t 50))]),o1 52 (.msl false 73 2 [.t 51]),o1 53 (.app (.t 44) (.t 52) 73 2),m1 6 53] [6] [[2,3],[1,4],[3,4],[5,6],[4,7],[6,7],[7,8],[0,9],[8,9],[9,10]]
def f86_6:IC:=.seq (.seq (.ops [m1 11 1,o1 12 (.lenL (.t 11)),o1 13 (.mv (ci 0))] [2,3,7,8,11,12,13] []) (.block 0 (.loop f86_11))) (.seq (.wk f86_36) .ret)
def f86_2:IC:=.seq (.ops [o1 7 (.mv (.c .nil))] [1,2,3,7] []) (.seq (.ops [o1 8 (.mv (ci 0))] [1,2,3,7,8] []) f86_6)
def f86_0:IC:=.seq (.ops [o1 3 (.box (.t 0)),o1 6 (.mv (.c .nil))] [1,2,3] []) f86_2
@[push_cast]def f86R:List R:=[.t 6]
@[push_cast]def f86e:=aWv f86_23.eq_1<|aWv f86_27.eq_1<|aWv f86_32.eq_1<|aWv f86_30.eq_1<|aWv f86_19.eq_1<|aWv f86_15.eq_1<|aWv f86_11.eq_1<|aWv f86_36.eq_1<|aWv f86_6.eq_1<|aWv f86_2.eq_1<|aWu f86_0.eq_1
theorem f86ok:okFn Tryz.prog 86 54 f86_0 f86R=true:=by kernel_rfl
def f153_0:IC:=.ops [o1 5 (.load (.t 2) 1 false),m1 6 0,m1 7 1,o1 8 (.calln 86 [.t 5,.t 6,.t 7]),o0 (.store (.t 2) (.t 8) 1)] [] []
@[push_cast]def f153R:List R:=[]
@[push_cast]def f153e:=aWu f153_0.eq_1
theorem f153ok:okFn Tryz.prog 153 9 f153_0 f153R=true:=by kernel_rfl
def f152_6:IC:=.seq (.opxv [m1 12 2,o1 13 (.faddr (.t 3) 5),o1 14 (.load (.t 13) 1 false),m1 15 1] [12,14,15] 16 (.t 12) [(.t 14),(.t 15)] [] []) .ret
def f152_20:IC:=.opxv [m1 24 2,o1 25 (.faddr (.t 7) 1),o1 26 (.load (.t 25) 1 false),m1 27 1,o1 28 (.faddr (.t 7) 0),o1 29 (.load (.t 28) 1 false),o1 30 (.bin .add (.t 27) (.t 29)),o1 31 (.bin .add (.t 30) (.c (.s [47])))] [1,2,18,19,20,24,26,31] 32 (.t 24) [(.t 26),(.t 31)] [] [1,2,18,19,20]
def f152_16:IC:=.seq (.block 1 (.seq (.ops [o1 22 (.iaddr (.t 18) (.t 20) 97 2),o1 23 (.load (.t 22) 2 true),o1 7 (.alloc (.agg [(.s []),.nil])),o0 (.store (.t 7) (.t 23) 2)] [1,2,7,18,19,20] []) f152_20)) (.ops [o1 33 (.bin .add (.t 20) (ci 1)),m1 20 33] [1,2,18,19,20] [])
def f152_12:IC:=.seq (.ops [o1 21 (.bin .lss (.t 20) (.t 19))] [1,2,18,19,20,21] []) (.seq (.cond (.t 21) .skip (.exit 0)) f152_16)
def f152_8:IC:=.seq (.ops [o1 17 (.faddr (.t 3) 4),o1 18 (.load (.t 17) 1 false),o1 19 (.lenL (.t 18)),o1 20 (.mv (ci 0))] [1,2,18,19,20] []) (.block 0 (.loop f152_12))
def f152_2:IC:=.seq (.seq (.ops [o1 8 (.faddr (.t 3) 0),o1 9 (.load (.t 8) 1 false),o1 10 (.call 62 [.t 9]),o1 11 (.not (.t 10))] [1,2,3,11] []) (.cond (.t 11) f152_6 .skip)) f152_8
def f152_0:IC:=.seq (.ops [o1 3 (.box (.t 0))] [1,2,3] []) f152_2
@[push_cast]def f152R:List R:=[]
@[push_cast]def f152e:=aWv f152_6.eq_1<|aWv f152_20.eq_1<|aWv f152_16.eq_1<|aWv f152_12.eq_1<|aWv f152_8.eq_1<|aWv f152_2.eq_1<|aWu f152_0.eq_1
theorem f152ok:okFn Tryz.prog 152 34 f152_0 f152R=true:=by kernel_rfl
def f151_34:IC:=.ops [o1 27 (.faddr (.t 5) 4),o1 28 (.load (.t 27) 1 false),m1 29 6,o1 30 (.faddr (.t 5) 4),o1 31 (.load (.t 30) 1 false),m1 32 6,o1 33 (.iaddr (.t 31) (.t 32) 97 2),o1 34 (.faddr (.t 33) 1),o1 35 (.load (.t 34) 1 false),o1 36 (.call 151 [.t 35]),o1 37 (.iaddr (.t 28) (.t 29) 97 2),o1 38 (.faddr (.t 37) 1),o0 (.store (.t 38) (.t 36) 1)] [3,5,7,8,9,23,24] [[0,1],[3,4],[4,6],[5,6],[6,7],[7,8],[8,9],[1,10],[2,10],[10,11],[1,12],[4,12],[6,12],[8,12],[9,12],[10,11,12],[11,12]]
def f151_30:IC:=.seq (.block 3 (.seq (.ops [m1 26 24,m1 6 26] [3,5,6,7,8,9,23,24] []) f151_34)) (.ops [o1 39 (.bin .add (.t 24) (ci 1)),m1 24 39] [3,5,7,8,9,23,24] [])
def f151_26:IC:=.seq (.ops [o1 25 (.bin .lss (.t 24) (.t 23))] [3,5,7,8,9,23,24,25] []) (.seq (.cond (.t 25) .skip (.exit 2)) f151_30)
def f151_37:IC:=.ops [m1 40 3,o1 41 (.load (.t 5) 6 true),o1 42 (.msl false 85 6 [.t 41]),o1 43 (.app (.t 40) (.t 42) 85 6),m1 3 43] [3,7,8,9] []
def f151_21:IC:=.seq (.seq (.ops [o1 21 (.faddr (.t 5) 4),o1 22 (.load (.t 21) 1 false),o1 23 (.lenL (.t 22)),o1 24 (.mv (ci 0))] [3,5,7,8,9,23,24] []) (.block 2 (.loop f151_26))) (.wk f151_37)
def f151_19:IC:=.seq (.ops [o1 17 (.faddr (.t 5) 4),o1 18 (.load (.t 17) 1 false),o1 19 (.calln 201 [.t 18]),o1 20 (.faddr (.t 5) 4),o0 (.store (.t 20) (.t 19) 1)] [3,5,7,8,9] []) f151_21
def f151_17:IC:=.seq (.ops [o1 13 (.faddr (.t 5) 5),o1 14 (.load (.t 13) 1 false),o1 15 (.call 151 [.t 14]),o1 16 (.faddr (.t 5) 5),o0 (.store (.t 16) (.t 15) 1)] [3,5,7,8,9] []) f151_19
def f151_13:IC:=.seq (.block 1 (.seq (.ops [o1 11 (.iaddr (.t 7) (.t 9) 85 6),o1 12 (.load (.t 11) 6 true),o1 5 (.alloc (.agg [(.i .i64 0),(.s []),(.s []),(.s []),.nil,.nil])),o0 (.store (.t 5) (.t 12) 6)] [3,5,7,8,9] []) f151_17)) (.ops [o1 44 (.bin .add (.t 9) (ci 1)),m1 9 44] [3,7,8,9] [])
def f151_9:IC:=.seq (.ops [o1 10 (.bin .lss (.t 9) (.t 8))] [3,7,8,9,10] []) (.seq (.cond (.t 10) .skip (.exit 0)) f151_13)
def f151_4:IC:=.seq (.seq (.ops [m1 7 0,o1 8 (.lenL (.t 7)),o1 9 (.mv (ci 0))] [3,7,8,9] []) (.block 0 (.loop f151_9))) (.seq (.ops [m1 45 3,m1 2 45] [2] []) .ret)
def f151_0:IC:=.seq (.ops [o1 2 (.mv (.c .nil))] [0] []) (.seq (.ops [o1 3 (.mv (.c .nil))] [0,3] []) f151_4)
@[push_cast]def f151R:List R:=[.t 2]
@[push_cast]def f151e:=aWv f151_34.eq_1<|aWv f151_30.eq_1<|aWv f151_26.eq_1<|aWv f151_37.eq_1<|aWv f151_21.eq_1<|aWv f151_19.eq_1<|aWv f151_17.eq_1<|aWv f151_13.eq_1<|aWv f151_9.eq_1<|aWv f151_4.eq_1<|aWu f151_0.eq_1
theorem f151ok:okFn Tryz.prog 151 46 f151_0 f151R=true:=by kernel_rfl
def f20_34:IC:=.seq (.ops [o1 51 (.faddr (.t 4) 2),o1 52 (.load (.t 51) 1 false),m1 53 5,o1 54 (.slL (.t 52) none (some (.t 53)) 1),m1 55 6,o1 56 (.call 64 [.t 54,.t 55])] [1,3,4,9,10,11,44,45,46,56] []) (.cond (.t 56) (.seq (.ops [o1 2 (.mv (.c (.b false)))] [2] []) .ret) .skip)
def f20_30:IC:=.seq (.block 3 (.seq (.ops [m1 48 46,o1 49 (.iaddr (.t 44) (.t 46) 9 1),o1 50 (.load (.t 49) 1 false),m1 5 48,m1 6 50] [1,3,4,5,6,9,10,11,44,45,46] []) f20_34)) (.ops [o1 57 (.bin .add (.t 46) (ci 1)),m1 46 57] [1,3,4,9,10,11,44,45,46] [])
def f20_26:IC:=.seq (.ops [o1 47 (.bin .lss (.t 46) (.t 45))] [1,3,4,9,10,11,44,45,46,47] []) (.seq (.cond (.t 47) .skip (.exit 2)) f20_30)
def f20_40:IC:=.seq (.ops [o1 58 (.faddr (.t 1) 0),o1 59 (.load (.t 58) 1 false),m1 60 3,o1 61 (.slL (.t 59) none (some (.t 60)) 3),o1 62 (.mkfn 66 [] [.t 4]),o1 63 (.callr 65 [.t 61,.t 62])] [1,9,10,11,63] []) (.cond (.t 63) (.seq (.ops [o1 2 (.mv (.c (.b false)))] [2] []) .ret) .skip)
def f20_21:IC:=.seq (.seq (.ops [o1 43 (.faddr (.t 4) 2),o1 44 (.load (.t 43) 1 false),o1 45 (.lenL (.t 44)),o1 46 (.mv (ci 0))] [1,3,4,9,10,11,44,45,46] []) (.block 2 (.loop f20_26))) f20_40
def f20_15:IC:=.seq (.seq (.ops [o1 16 (.faddr (.t 4) 0),o1 17 (.load (.t 16) 1 false),o1 18 (.call 62 [.t 17]),o1 19 (.not (.t 18)),m1 20 19,⟨some 21,.faddr (.t 4) 1,some (20,false),[]⟩,⟨some 22,.load (.t 21) 1 false,some (20,false),[]⟩,⟨some 23,.call 63 [.t 22],some (20,false),[]⟩,⟨some 24,.not (.t 23),some (20,false),[]⟩,o1 25 (.pick (.t 20) (.c (.b true)) (.t 24)),m1 26 25,⟨some 27,.faddr (.t 4) 2,some (26,false),[]⟩,⟨some 28,.load (.t 27) 1 false,some (26,false),[]⟩,⟨some 29,.lenL (.t 28),some (26,false),[]⟩,⟨some 30,.bin .eql (.t 29) (ci 0),some (26,false),[]⟩,o1 31 (.pick (.t 26) (.c (.b true)) (.t 30)),m1 32 31,⟨some 33,.faddr (.t 4) 2,some (32,false),[]⟩,⟨some 34,.load (.t 33) 1 false,some (32,false),[]⟩,⟨some 35,.faddr (.t 4) 2,some (32,false),[]⟩,⟨some 36,.load (.t 35) 1 false,some (32,false),[]⟩,⟨some 37,.lenL (.t 36),some (32,false),[]⟩,⟨some 38,.bin .sub (.t 37) (ci 1),some (32,false),[]⟩,⟨some 39,.iaddr (.t 34) (.t 38) 9 1,some (32,false),[]⟩,⟨some 40,.load (.t 39) 1 false,some (32,false),[]⟩,⟨some 41,.bin .neq (.t 40) (.c (.s [111,116,104,101,114])),some (32,false),[]⟩,o1 42 (.pick (.t 32) (.c (.b true)) (.t 41))] [1,3,4,9,10,11,42] []) (.cond (.t 42) (.seq (.ops [o1 2 (.mv (.c (.b false)))] [2] []) .ret) .skip)) f20_21
def f20_11:IC:=.seq (.block 1 (.seq (.ops [m1 13 11,o1 14 (.iaddr (.t 9) (.t 11) 106 3),o1 15 (.load (.t 14) 3 true),o1 4 (.alloc (.agg [(.i .i64 0),(.s []),.nil])),m1 3 13,o0 (.store (.t 4) (.t 15) 3)] [1,3,4,9,10,11] []) f20_15)) (.ops [o1 64 (.bin .add (.t 11) (ci 1)),m1 11 64] [1,9,10,11] [])
def f20_7:IC:=.seq (.ops [o1 12 (.bin .lss (.t 11) (.t 10))] [1,9,10,11,12] []) (.seq (.cond (.t 12) .skip (.exit 0)) f20_11)
def f20_48:IC:=.seq (.ops [m1 68 7,o1 69 (.bin .leq (.t 68) (ci 400)),m1 70 69,⟨some 71,.faddr (.t 1) 1,some (70,true),[]⟩,⟨some 72,.load (.t 71) 1 false,some (70,true),[]⟩,⟨some 73,.lenL (.t 72),some (70,true),[]⟩,⟨some 74,.mv (.t 7),some (70,true),[]⟩,⟨some 75,.bin .eql (.t 73) (.t 74),some (70,true),[]⟩,o1 76 (.pick (.t 70) (.t 75) (.c (.b false))),m1 2 76] [2] []) .ret
def f20_46:IC:=.seq (.ops [o1 65 (.faddr (.t 1) 0),o1 66 (.load (.t 65) 1 false),o1 67 (.call 55 [.t 66]),m1 7 67] [1,7] []) f20_48
def f20_2:IC:=.seq (.seq (.ops [o1 8 (.faddr (.t 1) 0),o1 9 (.load (.t 8) 1 false),o1 10 (.lenL (.t 9)),o1 11 (.mv (ci 0))] [1,9,10,11] []) (.block 0 (.loop f20_7))) f20_46
def f20_0:IC:=.seq (.ops [o1 1 (.box (.t 0)),o1 2 (.mv (.c (.b false)))] [1] []) f20_2
@[push_cast]def f20R:List R:=[.t 2]
@[push_cast]def f20e:=aWv f20_34.eq_1<|aWv f20_30.eq_1<|aWv f20_26.eq_1<|aWv f20_40.eq_1<|aWv f20_21.eq_1<|aWv f20_15.eq_1<|aWv f20_11.eq_1<|aWv f20_7.eq_1<|aWv f20_48.eq_1<|aWv f20_46.eq_1<|aWv f20_2.eq_1<|aWu f20_0.eq_1
theorem f20ok:okFn Tryz.prog 20 77 f20_0 f20R=true:=by kernel_rfl
def f66_2:IC:=.seq (.ops [o1 4 (.faddr (.t 2) 0),o1 5 (.load (.t 4) 1 false),o1 6 (.faddr (.t 1) 0),o1 7 (.load (.t 6) 1 false),o1 8 (.bin .eql (.t 5) (.t 7)),m1 9 8,⟨some 10,.faddr (.t 2) 1,some (9,true),[]⟩,⟨some 11,.load (.t 10) 1 false,some (9,true),[]⟩,⟨some 12,.faddr (.t 1) 1,some (9,true),[]⟩,⟨some 13,.load (.t 12) 1 false,some (9,true),[]⟩,⟨some 14,.bin .eql (.t 11) (.t 13),some (9,true),[]⟩,o1 15 (.pick (.t 9) (.t 14) (.c (.b false))),m1 3 15] [3] []) .ret
def f66_0:IC:=.seq (.ops [o1 2 (.box (.t 0)),o1 3 (.mv (.c (.b false)))] [1,2] []) f66_2
@[push_cast]def f66R:List R:=[.t 3]
@[push_cast]def f66e:=aWv f66_2.eq_1<|aWu f66_0.eq_1
theorem f66ok:okFn Tryz.prog 66 16 f66_0 f66R=true:=by kernel_rfl
def f201_8:IC:=.seq (.ops [o1 5 (.msl true 97 2 []),m1 6 0,o1 7 (.app (.t 5) (.t 6) 97 2),m1 2 7] [2] []) .ret
def f201_2:IC:=.seq (.seq (.ops [m1 3 0,o1 4 (.pu (.isnil false) [.t 3])] [0,4] []) (.cond (.t 4) (.seq (.ops [o1 2 (.mv (.c .nil))] [2] []) .ret) .skip)) f201_8
def f201_0:IC:=.seq (.ops [o1 2 (.mv (.c .nil))] [0] []) f201_2
@[push_cast]def f201R:List R:=[.t 2]
@[push_cast]def f201e:=aWv f201_8.eq_1<|aWv f201_2.eq_1<|aWu f201_0.eq_1
theorem f201ok:okFn Tryz.prog 201 8 f201_0 f201R=true:=by kernel_rfl
def f18_35:IC:=.seq (.block 3 (.seq (.ops [o1 71 (.faddr (.t 6) 2),o1 72 (.load (.t 71) 1 false),m1 73 8,o1 74 (.iaddr (.t 72) (.t 73) 9 1),o1 75 (.load (.t 74) 1 false),o1 76 (.faddr (.t 7) 2),o1 77 (.load (.t 76) 1 false),m1 78 8,o1 79 (.iaddr (.t 77) (.t 78) 9 1),o1 80 (.load (.t 79) 1 false),o1 81 (.bin .neq (.t 75) (.t 80))] [2,3,5,6,7,8,81] [[0,1],[1,3],[2,3],[3,4],[5,6],[6,8],[7,8],[8,9],[4,10],[9,10]]) (.cond (.t 81) (.seq (.ops [o1 4 (.mv (.c (.b false)))] [4] []) .ret) .skip))) (.ops [m1 69 8,o1 70 (.bin .add (.t 69) (ci 1)),m1 8 70] [2,3,5,6,7,8] [])
def f18_31:IC:=.seq (.seq (.ops [m1 64 8,o1 65 (.faddr (.t 6) 2),o1 66 (.load (.t 65) 1 false),o1 67 (.lenL (.t 66)),o1 68 (.bin .lss (.t 64) (.t 67))] [2,3,5,6,7,8,68] []) (.cond (.t 68) .skip (.exit 2))) f18_35
def f18_21:IC:=.seq (.seq (.ops [o1 43 (.faddr (.t 6) 0),o1 44 (.load (.t 43) 1 false),o1 45 (.faddr (.t 7) 0),o1 46 (.load (.t 45) 1 false),o1 47 (.bin .neq (.t 44) (.t 46)),m1 48 47,⟨some 49,.faddr (.t 6) 1,some (48,false),[]⟩,⟨some 50,.load (.t 49) 1 false,some (48,false),[]⟩,⟨some 51,.faddr (.t 7) 1,some (48,false),[]⟩,⟨some 52,.load (.t 51) 1 false,some (48,false),[]⟩,⟨some 53,.bin .neq (.t 50) (.t 52),some (48,false),[]⟩,o1 54 (.pick (.t 48) (.c (.b true)) (.t 53)),m1 55 54,⟨some 56,.faddr (.t 6) 2,some (55,false),[]⟩,⟨some 57,.load (.t 56) 1 false,some (55,false),[]⟩,⟨some 58,.lenL (.t 57),some (55,false),[]⟩,⟨some 59,.faddr (.t 7) 2,some (55,false),[]⟩,⟨some 60,.load (.t 59) 1 false,some (55,false),[]⟩,⟨some 61,.lenL (.t 60),some (55,false),[]⟩,⟨some 62,.bin .neq (.t 58) (.t 61),some (55,false),[]⟩,o1 63 (.pick (.t 55) (.c (.b true)) (.t 62))] [2,3,5,6,7,63] []) (.cond (.t 63) (.seq (.ops [o1 4 (.mv (.c (.b false)))] [4] []) .ret) .skip)) (.seq (.ops [o1 8 (.mv (ci 0))] [2,3,5,6,7,8] []) (.block 2 (.loop f18_31)))
def f18_17:IC:=.seq (.block 1 (.seq (.ops [o1 33 (.faddr (.t 2) 0),o1 34 (.load (.t 33) 1 false),m1 35 5,o1 36 (.iaddr (.t 34) (.t 35) 110 3),o1 37 (.load (.t 36) 3 true),o1 38 (.faddr (.t 3) 0),o1 39 (.load (.t 38) 1 false),m1 40 5,o1 41 (.iaddr (.t 39) (.t 40) 110 3),o1 42 (.load (.t 41) 3 true),o1 6 (.alloc (.agg [(.i .i64 0),(.s []),.nil])),o1 7 (.alloc (.agg [(.i .i64 0),(.s []),.nil])),⟨none,.store (.t 6) (.t 37) 3,none,[.t 38,.t 39,.t 41]⟩,o0 (.store (.t 7) (.t 42) 3)] [2,3,5,6,7] [[0,1],[1,3],[2,3],[3,4],[5,6],[6,8],[7,8],[8,9],[1,12],[3,12],[4,12],[10,12],[1,13],[3,13],[4,13],[6,13],[8,13],[9,13],[11,13],[12,13]]) f18_21)) (.ops [m1 31 5,o1 32 (.bin .add (.t 31) (ci 1)),m1 5 32] [2,3,5] [])
def f18_13:IC:=.seq (.seq (.ops [m1 26 5,o1 27 (.faddr (.t 2) 0),o1 28 (.load (.t 27) 1 false),o1 29 (.lenL (.t 28)),o1 30 (.bin .lss (.t 26) (.t 29))] [2,3,5,30] []) (.cond (.t 30) .skip (.exit 0))) f18_17
def f18_53:IC:=.seq (.block 5 (.seq (.ops [o1 89 (.faddr (.t 2) 1),o1 90 (.load (.t 89) 1 false),m1 91 9,o1 92 (.iaddr (.t 90) (.t 91) 31 1),o1 93 (.load (.t 92) 1 false),o1 94 (.faddr (.t 3) 1),o1 95 (.load (.t 94) 1 false),m1 96 9,o1 97 (.iaddr (.t 95) (.t 96) 31 1),o1 98 (.load (.t 97) 1 false),o1 99 (.call 36 [.t 93,.t 98]),o1 100 (.not (.t 99))] [2,3,9,100] [[0,1],[1,3],[2,3],[3,4],[5,6],[6,8],[7,8],[8,9],[4,10],[9,10],[10,11]]) (.cond (.t 100) (.seq (.ops [o1 4 (.mv (.c (.b false)))] [4] []) .ret) .skip))) (.ops [m1 87 9,o1 88 (.bin .add (.t 87) (ci 1)),m1 9 88] [2,3,9] [])
def f18_49:IC:=.seq (.seq (.ops [m1 82 9,o1 83 (.faddr (.t 2) 1),o1 84 (.load (.t 83) 1 false),o1 85 (.lenL (.t 84)),o1 86 (.bin .lss (.t 82) (.t 85))] [2,3,9,86] []) (.cond (.t 86) .skip (.exit 4))) f18_53
def f18_44:IC:=.seq (.seq (.ops [o1 9 (.mv (ci 0))] [2,3,9] []) (.block 4 (.loop f18_49))) (.seq (.ops [o1 4 (.mv (.c (.b true)))] [4] []) .ret)
def f18_2:IC:=.seq (.seq (.ops [o1 10 (.faddr (.t 2) 0),o1 11 (.load (.t 10) 1 false),o1 12 (.lenL (.t 11)),o1 13 (.faddr (.t 3) 0),o1 14 (.load (.t 13) 1 false),o1 15 (.lenL (.t 14)),o1 16 (.bin .neq (.t 12) (.t 15)),m1 17 16,⟨some 18,.faddr (.t 2) 1,some (17,false),[]⟩,⟨some 19,.load (.t 18) 1 false,some (17,false),[]⟩,⟨some 20,.lenL (.t 19),some (17,false),[]⟩,⟨some 21,.faddr (.t 3) 1,some (17,false),[]⟩,⟨some 22,.load (.t 21) 1 false,some (17,false),[]⟩,⟨some 23,.lenL (.t 22),some (17,false),[]⟩,⟨some 24,.bin .neq (.t 20) (.t 23),some (17,false),[]⟩,o1 25 (.pick (.t 17) (.c (.b true)) (.t 24))] [2,3,25] []) (.cond (.t 25) (.seq (.ops [o1 4 (.mv (.c (.b false)))] [4] []) .ret) .skip)) (.seq (.seq (.ops [o1 5 (.mv (ci 0))] [2,3,5] []) (.block 0 (.loop f18_13))) f18_44)
def f18_0:IC:=.seq (.ops [o1 2 (.box (.t 0)),o1 3 (.box (.t 1)),o1 4 (.mv (.c (.b false)))] [2,3] []) f18_2
@[push_cast]def f18R:List R:=[.t 4]
@[push_cast]def f18e:=aWv f18_35.eq_1<|aWv f18_31.eq_1<|aWv f18_21.eq_1<|aWv f18_17.eq_1<|aWv f18_13.eq_1<|aWv f18_53.eq_1<|aWv f18_49.eq_1<|aWv f18_44.eq_1<|aWv f18_2.eq_1<|aWu f18_0.eq_1
theorem f18ok:okFn Tryz.prog 18 101 f18_0 f18R=true:=by kernel_rfl
def f19_13:IC:=.seq (.block 1 (.ops [o1 15 (.faddr (.t 3) 0),o1 16 (.load (.t 15) 1 false),o1 17 (.faddr (.t 1) 0),o1 18 (.load (.t 17) 1 false),m1 19 4,o1 20 (.iaddr (.t 18) (.t 19) 106 3),o1 21 (.load (.t 20) 3 true),o1 22 (.msl false 110 3 [.t 21]),o1 23 (.app (.t 16) (.t 22) 110 3),o1 24 (.faddr (.t 3) 0),o0 (.store (.t 24) (.t 23) 1)] [1,2,3,4] [[0,1],[2,3],[3,5],[4,5],[5,6],[6,7],[1,8],[3,5,6,7,8],[5,6,7,8],[6,7,8],[7,8],[1,10],[3,10],[5,10],[6,10],[8,10],[9,10]])) (.ops [m1 13 4,o1 14 (.bin .add (.t 13) (ci 1)),m1 4 14] [1,2,3,4] [])
def f19_9:IC:=.seq (.seq (.ops [m1 8 4,o1 9 (.faddr (.t 1) 0),o1 10 (.load (.t 9) 1 false),o1 11 (.lenL (.t 10)),o1 12 (.bin .lss (.t 8) (.t 11))] [1,2,3,4,12] []) (.cond (.t 12) .skip (.exit 0))) f19_13
def f19_4:IC:=.seq (.seq (.ops [o1 4 (.mv (ci 0))] [1,2,3,4] []) (.block 0 (.loop f19_9))) (.seq (.ops [o1 25 (.load (.t 3) 2 true),o0 (.store (.t 2) (.t 25) 2)] [2] []) .ret)
def f19_2:IC:=.seq (.ops [o1 5 (.faddr (.t 1) 1),o1 6 (.load (.t 5) 1 false),o1 7 (.build [.nil,.nil] [(1,1,(.t 6))]),o1 3 (.alloc (.agg [.nil,.nil])),o0 (.store (.t 3) (.t 7) 2)] [1,2,3] []) f19_4
def f19_0:IC:=.seq (.ops [o1 1 (.box (.t 0)),o1 2 (.alloc (.agg [.nil,.nil]))] [1,2] []) f19_2
@[push_cast]def f19R:List R:=[.c 2 2 true]
@[push_cast]def f19e:=aWv f19_13.eq_1<|aWv f19_9.eq_1<|aWv f19_4.eq_1<|aWv f19_2.eq_1<|aWu f19_0.eq_1
theorem f19ok:okFn Tryz.prog 19 26 f19_0 f19R=true:=by kernel_rfl
def f3_18:IC:=.seq (.ops [m1 31 6,m1 32 8,o1 33 (.bin .eql (.t 31) (.t 32)),m1 34 33,⟨some 35,.load (.t 5) 2 true,some (34,true),[]⟩,⟨some 36,.call 19 [.t 35],some (34,true),[]⟩,⟨some 37,.load (.t 7) 2 true,some (34,true),[]⟩,⟨some 38,.call 18 [.t 36,.t 37],some (34,true),[]⟩,o1 39 (.pick (.t 34) (.t 38) (.c (.b false))),m1 4 39] [4] [[0,2],[1,2],[2,3],[3,4],[3,5],[4,5],[3,6],[3,7],[5,7],[6,7],[3,8],[7,8],[8,9]]) .ret
def f3_16:IC:=.seq (.ops [o1 26 (.load (.t 2) 16 true),m1 27 1,o1 28 (.call 17 [.t 26,.t 27]),m1 25 28,o1 29 (.ext (.t 25) 0),o1 30 (.ext (.t 25) 1),o1 7 (.alloc (.agg [.nil,.nil])),o0 (.store (.t 7) (.t 29) 2),m1 8 30] [5,6,7,8] []) f3_18
def f3_14:IC:=.seq (.ops [o1 20 (.load (.t 2) 16 true),m1 21 1,o1 22 (.call 16 [.t 20,.t 21]),m1 19 22,o1 23 (.ext (.t 19) 0),o1 24 (.ext (.t 19) 1),o1 5 (.alloc (.agg [.nil,.nil])),o0 (.store (.t 5) (.t 23) 2),m1 6 24] [1,2,5,6] []) f3_16
def f3_8:IC:=.seq (.seq (.ops [o1 11 (.load (.t 2) 16 true),o1 12 (.call 14 [.t 11]),o1 13 (.not (.t 12)),m1 14 13,⟨some 15,.mv (.t 1),some (14,false),[]⟩,⟨some 16,.call 15 [.t 15],some (14,false),[]⟩,⟨some 17,.not (.t 16),some (14,false),[]⟩,o1 18 (.pick (.t 14) (.c (.b true)) (.t 17))] [1,2,18] []) (.cond (.t 18) (.seq (.ops [o1 4 (.mv (.c (.b true)))] [4] []) .ret) .skip)) f3_14
def f3_2:IC:=.seq (.seq (.ops [o1 9 (.call 13 []),o1 10 (.not (.t 9))] [1,2,10] []) (.cond (.t 10) (.seq (.ops [o1 4 (.mv (.c (.b false)))] [4] []) .ret) .skip)) f3_8
def f3_0:IC:=.seq (.ops [o1 2 (.box (.t 0)),o1 4 (.mv (.c (.b false)))] [1,2] []) f3_2
@[push_cast]def f3R:List R:=[.t 4]
@[push_cast]def f3e:=aWv f3_18.eq_1<|aWv f3_16.eq_1<|aWv f3_14.eq_1<|aWv f3_8.eq_1<|aWv f3_2.eq_1<|aWu f3_0.eq_1
theorem f3ok:okFn Tryz.prog 3 40 f3_0 f3R=true:=by kernel_rfl
def f13_8:IC:=.seq (.ops [m1 27 3,o1 28 (.bin .eql (.t 27) (ci 0)),m1 29 28,⟨some 30,.mv (.t 2),some (29,true),[]⟩,⟨some 31,.lenL (.t 30),some (29,true),[]⟩,⟨some 32,.bin .eql (.t 31) (ci 4),some (29,true),[]⟩,o1 33 (.pick (.t 29) (.t 32) (.c (.b false))),m1 34 33,⟨some 35,.mv (.t 2),some (34,true),[]⟩,⟨some 36,.iaddr (.t 35) (ci 1) 73 2,some (34,true),[]⟩,⟨some 37,.faddr (.t 36) 0,some (34,true),[]⟩,⟨some 38,.load (.t 37) 1 false,some (34,true),[]⟩,⟨some 39,.bin .eql (.t 38) (.c (.s [49,47,111,110,101,47,48])),some (34,true),[]⟩,o1 40 (.pick (.t 34) (.t 39) (.c (.b false))),m1 41 40,⟨some 42,.mv (.t 5),some (41,true),[]⟩,⟨some 43,.bin .eql (.t 42) (ci 0),some (41,true),[]⟩,o1 44 (.pick (.t 41) (.t 43) (.c (.b false))),m1 45 44,⟨some 46,.faddr (.t 4) 1,some (45,true),[]⟩,⟨some 47,.load (.t 46) 1 false,some (45,true),[]⟩,⟨some 48,.lenL (.t 47),some (45,true),[]⟩,⟨some 49,.bin .eql (.t 48) (ci 2),some (45,true),[]⟩,o1 50 (.pick (.t 45) (.t 49) (.c (.b false))),m1 51 50,⟨some 52,.faddr (.t 4) 1,some (51,true),[]⟩,⟨some 53,.load (.t 52) 1 false,some (51,true),[]⟩,⟨some 54,.iaddr (.t 53) (ci 0) 31 1,some (51,true),[]⟩,⟨some 55,.load (.t 54) 1 false,some (51,true),[]⟩,⟨some 56,.build [(.i .i64 0),(.s []),(.s []),(.s []),.nil,.nil] [(0,1,(ci 1)),(1,1,(.c (.s [97,120])))],some (51,true),[]⟩,⟨some 57,.msl false 85 6 [.t 56],some (51,true),[]⟩,⟨some 58,.call 36 [.t 55,.t 57],some (51,true),[]⟩,o1 59 (.pick (.t 51) (.t 58) (.c (.b false))),m1 60 59,⟨some 61,.load (.t 4) 2 true,some (60,true),[]⟩,⟨some 62,.call 20 [.t 61],some (60,true),[]⟩,o1 63 (.pick (.t 60) (.t 62) (.c (.b false))),m1 64 63,⟨some 65,.faddr (.t 4) 1,some (64,true),[]⟩,⟨some 66,.load (.t 65) 1 false,some (64,true),[]⟩,⟨some 67,.iaddr (.t 66) (ci 1) 31 1,some (64,true),[]⟩,⟨some 68,.load (.t 67) 1 false,some (64,true),[]⟩,⟨some 69,.call 21 [.t 68],some (64,true),[]⟩,o1 70 (.pick (.t 64) (.t 69) (.c (.b false))),m1 0 70] [0] []) .ret
def f13_6:IC:=.seq (.ops [o1 22 (.build [(.s []),(.s []),(.s []),.nil,.nil,(.s []),(.s []),(.s []),(.s []),(.i .i64 0),(.i .i64 0),.nil,.nil,.nil,.nil,.nil] []),m1 23 1,o1 24 (.call 16 [.t 22,.t 23]),m1 21 24,o1 25 (.ext (.t 21) 0),o1 26 (.ext (.t 21) 1),o1 4 (.alloc (.agg [.nil,.nil])),o0 (.store (.t 4) (.t 25) 2),m1 5 26] [2,3,4,5] []) f13_8
def f13_4:IC:=.seq (.ops [m1 17 1,o1 18 (.call 38 [.t 17]),m1 16 18,o1 19 (.ext (.t 16) 0),o1 20 (.ext (.t 16) 1),m1 2 19,m1 3 20] [1,2,3] []) f13_6
def f13_2:IC:=.seq (.ops [o1 6 (.build [(.i .i64 0),(.s []),(.s []),(.s []),.nil,.nil] [(0,1,(ci 1)),(1,1,(.c (.s [97])))]),o1 7 (.build [(.i .i64 0),(.s []),(.s []),(.s []),.nil,.nil] [(0,1,(ci 1)),(1,1,(.c (.s [120])))]),o1 8 (.msl false 85 6 [.t 7]),o1 9 (.build [(.s []),.nil] [(0,1,(.c (.s [111,110,101]))),(1,1,(.t 8))]),o1 10 (.build [(.i .i64 0),(.s []),(.s []),(.s []),.nil,.nil] [(0,1,(ci 10))]),o1 11 (.msl false 85 6 [.t 10]),o1 12 (.build [(.s []),.nil] [(0,1,(.c (.s [111,116,104,101,114]))),(1,1,(.t 11))]),o1 13 (.msl false 97 2 [.t 9,.t 12]),o1 14 (.build [(.i .i64 0),(.s []),(.s []),(.s []),.nil,.nil] [(0,1,(ci 7)),(2,1,(.c (.s [110]))),(4,1,(.t 13))]),o1 15 (.msl false 85 6 [.t 6,.t 14]),m1 1 15] [1] []) f13_4
def f13_0:IC:=.seq (.ops [o1 0 (.mv (.c (.b false)))] [] []) f13_2
@[push_cast]def f13R:List R:=[.t 0]
@[push_cast]def f13e:=aWv f13_8.eq_1<|aWv f13_6.eq_1<|aWv f13_4.eq_1<|aWv f13_2.eq_1<|aWu f13_0.eq_1
theorem f13ok:okFn Tryz.prog 13 71 f13_0 f13R=true:=by kernel_rfl
end Go.Ir
section
namespace Go.Ir
section tree
variable {P : Part → Prop} {Q : List Part → Prop} {R : List Case → Prop}
theorem tree_ind (hp:∀p:Part,R p.cases->Q p.parts->P p) (q0:Q []) (q1:∀p ps,P p->Q ps->Q (p::ps)) (r0:R []) (r1:∀(c:Case) (cs:List Case),Q c.2->R cs->R (c::cs)) :
  ∀N,(∀p:Part,p.wt<N->P p)/\(∀ps,wtPs ps<N->Q ps)/\(∀cs,wtCs cs<N->R cs):=by
 intro N
 induction N with
 | zero=>exact ⟨fun p h=>by omega,fun p h=>by omega,fun p h=>by omega⟩
 | succ N ih=>
  have h1:∀p:Part,p.wt<N+1->P p:=fun p h=>by
   rw [p.wt_eq] at h
   exact hp p (ih.2.2 _ (by omega)) (ih.2.1 _ (by omega))
  have h2:∀ps,wtPs ps<N+1->Q ps:=by
   intro ps
   induction ps with
   | nil=>intro _;exact q0
   | cons p ps ih2=>intro h;rw [wtPs_cons] at h;exact q1 p ps (h1 p (by omega)) (ih2 (by omega))
  refine ⟨h1,h2,fun cs=>?_⟩
  induction cs with
  | nil=>intro _;exact r0
  | cons c cs ih2=>intro h;rw [wtCs_cons] at h;exact r1 c cs (h2 c.2 (by omega)) (ih2 (by omega))
theorem tree_Q (hp:∀p:Part,R p.cases->Q p.parts->P p) (q0:Q []) (q1:∀p ps,P p->Q ps->Q (p::ps)) (r0:R []) (r1:∀(c:Case) (cs:List Case),Q c.2->R cs->R (c::cs)) (ps:List Part):Q ps:=
 (tree_ind hp q0 q1 r0 r1 _).2.1 ps (Nat.lt_succ_self _)
end tree
theorem nameB_ne {s:Bytes} (h:nameB s=true):s≠[]:=by rintro rfl;cases h
theorem selB_iff (k:Int):selB k=true↔k=7\/k=8\/k=9:=by unfold selB;simp;omega
theorem len0 {α:Type} {l:List α} (h:((l.length:Int) == 0)=true):l=[]:=by
 have:(l.length:Int)=0:=by simpa using h
 exact List.length_eq_zero_iff.1 (by omega)
theorem fields_plain (p:Part) (c:Bool) (h11:(p.kind == 11)=false) (hs:selB p.kind=false):plainB p c=(p.fieldsB&&!(p.kind == 10&&!c)):=by
 obtain ⟨k,t,nm,st,cs,ps⟩:=p
 simp only at h11 hs
 have h7:(k == 7)=false/\(k == 8)=false/\(k == 9)=false:=by
  have:¬(k=7\/k=8\/k=9):=fun h=>by rw [(selB_iff k).2 h] at hs;cases hs
  simp;omega
 obtain ⟨h7,h8,h9⟩:=h7
 unfold plainB plainK wT wN wS Part.fieldsB fieldsK
 simp only
 have ht:(t == t)=true:=by simp
 have hn:(nm == nm)=true:=by simp
 have hss:(st == st)=true:=by simp
 by_cases h1:k=1
 ·subst h1
  simp only [bq,if_true,if_false,Int.reduceBEq,reduceCtorEq,Int.reduceBEq,ht,hn,hss]
  generalize (t == [])=a1;generalize (nm == [])=a2;generalize (st == [])=a3;generalize ((cs.length:Int) == 0)=a4;generalize ((ps.length:Int) == 0)=a5
  cases a1<;>cases a2<;>cases a3<;>cases a4<;>cases a5<;>rfl
 by_cases h10:k=10
 ·subst h10
  simp only [bq,if_true,if_false,Int.reduceBEq,reduceCtorEq,Int.reduceBEq,ht,hn,hss]
  generalize (t == [])=a1;generalize (nm == [])=a2;generalize (st == [])=a3;generalize ((cs.length:Int) == 0)=a4;generalize ((ps.length:Int) == 0)=a5
  cases a1<;>cases a2<;>cases a3<;>cases a4<;>cases a5<;>cases c<;>rfl
 by_cases h2:k=2
 ·subst h2
  simp only [bq,if_true,if_false,Int.reduceBEq,reduceCtorEq,Int.reduceBEq,ht,hn,hss]
  generalize (t == [])=a1;generalize nameB nm=a2;generalize (st == [])=a3;generalize ((cs.length:Int) == 0)=a4;generalize ((ps.length:Int) == 0)=a5
  cases a1<;>cases a2<;>cases a3<;>cases a4<;>cases a5<;>rfl
 by_cases h3:k=3
 ·subst h3
  simp only [bq,if_true,if_false,Int.reduceBEq,reduceCtorEq,Int.reduceBEq,ht,hn,hss,numSt]
  generalize (t == [])=a1;generalize nameB nm=a2;generalize (st == [])=a3;generalize ((cs.length:Int) == 0)=a4;generalize ((ps.length:Int) == 0)=a5
  generalize (st == [105,110,116,101,103,101,114])=a6;generalize (st == [112,101,114,99,101,110,116])=a7
  cases a1<;>cases a2<;>cases a3<;>cases a4<;>cases a5<;>cases a6<;>cases a7<;>rfl
 by_cases h4:k=4
 ·subst h4
  simp only [bq,if_true,if_false,Int.reduceBEq,reduceCtorEq,Int.reduceBEq,ht,hn,hss]
  generalize (t == [])=a1;generalize nameB nm=a2;generalize nameB st=a3;generalize ((cs.length:Int) == 0)=a4;generalize ((ps.length:Int) == 0)=a5
  cases a1<;>cases a2<;>cases a3<;>cases a4<;>cases a5<;>rfl
 by_cases h5:k=5
 ·subst h5
  simp only [bq,if_true,if_false,Int.reduceBEq,reduceCtorEq,Int.reduceBEq,ht,hn,hss]
  generalize (t == [])=a1;generalize nameB nm=a2;generalize skeletonB st=a3;generalize ((cs.length:Int) == 0)=a4;generalize ((ps.length:Int) == 0)=a5
  cases a1<;>cases a2<;>cases a3<;>cases a4<;>cases a5<;>rfl
 by_cases h6:k=6
 ·subst h6
  simp only [bq,if_true,if_false,Int.reduceBEq,reduceCtorEq,Int.reduceBEq,ht,hn,hss]
  generalize (t == [])=a1;generalize nameB nm=a2;generalize nameB st=a3;generalize ((cs.length:Int) == 0)=a4;generalize ((ps.length:Int) == 0)=a5
  cases a1<;>cases a2<;>cases a3<;>cases a4<;>cases a5<;>rfl
 have e:∀j:Int,k≠j->(k == j)=false:=fun j h=>by simpa using h
 simp [e 1 h1,e 10 h10,e 2 h2,e 3 h3,e 4 h4,e 5 h5,e 6 h6,h7,h8,h9,h11]
theorem pos_dec (n:Nat):decide ((n:Int)>0) = !((n:Int) == 0):=by
 by_cases h:n=0
 ·subst h;rfl
 ·have h1:((n:Nat):Int)>0:=by omega
  have h2:¬((n:Int)=0):=by omega
  rw [decide_eq_true h1,beq_eq_false_iff_ne.2 h2];rfl
theorem cnt_sel {k:Int} (h:selB k=true):cntB k=(k != 9):=by
 rcases (selB_iff k).1 h with rfl|rfl|rfl<;>rfl
theorem chk_formed0 (ps:List Part):∀d c prev l,(chkPs ps d c prev l).1=formedPs ps (d+1) c prev:=by
 refine tree_Q (P:=fun p=>∀d c l,((p.fieldsB&&!(p.kind == 10&&!c))&&(p.chk d c l).1)=p.formedB (d+1) c)
  (Q:=fun ps=>∀d c prev l,(chkPs ps d c prev l).1=formedPs ps (d+1) c prev)
  (R:=fun cs=>∀k d c n seen l,selB k=true->(chkCs cs k d c n seen l).1=(decide ((n:Int)<=20)&&formedCs cs k d c seen)) ?_ ?_ ?_ ?_ ?_ ps
 ·intro p hr hq d c l
  rw [p.chk_eq,p.formedB_eq]
  by_cases h11:p.kind=11
  ·have hs:selB p.kind=false:=by rw [h11];rfl
   have h11':(p.kind == 11)=true:=by simpa using h11
   have h:=hq (d+1) c false l
   simp only [h11',hs,if_true,if_false,Bool.false_eq_true]
   have hf:p.fieldsB=(nameB p.name&&(p.text == []&&(p.style == []&&((p.cases.length:Int) == 0)))):=by
    unfold Part.fieldsB fieldsK;rw [h11];simp
   have h10:(p.kind == 10)=false:=by rw [h11];rfl
   have hd:decide (d+1>8)=decide (d>=8):=by simp;omega
   have hc:=pos_dec p.cases.length
   rw [hf,h10]
   unfold elHead
   rw [hd,hc,<-h]
   generalize nameB p.name=a1;generalize (p.text == [])=a2;generalize (p.style == [])=a3;generalize ((p.cases.length:Int) == 0)=a4
   cases decide (d>=8) with
   | true=>cases a1<;>cases a2<;>cases a3<;>cases a4<;>rfl
   | false=>
    simp only [Bool.false_eq_true,if_false]
    generalize chkPs p.parts (d+1) c false l=r
    obtain ⟨b,l1⟩:=r
    cases b<;>cases a1<;>cases a2<;>cases a3<;>cases a4<;>rfl
  ·have h11':(p.kind == 11)=false:=by simpa using h11
   simp only [h11',if_false,Bool.false_eq_true]
   cases hs:selB p.kind with
   | true=>
    have h:=hr p.kind (d+1) c p.cases.length [] l hs
    have hf:p.fieldsB=(nameB p.name&&(p.text == []&&(p.style == []&&((p.parts.length:Int) == 0)))):=by
     unfold Part.fieldsB fieldsK;rcases (selB_iff _).1 hs with e|e|e<;>(rw [e];simp)
    have h10:(p.kind == 10)=false:=by rcases (selB_iff _).1 hs with e|e|e<;>(rw [e];rfl)
    have hd:decide (d+1>8)=decide (d>=8):=by simp;omega
    have hc:=pos_dec p.parts.length
    have h20:decide ((p.cases.length:Int)>20) = !decide ((p.cases.length:Int)<=20):=by
     rw [Bool.eq_iff_iff];simp
    have h1:decide ((p.cases.length:Int)<1)=true->formedCs p.cases p.kind (d+1) c []=false:=by
     intro hh
     have:p.cases=[]:=List.length_eq_zero_iff.1 (by simp at hh;omega)
     rw [this];simp [formedCs]
    rw [hf,h10]
    unfold selHead
    rw [hd,hc,h20]
    simp only [if_true]
    generalize nameB p.name=a1;generalize (p.text == [])=a2;generalize (p.style == [])=a3;generalize ((p.parts.length:Int) == 0)=a4
    generalize decide ((p.cases.length:Int)<1)=a5 at *
    generalize formedCs p.cases p.kind (d+1) c []=F at *
    generalize decide ((p.cases.length:Int)<=20)=a6 at *
    cases decide (d>=8) with
    | true=>cases a1<;>cases a2<;>cases a3<;>cases a4<;>rfl
    | false=>
     simp only [Bool.false_eq_true,if_false]
     generalize chkCs p.cases p.kind (d+1) c p.cases.length [] l=r at *
     obtain ⟨b,l1⟩:=r
     simp only at h
     subst h
     cases a5 with
     | true=>rw [h1 rfl];cases a1<;>cases a2<;>cases a3<;>cases a4<;>cases a6<;>rfl
     | false=>cases F<;>cases a1<;>cases a2<;>cases a3<;>cases a4<;>cases a6<;>rfl
   | false=>
    simp only [if_false,Bool.false_eq_true]
    rw [fields_plain p c h11' hs];simp
 ·intro d c prev l;rfl
 ·intro p ps hp hq d c prev l
  rw [chkPs_cons,formedPs_cons,<-hp d c l]
  have hq2:=hq d c (p.kind == 1)
  generalize p.fieldsB=a1;generalize (p.kind == 10&&!c)=a2
  rw [Bool.and_comm (p.kind == 1) prev]
  generalize (prev&&p.kind == 1)=a3
  generalize p.chk d c l=r
  obtain ⟨b,l1⟩:=r
  simp only
  cases a1<;>cases a2<;>cases a3<;>cases b<;>simp [hq2]
 ·intro k d c n seen l _;simp [chkCs,formedCs]
 ·intro x cs hq hr k d c n seen l hs
  rw [chkCs_cons,formedCs_cons,cnt_sel hs,<-hq d (c||(k != 9)) false l]
  generalize (!keyB k x.1||seen.contains x.1)=a1
  generalize chkPs x.2 d (c||(k != 9)) false l=r
  obtain ⟨b,l1⟩:=r
  have:=hr k d c n (seen++[x.1]) l1 hs
  simp only
  cases a1<;>cases b<;>simp [this]
theorem text_len_eq (ps:List Part):∀d c prev,formedPs ps d c prev=true->lenPs ps=(textPs ps).length:=by
 refine tree_Q (P:=fun p=>∀d c,p.formedB d c=true->p.lenB=p.textB.length)
  (Q:=fun ps=>∀d c prev,formedPs ps d c prev=true->lenPs ps=(textPs ps).length)
  (R:=fun cs=>∀k d c keys,formedCs cs k d c keys=true->lenCs cs=(textCs cs).length) ?_ ?_ ?_ ?_ ?_ ps
 ·intro p hr hq d c h
  rw [p.formedB_eq] at h
  rw [p.lenB_eq,p.textB_eq]
  by_cases h11:p.kind=11
  ·have h1:(p.kind == 1)=false:=by rw [h11];rfl
   have h10:(p.kind == 10)=false:=by rw [h11];rfl
   have h11':(p.kind == 11)=true:=by simpa using h11
   rw [h11',if_pos rfl,Bool.and_eq_true] at h
   have h3:=hq _ _ _ h.2
   simp only [h1,h10,h11',if_true,if_false,Bool.false_eq_true]
   cases p.parts.isEmpty<;>simp [h3]<;>omega
  ·have h11':(p.kind == 11)=false:=by simpa using h11
   rw [h11',if_neg (by simp)] at h
   cases hs:selB p.kind with
   | true=>
    rw [hs,if_pos rfl,Bool.and_eq_true] at h
    have h3:=hr _ _ _ _ h.2
    have e1:(p.kind == 1)=false/\(p.kind == 10)=false/\(p.kind == 2)=false/\(decide (p.kind>=3)&&decide (p.kind<=9))=true:=by
     rcases (selB_iff _).1 hs with e|e|e<;>(rw [e];decide)
    obtain ⟨e1,e10,e2,e39⟩:=e1
    simp only [e1,e10,e2,h11',e39,if_true,if_false,Bool.false_eq_true]
    unfold useN useH useS useC
    rw [if_pos e39,hs]
    cases hst:(p.style == [])<;>simp [h3]<;>omega
   | false=>
    rw [hs,if_neg (by simp)] at h
    unfold plainB at h
    simp only [Bool.and_eq_true] at h
    obtain ⟨⟨⟨⟨⟨hk,hc⟩,hp⟩,ht⟩,hn⟩,hst⟩:=h
    have hc:=len0 hc
    rw [hc]
    by_cases k1:p.kind=1
    ·simp [k1]
    by_cases k10:p.kind=10
    ·simp [k10]
    have e:∀j:Int,p.kind≠j->(p.kind == j)=false:=fun j h=>by simpa using h
    by_cases k2:p.kind=2
    ·have hst2:p.style=[]:=by unfold wS at hst;rw [k2] at hst;simpa using hst
     rw [k2,hst2]
     simp [useN,selB,lenCs]<;>omega
    have k36:p.kind=3\/p.kind=4\/p.kind=5\/p.kind=6:=by
     unfold plainK at hk
     rw [e 1 k1,e 10 k10,e 2 k2] at hk
     simp only [Bool.false_eq_true,if_false] at hk
     split at hk
     ·rename_i hh;simp at hh;omega
     ·cases hk
    have e39:(decide (p.kind>=3)&&decide (p.kind<=9))=true:=by simp;omega
    simp only [e 1 k1,e 10 k10,e 2 k2,h11',e39,if_true,if_false,Bool.false_eq_true]
    unfold useN useH useS useC
    rw [if_pos e39,hs]
    cases hst:(p.style == [])<;>simp [lenCs,textCs]<;>omega
 ·intro d c prev _;simp [lenPs,textPs]
 ·intro p ps hp hq d c prev h
  rw [formedPs_cons,Bool.and_eq_true,Bool.and_eq_true] at h
  rw [lenPs_cons,textPs_cons,List.length_append,hp _ _ h.2.1,hq _ _ _ h.2.2]
 ·intro k d c keys _;simp [lenCs,textCs]
 ·intro x cs hq hr k d c keys h
  rw [formedCs_cons,Bool.and_eq_true,Bool.and_eq_true] at h
  rw [lenCs_cons,textCs_cons,hq _ _ _ h.2.1,hr _ _ _ _ h.2.2]
  simp<;>omega
mutual
def Part.nms:Part->List Bytes
 | ⟨k,_,n,_,cs,ps⟩=>(if decide (k>=2)&&decide (k<=9) then [n] else [])++(nmsPs ps++nmsCs cs)
def nmsPs:List Part->List Bytes
 | []=>[]
 | p::ps=>p.nms++nmsPs ps
def nmsCs:List (Bytes × List Part)->List Bytes
 | []=>[]
 | (_,ps)::cs=>nmsPs ps++nmsCs cs
end
theorem Part.nms_eq (p:Part):p.nms=(if decide (p.kind>=2)&&decide (p.kind<=9) then [p.name] else [])++(nmsPs p.parts++nmsCs p.cases):=by cases p;simp only [Part.nms]
theorem nmsPs_cons (p:Part) (ps:List Part):nmsPs (p::ps)=p.nms++nmsPs ps:=by simp only [nmsPs]
theorem nmsCs_cons (c:Case) (cs:List Case):nmsCs (c::cs)=nmsPs c.2++nmsCs cs:=by obtain ⟨k,q⟩:=c;simp only [nmsCs]
def Grew (l l' m:List Bytes):Prop:=(∀x,x∈l'↔x∈l\/x∈m)/\(l.Nodup->l'.Nodup)
theorem Grew.refl (l:List Bytes):Grew l l []:=⟨fun x=>by simp,fun h=>h⟩
theorem Grew.trans {a b c m n:List Bytes} (h:Grew a b m) (k:Grew b c n):Grew a c (m++n):=
 ⟨fun x=>by rw [k.1,h.1];simp [or_assoc],fun hn=>k.2 (h.2 hn)⟩
theorem Grew.same {a b m n:List Bytes} (h:Grew a b m) (hm:∀x,x∈m↔x∈n):Grew a b n:=⟨fun x=>by rw [h.1,hm],h.2⟩
theorem nodup_snoc {l:List Bytes} {x:Bytes} (h:l.Nodup) (hx:x ∉ l):(l++[x]).Nodup:=by
 rw [List.nodup_append]
 exact ⟨h,by simp,fun a ha b hb=>by simp at hb;subst hb;rintro rfl;exact hx ha⟩
theorem put_grew (x:Bytes) (l:List Bytes):Grew l (putN x l) [x]:=by
 unfold putN
 cases h:l.contains x with
 | true=>
  have hm:x∈l:=by simpa using h
  exact ⟨fun y=>by simp;rintro rfl;exact hm,fun h=>h⟩
 | false=>
  have hm:x ∉ l:=by simpa using h
  exact ⟨fun y=>by simp,fun h=>nodup_snoc h hm⟩
theorem add_grew (k:Int) (x:Bytes) (l:List Bytes):Grew l (addN k x l) (if decide (k>=2)&&decide (k<=9) then [x] else []):=by
 unfold addN
 cases hk:(decide (k>=2)&&decide (k<=9)) with
 | false=>simp only [Bool.false_and,Bool.false_eq_true,if_false];exact Grew.refl l
 | true=>
  have:=put_grew x l
  unfold putN at this
  cases h:l.contains x with
  | true=>rw [h] at this;simpa using this
  | false=>rw [h] at this;simpa using this
theorem names_grew (ps:List Part):∀l,Grew l (namesPs ps l) (nmsPs ps):=by
 refine tree_Q (P:=fun p=>∀l,Grew l (p.names l) p.nms) (Q:=fun ps=>∀l,Grew l (namesPs ps l) (nmsPs ps)) (R:=fun cs=>∀l,Grew l (namesCs cs l) (nmsCs cs)) ?_ ?_ ?_ ?_ ?_ ps
 ·intro p hr hq l
  rw [p.names_eq,p.nms_eq]
  exact (add_grew _ _ _).trans ((hq _).trans (hr _))
 ·intro l;simp only [namesPs,nmsPs];exact Grew.refl l
 ·intro p ps hp hq l;rw [namesPs_cons,nmsPs_cons];exact (hp l).trans (hq _)
 ·intro l;simp only [namesCs,nmsCs];exact Grew.refl l
 ·intro c cs hq hr l;rw [namesCs_cons,nmsCs_cons];exact (hq l).trans (hr _)
theorem fields_name {p:Part} (h:p.fieldsB=true):(if decide (p.kind>=2)&&decide (p.kind<=9) then [p.name] else [])=(if !(p.kind == 11)&&!(p.name == []) then [p.name] else []):=by
 obtain ⟨k,t,nm,st,cs,ps⟩:=p
 unfold Part.fieldsB fieldsK at h
 simp only at h⊢
 have e:∀j:Int,k≠j->(k == j)=false:=fun j h=>by simpa using h
 by_cases k1:k=1
 ·subst k1;simp at h;simp [h.2.1]
 by_cases k10:k=10
 ·subst k10;simp at h;simp [h.2.1]
 rw [e 1 k1,e 10 k10] at h
 simp only [Bool.false_eq_true,if_false,Bool.and_eq_true] at h
 have hn:=nameB_ne h.1
 have hn':(nm == [])=false:=by simpa using hn
 by_cases k11:k=11
 ·subst k11;rfl
 by_cases hk:2<=k/\k<=9
 ·have:(decide (k>=2)&&decide (k<=9))=true:=by simp;omega
  rw [this,e 11 k11,hn'];rfl
 ·have h2:=h.2.2
  rw [e 2 (by omega),e 11 k11,e 7 (by omega),e 8 (by omega),e 9 (by omega),e 3 (by omega),e 4 (by omega),e 6 (by omega),e 5 (by omega)] at h2
  simp at h2
theorem fields_cases {p:Part} (h:p.fieldsB=true):(selB p.kind=false->p.cases=[])/\((p.kind == 11)=false->p.parts=[])/\(p.kind == 11||selB p.kind->p.text=[]/\p.style=[]):=by
 obtain ⟨k,t,nm,st,cs,ps⟩:=p
 unfold Part.fieldsB fieldsK at h
 simp only at h⊢
 have e:∀j:Int,k≠j->(k == j)=false:=fun j h=>by simpa using h
 have nil:∀{α:Type} (l:List α),((l.length:Int) == 0)=true->l=[]:=fun l h=>len0 h
 by_cases k1:k=1
 ·subst k1;simp only [Int.reduceBEq,if_true,Bool.and_eq_true] at h
  exact ⟨fun _=>nil _ h.2.2.2.1,fun _=>nil _ h.2.2.2.2,fun hh=>by cases hh⟩
 by_cases k10:k=10
 ·subst k10;simp only [Int.reduceBEq,if_true,if_false,Bool.false_eq_true,Bool.and_eq_true] at h
  exact ⟨fun _=>nil _ h.2.2.2.1,fun _=>nil _ h.2.2.2.2,fun hh=>by cases hh⟩
 rw [e 1 k1,e 10 k10] at h
 simp only [Bool.false_eq_true,if_false,Bool.and_eq_true] at h
 obtain ⟨hn,ht,h⟩:=h
 by_cases k2:k=2
 ·subst k2;simp only [Int.reduceBEq,if_true,Bool.and_eq_true] at h
  exact ⟨fun _=>nil _ h.2.1,fun _=>nil _ h.2.2,fun hh=>by cases hh⟩
 by_cases k11:k=11
 ·subst k11;simp only [Int.reduceBEq,if_true,if_false,Bool.false_eq_true,Bool.and_eq_true] at h
  exact ⟨fun _=>nil _ h.2,fun hh=>(by cases hh),fun _=>⟨by simpa using ht,by simpa using h.1⟩⟩
 rw [e 2 k2,e 11 k11] at h
 simp only [Bool.false_eq_true,if_false] at h
 by_cases hs:selB k=true
 ·have h789:(k == 7||k == 8||k == 9)=true:=by rcases (selB_iff k).1 hs with rfl|rfl|rfl<;>rfl
  rw [h789,if_pos rfl,Bool.and_eq_true] at h
  exact ⟨fun hh=>(by rw [hs] at hh;cases hh),fun _=>nil _ h.2,fun _=>⟨by simpa using ht,by simpa using h.1⟩⟩
 ·have hs':selB k=false:=by simpa using hs
  have n7:k≠7/\k≠8/\k≠9:=⟨fun e=>hs ((selB_iff k).2 (.inl e)),fun e=>hs ((selB_iff k).2 (.inr (.inl e))),fun e=>hs ((selB_iff k).2 (.inr (.inr e)))⟩
  rw [e 7 n7.1,e 8 n7.2.1,e 9 n7.2.2] at h
  simp only [Bool.or_self,Bool.false_eq_true,if_false] at h
  have hx:((cs.length:Int) == 0)=true/\((ps.length:Int) == 0)=true:=by
   split at h
   ·simp only [Bool.and_eq_true] at h;exact h.2
   ·split at h
    ·simp only [Bool.and_eq_true] at h;exact h.2
    ·split at h
     ·simp only [Bool.and_eq_true] at h;exact h.2
     ·cases h
  refine ⟨fun _=>nil _ hx.1,fun _=>nil _ hx.2,fun hh=>?_⟩
  rw [e 11 k11,hs'] at hh;cases hh
theorem chk_grew (ps:List Part):∀d c prev l,(chkPs ps d c prev l).1=true->Grew l (chkPs ps d c prev l).2 (nmsPs ps):=by
 refine tree_Q (P:=fun p=>p.fieldsB=true->∀d c l,(p.chk d c l).1=true->Grew l (p.chk d c l).2 p.nms)
  (Q:=fun ps=>∀d c prev l,(chkPs ps d c prev l).1=true->Grew l (chkPs ps d c prev l).2 (nmsPs ps))
  (R:=fun cs=>∀k d c n seen l,(chkCs cs k d c n seen l).1=true->Grew l (chkCs cs k d c n seen l).2 (nmsCs cs)) ?_ ?_ ?_ ?_ ?_ ps
 ·intro p hr hq hf d c l h
  obtain ⟨hc,hp,_⟩:=fields_cases hf
  rw [p.chk_eq] at h⊢
  rw [p.nms_eq,fields_name hf]
  have hfin:∀l2 m,Grew l l2 m->Grew l (if !(p.kind == 11)&&!(p.name == []) then putN p.name l2 else l2) ((if !(p.kind == 11)&&!(p.name == []) then [p.name] else [])++m):=by
   intro l2 m hm
   cases (!(p.kind == 11)&&!(p.name == [])) with
   | true=>
    simp only [if_true]
    exact (hm.trans (put_grew p.name l2)).same fun x=>by simp;constructor<;>(intro h;rcases h with h|h<;>simp [h])
   | false=>simpa using hm
  by_cases h11:p.kind=11
  ·have hs:selB p.kind=false:=by rw [h11];rfl
   have h11':(p.kind == 11)=true:=by simpa using h11
   rw [hc hs]
   have h0:nmsCs []=[]:=by simp only [nmsCs]
   rw [h0,List.append_nil]
   have h2:=hq (d+1) c false l
   simp only [h11',hs,if_true,if_false,Bool.false_eq_true] at h hfin⊢
   by_cases hd:decide (d>=8)=true
   ·rw [hd] at h;simp at h
   ·have hd':decide (d>=8)=false:=by simpa using hd
    rw [hd'] at h⊢
    simp only [Bool.false_eq_true,if_false] at h⊢
    generalize chkPs p.parts (d+1) c false l=r at *
    obtain ⟨b,l1⟩:=r
    cases b with
    | false=>simp at h
    | true=>exact hfin l1 _ (h2 rfl)
  ·have h11':(p.kind == 11)=false:=by simpa using h11
   rw [hp h11']
   have h0:nmsPs []=[]:=by simp only [nmsPs]
   rw [h0,List.nil_append]
   simp only [h11',if_false,Bool.false_eq_true] at h hfin⊢
   cases hs:selB p.kind with
   | false=>
    rw [hs] at h
    rw [hc hs]
    have h0:nmsCs []=[]:=by simp only [nmsCs]
    rw [h0]
    simp only [if_false,Bool.false_eq_true] at h⊢
    exact hfin l [] (Grew.refl l)
   | true=>
    rw [hs] at h
    have h2:=hr p.kind (d+1) c p.cases.length [] l
    simp only [if_true] at h⊢
    by_cases hd:decide (d>=8)=true
    ·rw [hd] at h;simp at h
    ·have hd':decide (d>=8)=false:=by simpa using hd
     rw [hd'] at h⊢
     simp only [Bool.false_eq_true,if_false] at h⊢
     generalize chkCs p.cases p.kind (d+1) c p.cases.length [] l=r at *
     obtain ⟨b,l1⟩:=r
     cases b with
     | false=>simp at h
     | true=>exact hfin l1 _ (h2 rfl)
 ·intro d c prev l _;simp only [chkPs,nmsPs];exact Grew.refl l
 ·intro p ps hp hq d c prev l h
  rw [chkPs_cons] at h⊢
  rw [nmsPs_cons]
  split at h
  ·cases h
  ·rename_i hn
   rw [if_neg hn]
   have hf:p.fieldsB=true:=by
    cases hh:p.fieldsB with
    | true=>rfl
    | false=>exfalso;apply hn;rw [hh];simp
   have h1:=hp hf d c l
   generalize p.chk d c l=r at *
   obtain ⟨b,l1⟩:=r
   cases b with
   | false=>simp at h
   | true=>exact (h1 rfl).trans (hq _ _ _ _ h)
 ·intro k d c n seen l _;simp only [chkCs,nmsCs];exact Grew.refl l
 ·intro x cs hq hr k d c n seen l h
  rw [chkCs_cons] at h⊢
  rw [nmsCs_cons]
  split at h
  ·cases h
  ·rename_i hn
   rw [if_neg hn]
   have h1:=hq d (c||(k != 9)) false l
   generalize chkPs x.2 d (c||(k != 9)) false l=r at *
   obtain ⟨b,l1⟩:=r
   cases b with
   | false=>simp at h
   | true=>exact (h1 rfl).trans (hr _ _ _ _ _ _ h)
theorem nodup_sub {a b:List Bytes} (ha:a.Nodup) (h:∀x∈a,x∈b):a.length<=b.length:=by
 induction a generalizing b with
 | nil=>simp
 | cons x a ih=>
  rw [List.nodup_cons] at ha
  have hx:x∈b:=h x (by simp)
  have:=ih (b:=b.erase x) ha.2 fun y hy=>by
   have hne:y≠x:=fun e=>ha.1 (e ▸ hy)
   exact (List.mem_erase_of_ne hne).2 (h y (by simp [hy]))
  rw [List.length_erase_of_mem hx] at this
  have:0<b.length:=List.length_pos_of_mem hx
  simp;omega
theorem valid_same (ps:List Part):validP ps=validB ps:=by
 unfold validP validB
 rw [chk_formed0 ps 0 false false []]
 have h01:(0:Int)+1=1:=rfl
 rw [h01]
 cases hf:formedPs ps 1 false false with
 | false=>simp
 | true=>
  have h1:=chk_grew ps 0 false false [] (by rw [chk_formed0,h01,hf])
  have h2:=names_grew ps []
  have h3:=text_len_eq ps _ _ _ hf
  have ha:=nodup_sub (h1.2 List.nodup_nil) fun x hx=>(h2.1 x).2 ((h1.1 x).1 hx)
  have hb:=nodup_sub (h2.2 List.nodup_nil) fun x hx=>(h1.1 x).2 ((h2.1 x).1 hx)
  have:(chkPs ps 0 false false []).2.length=(namesPs ps []).length:=Nat.le_antisymm ha hb
  rw [this,h3]
end Go.Ir
end
namespace Go.Ir
structure WfP (p:Part):Prop where
 keys:selB p.kind=true->∀c∈p.cases,keyB p.kind c.1=true
 other:selB p.kind=true->∃c∈p.cases,c.1=kOtherS
 cases0:selB p.kind=false->p.cases=[]
 parts0:(p.kind == 11)=false->p.parts=[]
 elem:(p.kind == 11)=true->p.text=[]/\p.style=[]
 name:selB p.kind=true->p.name.length<=40
theorem nameB_len {s:Bytes} (h:nameB s=true):s.length<=40:=by
 cases s with
 | nil=>simp
 | cons c r=>
  unfold nameB at h
  simp only [Bool.and_eq_true,decide_eq_true_eq] at h
  omega
theorem plain_fields {p:Part} {c:Bool} (h11:(p.kind == 11)=false) (hs:selB p.kind=false) (h:plainB p c=true):p.fieldsB=true:=by
 rw [fields_plain p c h11 hs,Bool.and_eq_true] at h
 exact h.1
theorem formed_wf (ps:List Part):∀d c prev,formedPs ps d c prev=true->allPs WfP ps:=by
 refine tree_Q (P:=fun p=>∀d c,p.formedB d c=true->p.all WfP)
  (Q:=fun ps=>∀d c prev,formedPs ps d c prev=true->allPs WfP ps)
  (R:=fun cs=>∀k d c keys,formedCs cs k d c keys=true->allCs WfP cs/\(∀x∈cs,keyB k x.1=true)/\(keys.contains kOtherS=true\/∃x∈cs,x.1=kOtherS)) ?_ ?_ ?_ ?_ ?_ ps
 ·intro p hr hq d c h
  rw [p.formedB_eq] at h
  rw [p.all_eq]
  cases h11:p.kind == 11 with
  | true=>
   have hs:selB p.kind=false:=by
    have:p.kind=11:=by simpa using h11
    rw [this];rfl
   rw [h11,if_pos rfl,Bool.and_eq_true] at h
   obtain ⟨h1,h2⟩:=h
   unfold elHead at h1
   simp at h1
   have hc:p.cases=[]:=by simpa using h1.2
   refine ⟨⟨fun hh=>(by rw [hs] at hh;cases hh),fun hh=>(by rw [hs] at hh;cases hh),fun _=>hc,fun hh=>(by rw [h11] at hh;cases hh),fun _=>⟨h1.1.1.2,h1.1.2⟩,fun hh=>(by rw [hs] at hh;cases hh)⟩,?_,hq _ _ _ h2⟩
   rw [hc];simp only [allCs]
  | false=>
   rw [h11,if_neg (by simp)] at h
   cases hs:selB p.kind with
   | true=>
    rw [hs,if_pos rfl,Bool.and_eq_true] at h
    obtain ⟨h1,h2⟩:=h
    unfold selHead at h1
    simp at h1
    have hp:p.parts=[]:=by simpa using h1.1.1.2
    obtain ⟨a1,a2,a3⟩:=hr _ _ _ _ h2
    refine ⟨⟨fun _=>a2,fun _=>?_,fun hh=>(by rw [hs] at hh;cases hh),fun _=>hp,fun hh=>(by rw [h11] at hh;cases hh),fun _=>nameB_len h1.1.1.1.1.1.2⟩,a1,?_⟩
    ·rcases a3 with a3|a3
     ·cases a3
     ·exact a3
    ·rw [hp];simp only [allPs]
   | false=>
    rw [hs,if_neg (by simp)] at h
    obtain ⟨f1,f2,f3⟩:=fields_cases (plain_fields h11 hs h)
    refine ⟨⟨fun hh=>(by rw [hs] at hh;cases hh),fun hh=>(by rw [hs] at hh;cases hh),f1,f2,fun hh=>(by rw [h11] at hh;cases hh),fun hh=>(by rw [hs] at hh;cases hh)⟩,?_,?_⟩
    ·rw [f1 hs];simp only [allCs]
    ·rw [f2 h11];simp only [allPs]
 ·intro d c prev _;simp only [allPs]
 ·intro p ps hp hq d c prev h
  rw [formedPs_cons,Bool.and_eq_true,Bool.and_eq_true] at h
  rw [allPs_cons]
  exact ⟨hp _ _ h.2.1,hq _ _ _ h.2.2⟩
 ·intro k d c keys h
  refine ⟨by simp only [allCs],fun x hx=>(by cases hx),.inl ?_⟩
  simpa only [formedCs] using h
 ·intro x cs hq hr k d c keys h
  rw [formedCs_cons,Bool.and_eq_true,Bool.and_eq_true] at h
  obtain ⟨h0,h1,h2⟩:=h
  obtain ⟨a1,a2,a3⟩:=hr _ _ _ _ h2
  have hk:keyB k x.1=true:=by
   cases hh:keyB k x.1 with
   | true=>rfl
   | false=>rw [hh] at h0;simp at h0
  rw [allCs_cons]
  refine ⟨⟨hq _ _ _ h1,a1⟩,fun y hy=>?_,?_⟩
  ·rcases List.mem_cons.1 hy with rfl|hy
   ·exact hk
   ·exact a2 y hy
  ·rcases a3 with a3|⟨y,hy,hy2⟩
   ·have:kOtherS∈keys\/kOtherS=x.1:=by simpa using a3
    rcases this with h|h
    ·left;simpa using h
    ·right;exact ⟨x,by simp,h.symm⟩
   ·right;exact ⟨y,by simp [hy],hy2⟩
theorem valid_wf {ps:List Part} (h:validB ps=true):allPs WfP ps:=by
 unfold validB at h
 rw [Bool.and_eq_true,Bool.and_eq_true] at h
 exact formed_wf ps _ _ _ h.1.1
theorem all_imp {f g:Part->Prop} (hfg:∀p,f p->g p) (ps:List Part):allPs f ps->allPs g ps:=by
 refine tree_Q (P:=fun p=>p.all f->p.all g) (Q:=fun ps=>allPs f ps->allPs g ps) (R:=fun cs=>allCs f cs->allCs g cs) ?_ ?_ ?_ ?_ ?_ ps
 ·intro p hr hq;rw [p.all_eq,p.all_eq];exact fun h=>⟨hfg p h.1,hr h.2.1,hq h.2.2⟩
 ·intro _;simp only [allPs]
 ·intro p ps hp hq;rw [allPs_cons,allPs_cons];exact fun h=>⟨hp h.1,hq h.2⟩
 ·intro _;simp only [allCs]
 ·intro c cs hq hr;rw [allCs_cons,allCs_cons];exact fun h=>⟨hq h.1,hr h.2⟩
theorem all_and {f g:Part->Prop} (ps:List Part):allPs f ps->allPs g ps->allPs (fun p=>f p/\g p) ps:=by
 refine tree_Q (P:=fun p=>p.all f->p.all g->p.all (fun p=>f p/\g p)) (Q:=fun ps=>allPs f ps->allPs g ps->allPs (fun p=>f p/\g p) ps) (R:=fun cs=>allCs f cs->allCs g cs->allCs (fun p=>f p/\g p) cs) ?_ ?_ ?_ ?_ ?_ ps
 ·intro p hr hq;rw [p.all_eq,p.all_eq,p.all_eq];exact fun h k=>⟨⟨h.1,k.1⟩,hr h.2.1 k.2.1,hq h.2.2 k.2.2⟩
 ·intro _ _;simp only [allPs]
 ·intro p ps hp hq;rw [allPs_cons,allPs_cons,allPs_cons];exact fun h k=>⟨hp h.1 k.1,hq h.2 k.2⟩
 ·intro _ _;simp only [allCs]
 ·intro c cs hq hr;rw [allCs_cons,allCs_cons,allCs_cons];exact fun h k=>⟨hq h.1 k.1,hr h.2 k.2⟩
theorem all_short (ps:List Part):∀M,wtPs ps<=M->allPs (fun p=>∀c∈p.cases,c.1.length<=M) ps:=by
 refine tree_Q (P:=fun p=>∀M,p.wt<=M->p.all (fun p=>∀c∈p.cases,c.1.length<=M)) (Q:=fun ps=>∀M,wtPs ps<=M->allPs (fun p=>∀c∈p.cases,c.1.length<=M) ps) (R:=fun cs=>∀M,wtCs cs<=M->allCs (fun p=>∀c∈p.cases,c.1.length<=M) cs) ?_ ?_ ?_ ?_ ?_ ps
 ·intro p hr hq M h
  rw [p.wt_eq] at h
  rw [p.all_eq]
  exact ⟨fun c hc=>by have:=wtCs_mem hc;omega,hr M (by omega),hq M (by omega)⟩
 ·intro M _;simp only [allPs]
 ·intro p ps hp hq M h;rw [wtPs_cons] at h;rw [allPs_cons];exact ⟨hp M (by omega),hq M (by omega)⟩
 ·intro M _;simp only [allCs]
 ·intro c cs hq hr M h;rw [wtCs_cons] at h;rw [allCs_cons];exact ⟨hq M (by omega),hr M (by omega)⟩
theorem collPs_ext (ps:List Part) (l:List Sel):SelExt l (collPs ps l):=(coll_same _ ps (Nat.lt_succ_self _) l).2
theorem collCs_ext (cs:List Case):∀j l,SelExt l (collCs cs j l):=by
 induction cs with
 | nil=>intro j l;simp only [collCs];exact SelExt.refl l
 | cons c cs ih=>intro j l;rw [collCs_cons];exact ((SelExt.mod l j c.1).trans (collPs_ext c.2 _)).trans (ih _ _)
theorem selAdd_ext (l:List Sel) (k:Int) (n:Bytes):SelExt l (selAdd l k n):=by
 unfold selAdd
 split
 ·exact SelExt.app _ _
 ·exact SelExt.refl _
def FoundP (L:List Sel) (p:Part):Prop:=selB p.kind=true->¬findI L p.kind p.name<0
theorem FoundP.mono {L L':List Sel} (h:SelExt L L') {p:Part} (hp:FoundP L p):FoundP L' p:=fun hs=>by
 have:=hp hs
 rw [findI_ext h _ _ this];exact this
theorem coll_found (ps:List Part):allPs WfP ps->∀l,allPs (FoundP (collPs ps l)) ps:=by
 refine tree_Q (P:=fun p=>p.all WfP->∀l,p.all (FoundP (p.coll l))) (Q:=fun ps=>allPs WfP ps->∀l,allPs (FoundP (collPs ps l)) ps) (R:=fun cs=>allCs WfP cs->∀j l,allCs (FoundP (collCs cs j l)) cs) ?_ ?_ ?_ ?_ ?_ ps
 ·intro p hr hq h l
  rw [p.all_eq] at h⊢
  obtain ⟨h1,h2,h3⟩:=h
  rw [p.coll_eq]
  have hp:=hq h3 l
  cases hs:selB p.kind with
  | true=>
   simp only [if_true]
   have e1:=selAdd_ext (collPs p.parts l) p.kind p.name
   have e2:=collCs_ext p.cases (selAt (collPs p.parts l) p.kind p.name) (selAdd (collPs p.parts l) p.kind p.name)
   refine ⟨fun _=>?_,hr h2 _ _,all_imp (fun q hq=>FoundP.mono (e1.trans e2) hq) _ hp⟩
   have:=(selAt_ge (collPs p.parts l) p.kind p.name).1
   rw [findI_ext e2 _ _ this];exact this
  | false=>
   simp only [if_false,Bool.false_eq_true]
   refine ⟨fun hh=>(by rw [hs] at hh;cases hh),?_,hp⟩
   rw [h1.cases0 hs];simp only [allCs]
 ·intro _ l;simp only [allPs]
 ·intro p ps hp hq h l
  rw [allPs_cons] at h⊢
  rw [collPs_cons]
  have e:=collPs_ext ps (p.coll l)
  refine ⟨?_,hq h.2 _⟩
  have h3:=hp h.1 l
  have:=all_imp (f:=FoundP (p.coll l)) (g:=FoundP (collPs ps (p.coll l))) (fun q hq=>FoundP.mono e hq) [p] (by rw [allPs_cons];exact ⟨h3,by simp only [allPs]⟩)
  rw [allPs_cons] at this
  exact this.1
 ·intro _ j l;simp only [allCs]
 ·intro c cs hq hr h j l
  rw [allCs_cons] at h⊢
  rw [collCs_cons]
  have e:=collCs_ext cs j (collPs c.2 (l.modify j (addKey c.1)))
  exact ⟨all_imp (fun q hq=>FoundP.mono e hq) _ (hq h.1 _),hr h.2 _ _⟩
def KS (G:Int->Bytes->Prop) (l:List Sel):Prop:=∀s∈l,∀k∈s.keys,G s.kind k
theorem KS.mod {G:Int->Bytes->Prop} {l:List Sel} (h:KS G l) {j:Nat} {key:Bytes} {s:Sel} (hs:l[j]? = some s) (hk:G s.kind key):KS G (l.modify j (addKey key)):=by
 intro t ht k hkt
 obtain ⟨i,hi⟩:=List.getElem?_of_mem ht
 rw [List.getElem?_modify] at hi
 by_cases hj:j=i
 ·subst hj
  rw [hs] at hi
  have h2:addKey key s=t:=by simpa using hi
  subst h2
  have hm:=List.mem_of_getElem? hs
  unfold addKey at hkt⊢
  split at hkt
  ·rename_i hc;rw [if_pos hc];exact h s hm k hkt
  ·rename_i hc;rw [if_neg hc]
   simp only [List.mem_append,List.mem_singleton] at hkt
   rcases hkt with hkt|rfl
   ·exact h s hm k hkt
   ·exact hk
 ·have:l[i]? = some t:=by
   cases hl:l[i]? with
   | none=>rw [hl] at hi;simp at hi
   | some u=>rw [hl] at hi;simp [hj] at hi;rw [hi]
  exact h t (List.mem_of_getElem? this) k hkt
theorem KS.add {G:Int->Bytes->Prop} {l:List Sel} (h:KS G l) (k:Int) (n:Bytes):KS G (selAdd l k n):=by
 unfold selAdd
 split
 ·intro s hs k hk
  rcases List.mem_append.1 hs with hs|hs
  ·exact h s hs k hk
  ·simp at hs;subst hs;cases hk
 ·exact h
def KeysG (G:Int->Bytes->Prop) (p:Part):Prop:=selB p.kind=true->∀c∈p.cases,G p.kind c.1
theorem selAdd_at (l:List Sel) (k:Int) (n:Bytes):∃s,(selAdd l k n)[selAt l k n]? = some s/\s.kind=k:=by
 unfold selAdd selAt
 by_cases h:findI l k n<0
 ·rw [if_pos h,if_pos h]
  exact ⟨⟨k,n,[]⟩,by simp,rfl⟩
 ·rw [if_neg h,if_neg h]
  unfold findI at h⊢
  induction l with
  | nil=>exact absurd (by simp [idxI]) h
  | cons s l ih=>
   simp only [idxI] at h⊢
   cases hs:selIs k n s with
   | true=>
    refine ⟨s,rfl,?_⟩
    unfold selIs at hs;simp at hs;exact hs.1
   | false=>
    simp only [hs,cond_false] at h⊢
    have h2:¬idxI (selIs k n) l<0:=by intro hlt;rw [if_pos hlt] at h;exact h (by decide)
    obtain ⟨t,h3,h4⟩:=ih h2
    rw [if_neg h2]
    refine ⟨t,?_,h4⟩
    have:(idxI (selIs k n) l+1).toNat=(idxI (selIs k n) l).toNat+1:=by omega
    rw [this];exact h3
theorem ext_at {l l':List Sel} (h:SelExt l l') {j:Nat} {k:Int} (hj:∃s,l[j]? = some s/\s.kind=k):∃s,l'[j]? = some s/\s.kind=k:=by
 obtain ⟨s,h1,h2⟩:=hj
 have hi:j<l'.length:=Nat.lt_of_lt_of_le (List.getElem?_eq_some_iff.1 h1).1 h.1
 exact ⟨l'[j],List.getElem?_eq_getElem hi,by rw [<-(h.2 j s _ h1 (List.getElem?_eq_getElem hi)).1];exact h2⟩
theorem coll_keys (G:Int->Bytes->Prop) (ps:List Part):allPs (KeysG G) ps->∀l,KS G l->KS G (collPs ps l):=by
 refine tree_Q (P:=fun p=>p.all (KeysG G)->∀l,KS G l->KS G (p.coll l)) (Q:=fun ps=>allPs (KeysG G) ps->∀l,KS G l->KS G (collPs ps l))
  (R:=fun cs=>allCs (KeysG G) cs->∀k,(∀c∈cs,G k c.1)->∀j l,(∃s,l[j]? = some s/\s.kind=k)->KS G l->KS G (collCs cs j l)) ?_ ?_ ?_ ?_ ?_ ps
 ·intro p hr hq h l hl
  rw [p.all_eq] at h
  rw [p.coll_eq]
  have h1:=hq h.2.2 l hl
  cases hs:selB p.kind with
  | true=>
   simp only [if_true]
   exact hr h.2.1 p.kind (h.1 hs) _ _ (selAdd_at _ _ _) (h1.add _ _)
  | false=>simpa using h1
 ·intro _ l hl;simpa only [collPs] using hl
 ·intro p ps hp hq h l hl
  rw [allPs_cons] at h
  rw [collPs_cons]
  exact hq h.2 _ (hp h.1 l hl)
 ·intro _ k _ j l _ hl;simpa only [collCs] using hl
 ·intro c cs hq hr h k hk j l hj hl
  rw [allCs_cons] at h
  rw [collCs_cons]
  obtain ⟨s,hs,hsk⟩:=hj
  have h2:=hq h.1 _ (hl.mod hs (by rw [hsk];exact hk c (by simp)))
  exact hr h.2 k (fun d hd=>hk d (by simp [hd])) j _ (ext_at ((SelExt.mod l j c.1).trans (collPs_ext c.2 _)) ⟨s,hs,hsk⟩) h2
theorem findI_ord (l:List Sel) (k:Int) (n:Bytes):findI (l.map Sel.ord) k n=findI l k n:=by
 unfold findI
 induction l with
 | nil=>rfl
 | cons s l ih=>
  have:selIs k n s.ord=selIs k n s:=rfl
  simp only [List.map_cons,idxI,this,ih]
theorem findC_ne {cs:List Case} {k:Bytes} (h:∃c∈cs,c.1=k):findC cs k≠none:=by
 obtain ⟨c,hc,hk⟩:=h
 intro hn
 have:(cs.find? fun c=>c.1 == k)=none:=by
  unfold findC at hn;simpa using hn
 have:=List.find?_eq_none.1 this c hc
 simp [hk] at this
theorem ord_mem {kind:Int} {keys:List Bytes} {k:Bytes} (h:k∈ordK kind keys):k∈keys\/k=kOtherS:=by
 unfold ordK at h
 simp only [List.mem_append,List.mem_singleton] at h
 rcases h with h|h|h
 ·left;exact (List.mem_filter.1 h).1
 ·unfold clsK at h
  split at h
  ·cases h
  ·left;have:=(List.mem_filter.1 h).2;simpa using this
 ·right;exact h
theorem ord_ne (kind:Int) (keys:List Bytes):ordK kind keys≠[]:=by unfold ordK;simp
theorem ord_len (kind:Int) (keys:List Bytes):(ordK kind keys).length<=keys.length+6:=by
 unfold ordK
 rw [List.length_append,List.length_append]
 have h1:=List.length_filter_le (keepK kind) keys
 have h2:(clsK kind keys).length<=5:=by
  unfold clsK
  split
  ·simp
  ·exact List.length_filter_le _ kFive
 simp;omega
theorem sels_len (ps:List Part):(selsP ps).length<=wtPs ps:=by
 unfold selsP
 rw [List.length_map]
 have:=collPs_w ps []
 have h2:=len_selW (collPs ps [])
 simp only [selW] at this;omega
theorem sels_keys (ps:List Part):∀s∈selsP ps,s.keys≠[]/\s.keys.length<=wtPs ps+6:=by
 intro s hs
 obtain ⟨t,ht,rfl⟩:=List.mem_map.1 hs
 refine ⟨ord_ne _ _,?_⟩
 have h1:=ord_len t.kind t.keys
 have h2:=keys_selW ht
 have h3:=collPs_w ps []
 simp only [selW] at h3
 show (ordK t.kind t.keys).length<=_
 omega
theorem KS.nil (G:Int->Bytes->Prop):KS G []:=fun s hs=>by cases hs
theorem sels_klen (ps:List Part):∀s∈selsP ps,∀k∈s.keys,k.length<=wtPs ps+5:=by
 intro s hs k hk
 obtain ⟨t,ht,rfl⟩:=List.mem_map.1 hs
 have h:=coll_keys (fun _ k=>k.length<=wtPs ps) ps (all_imp (fun p hp _ c hc=>hp c hc) ps (all_short ps _ (Nat.le_refl _))) [] (KS.nil _)
 rcases ord_mem (kind:=t.kind) (keys:=t.keys) hk with h1|rfl
 ·have:=h t ht k h1;omega
 ·show 5<=_;omega
theorem valid_ok {ps:List Part} (h:allPs WfP ps):allPs (resOk (selsP ps)) ps:=by
 refine all_imp (fun p hp=>?_) ps (all_and ps h (coll_found ps h []))
 intro hs
 refine ⟨?_,findC_ne (hp.1.other hs)⟩
 unfold selsP
 rw [findI_ord];exact hp.2 hs
def KeyOk (kind:Int) (k:Bytes):Prop:=k≠[]/\((kind == 9)=true->headEq k=false)
theorem keyB_ok {kind:Int} {k:Bytes} (h:keyB kind k=true):KeyOk kind k:=by
 unfold keyB at h
 cases h9:kind == 9 with
 | true=>
  rw [h9,if_pos rfl] at h
  refine ⟨nameB_ne h,fun _=>?_⟩
  cases k with
  | nil=>rfl
  | cons c r=>
   unfold nameB rLower at h
   simp only [Bool.and_eq_true,decide_eq_true_eq] at h
   unfold headEq
   simp;omega
 | false=>
  rw [h9,if_neg (by simp)] at h
  refine ⟨?_,fun hh=>by rw [h9] at hh;cases hh⟩
  rintro rfl
  revert h;decide
theorem other_ok (kind:Int):KeyOk kind kOtherS:=⟨by decide,fun _=>rfl⟩
theorem coll_ok {ps:List Part} (h:allPs WfP ps):KS KeyOk (collPs ps []):=
 coll_keys KeyOk ps (all_imp (fun p hp hs c hc=>keyB_ok (hp.keys hs c hc)) ps h) [] (KS.nil _)
theorem sels_ok {ps:List Part} (h:allPs WfP ps):KS KeyOk (selsP ps):=by
 intro s hs k hk
 obtain ⟨t,ht,rfl⟩:=List.mem_map.1 hs
 rcases ord_mem (kind:=t.kind) (keys:=t.keys) hk with h1|rfl
 ·exact coll_ok h t ht k h1
 ·exact other_ok _
theorem combR_401 (l:List Sel) (hk:∀s∈l,s.keys≠[]):combR 401 l=401:=by
 induction l with
 | nil=>rfl
 | cons s l ih=>
  rw [combR]
  have h1:0<s.keys.length:=List.length_pos_iff.2 (hk s (by simp))
  have h2:401*1<=401*s.keys.length:=Nat.mul_le_mul_left _ h1
  rw [Nat.min_eq_right (by omega)]
  exact ih fun t ht=>hk t (by simp [ht])
theorem comb_same (l:List Sel) (hk:∀s∈l,s.keys≠[]):∀n,n<=400->(combP n l<=400/\combR n l=combP n l)\/(400<combP n l/\400<combR n l):=by
 induction l with
 | nil=>intro n hn;left;exact ⟨hn,rfl⟩
 | cons s l ih=>
  intro n hn
  rw [combP,combR]
  by_cases h:400<n*s.keys.length
  ·right
   rw [if_pos h,Nat.min_eq_right (by omega),combR_401 l fun t ht=>hk t (by simp [ht])]
   exact ⟨h,by decide⟩
  ·rw [if_neg h,Nat.min_eq_left (by omega)]
   exact ih (fun t ht=>hk t (by simp [ht])) _ (by omega)
def nj:List Part->Bool
 | x::y::t=>!(x.kind == 1&&y.kind == 1)&&nj (y::t)
 | _=>true
theorem nj_cons2 (x y:Part) (t:List Part):nj (x::y::t)=(!(x.kind == 1&&y.kind == 1)&&nj (y::t)):=rfl
theorem nj_snoc (d:List Part) (y x:Part):nj (d++[y,x])=(nj (d++[y])&&!(y.kind == 1&&x.kind == 1)):=by
 induction d with
 | nil=>simp [nj]
 | cons a d ih=>
  cases d with
  | nil=>simp [nj]
  | cons b d=>
   simp only [List.cons_append,nj_cons2] at ih⊢
   rw [ih,Bool.and_assoc]
theorem nj_last (d:List Part) (y z:Part) (h:y.kind=z.kind):nj (d++[y])=nj (d++[z]):=by
 rcases List.eq_nil_or_concat d with rfl|⟨e,a,rfl⟩
 ·simp [nj]
 ·rw [List.concat_eq_append,List.append_assoc,List.append_assoc]
  show nj (e++[a,y])=nj (e++[a,z])
  rw [nj_snoc,nj_snoc,h]
theorem nj_addP {o:List Part} (x:Part) (h:nj o=true):nj (addP o x)=true:=by
 rcases List.eq_nil_or_concat o with rfl|⟨d,y,rfl⟩
 ·rfl
 ·rw [List.concat_eq_append] at h⊢
  rw [addP_snoc]
  cases hk:(x.kind == 1&&y.kind == 1) with
  | true=>
   rw [if_pos rfl]
   rw [<-h];exact nj_last d _ y rfl
  | false=>
   rw [if_neg (by simp),List.append_assoc]
   show nj (d++[y,x])=true
   rw [nj_snoc,h,Bool.and_comm (y.kind == 1),hk];rfl
theorem nj_adds (l:List Part):∀{o:List Part},nj o=true->nj (l.foldl addP o)=true:=by
 induction l with
 | nil=>intro o h;exact h
 | cons x l ih=>intro o h;rw [List.foldl_cons];exact ih (nj_addP x h)
theorem nj_push {o:List Part} (x:Part) (hx:(x.kind == 1)=false) (h:nj o=true):nj (o++[x])=true:=by
 rcases List.eq_nil_or_concat o with rfl|⟨d,y,rfl⟩
 ·rfl
 ·rw [List.concat_eq_append] at h⊢
  rw [List.append_assoc]
  show nj (d++[y,x])=true
  rw [nj_snoc,h,hx];simp
theorem fold_app (t:List Part):∀(d:List Part) (y:Part),nj (y::t)=true->t.foldl addP (d++[y])=d++[y]++t:=by
 induction t with
 | nil=>intro d y _;simp
 | cons x t ih=>
  intro d y h
  rw [nj_cons2,Bool.and_eq_true] at h
  have h1:(x.kind == 1&&y.kind == 1)=false:=by rw [Bool.and_comm];have h0:=h.1;cases hb:(y.kind == 1&&x.kind == 1) with
   | false=>rfl
   | true=>rw [hb] at h0;cases h0
  rw [List.foldl_cons,addP_snoc,if_neg (by rw [h1];simp),ih (d++[y]) x h.2]
  simp
theorem nj_head (y z:Part) (t:List Part) (h:y.kind=z.kind):nj (y::t)=nj (z::t):=by
 cases t with
 | nil=>rfl
 | cons x t=>rw [nj_cons2,nj_cons2,h]
theorem fold_join {b:List Part} (h:nj b=true) (a:List Part):b.foldl addP a=joinP a b:=by
 cases b with
 | nil=>unfold joinP;cases a.getLast?<;>simp
 | cons z t=>
  rw [List.foldl_cons]
  rcases List.eq_nil_or_concat a with rfl|⟨d,y,rfl⟩
  ·rw [addP_nil]
   have:=fold_app t [] z h
   simpa [joinP] using this
  ·rw [List.concat_eq_append]
   rw [addP_snoc]
   unfold joinP
   simp only [List.getLast?_append,List.getLast?_singleton,Option.some_or,List.dropLast_concat]
   rw [Bool.and_comm (y.kind == 1)]
   cases hk:(z.kind == 1&&y.kind == 1) with
   | true=>
    simp only [if_true]
    rw [fold_app t d _ ?_]
    rw [<-h]
    have hyz:y.kind=z.kind:=by
     simp at hk;rw [hk.1,hk.2]
    exact nj_head _ z t hyz
   | false=>
    simp only [Bool.false_eq_true,if_false]
    rw [fold_app t (d++[y]) z h];simp
theorem res_same (pk pk':Pick) (hpk:Picks pk) (F:Part->Prop) (hF:∀p,F p->WfP p)
  (he:∀p,F p->selB p.kind=true->∀cs:List (Bytes × List Part),(∀c∈cs,c.1≠[])->pk' p.kind p.name cs=pk p.kind p.name cs) (ps:List Part) :
  allPs F ps->∀count out,nj out=true->rresPs pk' count ps out=resPs pk count ps out/\nj (resPs pk count ps out)=true:=by
 refine tree_Q (P:=fun p=>p.all F->∀count out,nj out=true->p.rres pk' count out=p.res pk count out/\nj (p.res pk count out)=true)
  (Q:=fun ps=>allPs F ps->∀count out,nj out=true->rresPs pk' count ps out=resPs pk count ps out/\nj (resPs pk count ps out)=true)
  (R:=fun cs=>allCs F cs->∀count,rresCs pk' count cs=resCs pk count cs/\∀c∈resCs pk count cs,nj c.2=true) ?_ ?_ ?_ ?_ ?_ ps
 ·intro p hr hq h count out ho
  rw [p.all_eq] at h
  obtain ⟨h1,h2,h3⟩:=h
  have hw:=hF p h1
  rw [p.res_eq,p.rres_eq]
  cases hs:selB p.kind with
  | true=>
   have e10:(p.kind == 10)=false/\(p.kind == 11)=false:=by rcases (selB_iff _).1 hs with e|e|e<;>(rw [e];decide)
   simp only [e10.1,e10.2,if_true,if_false,Bool.false_eq_true]
   obtain ⟨r1,r2⟩:=hr h2 (if p.kind == 9 then count else p.name)
   rw [r1]
   have hk:∀c∈resCs pk (if p.kind == 9 then count else p.name) p.cases,c.1≠[]:=by
    intro c hc
    rw [resCs_map] at hc
    obtain ⟨d,hd,rfl⟩:=List.mem_map.1 hc
    exact (keyB_ok (hw.keys hs d hd)).1
   rw [he p h1 hs _ hk]
   have hn:nj (pk p.kind p.name (resCs pk (if p.kind == 9 then count else p.name) p.cases))=true:=by
    rcases hpk p.kind p.name (resCs pk (if p.kind == 9 then count else p.name) p.cases) with h|⟨key,h⟩
    ·rw [h];rfl
    ·exact r2 _ h
   exact ⟨(fold_join hn out).symm,nj_adds _ ho⟩
  | false=>
   simp only [if_false,Bool.false_eq_true]
   cases h10:p.kind == 10 with
   | true=>simp only [if_true];exact ⟨trivial,nj_push _ rfl ho⟩
   | false=>
    simp only [if_false,Bool.false_eq_true]
    cases h11:p.kind == 11 with
    | true=>
     simp only [if_true]
     obtain ⟨q1,q2⟩:=hq h3 count [] rfl
     obtain ⟨ht,hst⟩:=hw.elem h11
     rw [q1,ht,hst,hw.cases0 hs]
     refine ⟨rfl,nj_push _ ?_ ho⟩
     have:p.kind=11:=by simpa using h11
     simp [this]
    | false=>
     simp only [if_false,Bool.false_eq_true]
     refine ⟨?_,nj_addP _ ho⟩
     rw [<-fold_join (b:=[p]) rfl out];rfl
 ·intro _ count out ho;simp only [resPs,rresPs];exact ⟨trivial,ho⟩
 ·intro p ps hp hq h count out ho
  rw [allPs_cons] at h
  rw [resPs_cons,rresPs_cons]
  obtain ⟨a,b⟩:=hp h.1 count out ho
  rw [a]
  exact hq h.2 count _ b
 ·intro _ count;simp only [resCs,rresCs];exact ⟨trivial,fun c hc=>by cases hc⟩
 ·intro c cs hq hr h count
  rw [allCs_cons] at h
  obtain ⟨k,q⟩:=c
  simp only [resCs,rresCs]
  obtain ⟨a,b⟩:=hq h.1 count [] rfl
  obtain ⟨a2,b2⟩:=hr h.2 count
  refine ⟨by rw [a,a2],fun x hx=>?_⟩
  rcases List.mem_cons.1 hx with rfl|hx
  ·exact b
  ·exact b2 x hx
theorem wtPs_app (a b:List Part):wtPs (a++b)=wtPs a+wtPs b:=by
 induction a with
 | nil=>simp [wtPs_nil]
 | cons x a ih=>rw [List.cons_append,wtPs_cons,wtPs_cons,ih];omega
theorem escB_ge (s:Bytes):s.length<=(escB s).length:=by
 induction s with
 | nil=>simp
 | cons c s ih=>rw [escB];split<;>simp<;>omega
theorem wt_len (ps:List Part):∀d c prev,formedPs ps d c prev=true->wtPs ps<=2*lenPs ps:=by
 refine tree_Q (P:=fun p=>∀d c,p.formedB d c=true->p.wt<=2*p.lenB)
  (Q:=fun ps=>∀d c prev,formedPs ps d c prev=true->wtPs ps<=2*lenPs ps)
  (R:=fun cs=>∀k d c keys,formedCs cs k d c keys=true->wtCs cs<=2*lenCs cs) ?_ ?_ ?_ ?_ ?_ ps
 ·intro p hr hq d c h
  rw [p.formedB_eq] at h
  rw [p.lenB_eq,p.wt_eq]
  by_cases h11:p.kind=11
  ·have h1:(p.kind == 1)=false:=by rw [h11];rfl
   have h10:(p.kind == 10)=false:=by rw [h11];rfl
   have h11':(p.kind == 11)=true:=by simpa using h11
   rw [h11',if_pos rfl,Bool.and_eq_true] at h
   have h3:=hq _ _ _ h.2
   have h4:=h.1
   unfold elHead at h4
   simp at h4
   have hc:p.cases=[]:=by simpa using h4.2
   simp only [h1,h10,h11',if_true,if_false,Bool.false_eq_true]
   rw [h4.1.1.2,h4.1.2,hc,wtCs_nil]
   cases he:p.parts.isEmpty with
   | true=>
    have:p.parts=[]:=by simpa using he
    rw [this,wtPs_nil];simp<;>omega
   | false=>simp<;>omega
  ·have h11':(p.kind == 11)=false:=by simpa using h11
   rw [h11',if_neg (by simp)] at h
   cases hs:selB p.kind with
   | true=>
    rw [hs,if_pos rfl,Bool.and_eq_true] at h
    have h3:=hr _ _ _ _ h.2
    have h4:=h.1
    unfold selHead at h4
    simp at h4
    have hp:p.parts=[]:=by simpa using h4.1.1.2
    have e1:(p.kind == 1)=false/\(p.kind == 10)=false:=by
     rcases (selB_iff _).1 hs with e|e|e<;>(rw [e];decide)
    obtain ⟨e1,e10⟩:=e1
    simp only [e1,e10,h11',if_true,if_false,Bool.false_eq_true]
    rw [h4.1.1.1.1.2,h4.1.1.1.2,hp,wtPs_nil]
    simp<;>omega
   | false=>
    rw [hs,if_neg (by simp)] at h
    unfold plainB at h
    simp only [Bool.and_eq_true] at h
    obtain ⟨⟨⟨⟨⟨hk,hc⟩,hp⟩,ht⟩,hn⟩,hst⟩:=h
    have hc:=len0 hc
    have hp:=len0 hp
    rw [hc,hp,wtCs_nil,wtPs_nil]
    have e:∀j:Int,p.kind≠j->(p.kind == j)=false:=fun j h=>by simpa using h
    unfold wT at ht
    unfold wN at hn
    unfold wS at hst
    unfold plainK at hk
    by_cases k1:p.kind=1
    ·rw [k1] at ht hn hst hk
     simp at hn hst hk
     rw [k1,hn,hst]
     have:=escB_ge p.text
     have:0<p.text.length:=List.length_pos_iff.2 hk
     simp;omega
    by_cases k10:p.kind=10
    ·rw [k10] at ht hn hst hk
     simp at ht hn hst
     rw [k10,ht,hn,hst];simp
    rw [e 1 k1] at ht hn hst hk
    rw [e 10 k10] at hn hst hk
    simp only [Bool.false_eq_true,if_false] at ht hn hst hk
    have ht2:p.text=[]:=by simpa using ht
    rw [e 1 k1,e 10 k10,h11',ht2]
    simp only [Bool.false_eq_true,if_false]
    cases hse:(p.style == []) with
    | true=>
     have:p.style=[]:=by simpa using hse
     rw [this];simp<;>omega
    | false=>simp<;>omega
 ·intro d c prev _;simp [lenPs,wtPs]
 ·intro p ps hp hq d c prev h
  rw [formedPs_cons,Bool.and_eq_true,Bool.and_eq_true] at h
  rw [lenPs_cons,wtPs_cons]
  have:=hp _ _ h.2.1;have:=hq _ _ _ h.2.2
  omega
 ·intro k d c keys _;simp [lenCs,wtCs]
 ·intro x cs hq hr k d c keys h
  rw [formedCs_cons,Bool.and_eq_true,Bool.and_eq_true] at h
  rw [lenCs_cons,wtCs_cons]
  have:=hq _ _ _ h.2.1;have:=hr _ _ _ _ h.2.2
  omega
theorem wt_addP (o:List Part) (x:Part):wtPs (addP o x)<=wtPs o+x.wt:=by
 rcases List.eq_nil_or_concat o with rfl|⟨d,y,rfl⟩
 ·rw [addP_nil,wtPs_cons,wtPs_nil];omega
 ·rw [List.concat_eq_append,addP_snoc]
  split
  ·rw [wtPs_app,wtPs_app,wtPs_cons,wtPs_cons,wtPs_nil,Part.wt_eq,x.wt_eq,y.wt_eq]
   simp only [List.length_append];omega
  ·simp only [wtPs_app,wtPs_cons,wtPs_nil];omega
theorem wt_adds (l:List Part):∀o,wtPs (l.foldl addP o)<=wtPs o+wtPs l:=by
 induction l with
 | nil=>intro o;simp
 | cons x l ih=>intro o;rw [List.foldl_cons,wtPs_cons];have h1:=ih (addP o x);have h2:=wt_addP o x;omega
theorem res_wt (pk:Pick) (hpk:Picks pk) (K:Nat) (hK:1<=K) (ps:List Part):∀count:Bytes,1+count.length<=K->allPs (fun p=>selB p.kind=true->1+p.name.length<=K) ps->∀out,wtPs (resPs pk count ps out)<=wtPs out+K*wtPs ps:=by
 have hm:∀a,a<=K*a:=fun a=>Nat.le_mul_of_pos_left a hK
 refine tree_Q (P:=fun p=>∀count:Bytes,1+count.length<=K->p.all (fun p=>selB p.kind=true->1+p.name.length<=K)->∀out,wtPs (p.res pk count out)<=wtPs out+K*p.wt)
  (Q:=fun ps=>∀count:Bytes,1+count.length<=K->allPs (fun p=>selB p.kind=true->1+p.name.length<=K) ps->∀out,wtPs (resPs pk count ps out)<=wtPs out+K*wtPs ps)
  (R:=fun cs=>∀count:Bytes,1+count.length<=K->allCs (fun p=>selB p.kind=true->1+p.name.length<=K) cs->∀c∈resCs pk count cs,wtPs c.2<=K*wtCs cs) ?_ ?_ ?_ ?_ ?_ ps
 ·intro p hr hq count hc ha out
  rw [p.all_eq] at ha
  obtain ⟨h1,h2,h3⟩:=ha
  have hw:K*p.wt=K+K*p.text.length+K*p.name.length+K*p.style.length+K*wtCs p.cases+K*wtPs p.parts:=by
   rw [p.wt_eq];simp only [Nat.mul_add,Nat.mul_one]
  have t1:=hm p.text.length;have t2:=hm p.name.length;have t3:=hm p.style.length;have t4:=hm (wtCs p.cases);have t5:=hm (wtPs p.parts)
  rw [p.res_eq]
  split
  ·rename_i hs
   have hcnt:1+(if p.kind == 9 then count else p.name).length<=K:=by
    split
    ·exact hc
    ·exact h1 hs
   have h5:=wt_adds (pk p.kind p.name (resCs pk (if p.kind == 9 then count else p.name) p.cases)) out
   rcases hpk p.kind p.name (resCs pk (if p.kind == 9 then count else p.name) p.cases) with h|⟨key,h⟩
   ·rw [h,wtPs_nil] at h5;rw [h];omega
   ·have:=hr _ hcnt h2 _ h
    simp only at this;omega
  ·split
   ·rw [wtPs_app,wtPs_cons,wtPs_nil,Part.wt_eq]
    simp only [List.length_nil,wtCs_nil,wtPs_nil];omega
   ·split
    ·have:=hq count hc h3 []
     rw [wtPs_nil] at this
     rw [wtPs_app,wtPs_cons,wtPs_nil,Part.wt_eq]
     simp only;omega
    ·have:=wt_addP out p
     have:=p.wt_eq
     omega
 ·intro count _ _ out;simp [resPs]
 ·intro p ps hp hq count hc ha out
  rw [allPs_cons] at ha
  rw [resPs_cons,wtPs_cons,Nat.mul_add]
  have h1:=hp count hc ha.1 out
  have h2:=hq count hc ha.2 (p.res pk count out)
  omega
 ·intro count _ _ c hc;simp [resCs] at hc
 ·intro c cs hq hr count hc ha x hx
  rw [allCs_cons] at ha
  obtain ⟨k,q⟩:=c
  simp only [resCs] at hx
  rw [wtCs_cons,Nat.mul_add,Nat.mul_add]
  rcases List.mem_cons.1 hx with rfl|hx
  ·have:=hq count hc ha.1 []
   rw [wtPs_nil] at this
   simp only at this⊢;omega
  ·have:=hr count hc ha.2 x hx
   omega
theorem vars_wt (l:Loc) {ps:List Part} (h:validB ps=true) (L:List Sel) (keys:List Bytes):wtPs (resPs (pkP l L keys) [] ps [])<=2^19:=by
 have hw:=valid_wf h
 have h0:=h
 unfold validB at h
 simp only [Bool.and_eq_true,decide_eq_true_eq] at h
 have h1:=wt_len ps _ _ _ h.1.1
 have h2:=text_len_eq ps _ _ _ h.1.1
 have h3:=res_wt (pkP l L keys) (pkP_picks l L keys) 41 (by decide) ps [] (by simp) (all_imp (fun p hp hs=>by have:=hp.name hs;omega) ps hw) []
 rw [wtPs_nil] at h3
 have:41*wtPs ps<=41*8000:=Nat.mul_le_mul_left _ (by omega)
 omega
theorem findI_at (l:List Sel) (k:Int) (n:Bytes) (h:¬findI l k n<0):∃s,l[(findI l k n).toNat]? = some s/\s.kind=k:=by
 have:=selAdd_at l k n
 unfold selAdd selAt at this
 rw [if_neg h,if_neg h] at this
 exact this
theorem keyAt_ok {L:List Sel} (hk:∀s∈L,s.keys≠[]) (hok:KS KeyOk L) (i:Nat) {k:Int} {n:Bytes} (h:¬findI L k n<0):KeyOk k (keyAt L (decK L i).1 k n):=by
 obtain ⟨s,hs,hsk⟩:=findI_at L k n h
 have hj:(findI L k n).toNat<(decK L i).1.length:=by rw [decK_len];exact (List.getElem?_eq_some_iff.1 hs).1
 have hget:(decK L i).1[(findI L k n).toNat]? = some (decK L i).1[(findI L k n).toNat]:=List.getElem?_eq_getElem hj
 unfold keyAt
 rw [hget,Option.getD_some]
 obtain ⟨t,ht,hm⟩:=decK_at L hk i _ _ hget
 rw [hs] at ht;cases ht
 have:=hok s (List.mem_of_getElem? hs) _ hm
 rw [hsk] at this
 exact this
theorem decK_ok {L:List Sel} (hk:∀s∈L,s.keys≠[]) (hok:KS KeyOk L) (i:Nat):∀k∈(decK L i).1,k≠[]:=by
 intro k hm
 obtain ⟨j,hj⟩:=List.getElem?_of_mem hm
 obtain ⟨s,hs,hmem⟩:=decK_at L hk i j k hj
 exact (hok s (List.mem_of_getElem? hs) k hmem).1
def rvarsOf (pkf:List Bytes->Pick) (L:List Sel) (ps:List Part) (n:Nat):List (List Part):=(List.range n).map fun i=>rresPs (pkf (decK L i).1) [] ps []
def flatR (l:Loc) (ps:List Part):FormP × Int:=
 if !validB ps then (([],[]),1)
 else if decide ((combR 1 (selsP ps):Int)>400) then (([],[]),6)
 else if !rulesF [] l.card||!rulesF [] l.ord then (([],[]),18)
 else ((selsP ps,rvarsOf (pkR l (selsP ps)) (selsP ps) ps (combR 1 (selsP ps))),0)
theorem vars_same (l:Loc) {ps:List Part} (h:allPs WfP ps) (i:Nat):rresPs (pkR l (selsP ps) (decK (selsP ps) i).1) [] ps []=resPs (pkP l (selsP ps) (decK (selsP ps) i).1) [] ps []:=by
 have hk:∀s∈selsP ps,s.keys≠[]:=fun s hs=>(sels_keys ps s hs).1
 have hok:=sels_ok h
 refine (res_same (pkP l (selsP ps) (decK (selsP ps) i).1) (pkR l (selsP ps) (decK (selsP ps) i).1) (pkP_picks _ _ _) (fun p=>WfP p/\resOk (selsP ps) p) (fun p hp=>hp.1) ?_ ps (all_and ps h (valid_ok h)) [] [] rfl).1
 intro p hp hs cs hcs
 unfold pkP pkR
 have h9:=(keyAt_ok hk hok i (hp.2 hs).1).2
 rw [pickC_pickR hcs h9]
theorem flat_same (l:Loc) (ps:List Part):flatR l ps=flatP l ps:=by
 unfold flatR flatP
 rw [valid_same]
 cases hv:validB ps with
 | false=>rfl
 | true=>
  simp only [Bool.not_true,Bool.false_eq_true,if_false]
  have hw:=valid_wf hv
  have hk:∀s∈selsP ps,s.keys≠[]:=fun s hs=>(sels_keys ps s hs).1
  rcases comb_same (selsP ps) hk 1 (by decide) with ⟨h1,h2⟩|⟨h1,h2⟩
  ·rw [h2]
   have:rvarsOf (pkR l (selsP ps)) (selsP ps) ps (combP 1 (selsP ps))=varsOf (pkP l (selsP ps)) (selsP ps) ps (combP 1 (selsP ps)):=by
    unfold rvarsOf varsOf
    exact List.map_congr_left fun i _=>vars_same l hw i
   rw [this]
  ·have e1:decide ((combR 1 (selsP ps):Int)>400)=true:=by simp;omega
   have e2:decide ((combP 1 (selsP ps):Int)>400)=true:=by simp;omega
   rw [e1,e2];rfl
end Go.Ir
namespace Go.Ir
open Go.Proofs
variable (W0 : World)
theorem okCe (l:List Case):∀y∈l.map Case.enc,y.ok=true:=by
 intro y hy;obtain ⟨x,_,rfl⟩:=List.mem_map.1 hy;rfl
theorem celCe (l:List Case):∀y∈l.map Case.enc,(cells y).length=2:=by
 intro y hy;obtain ⟨x,_,rfl⟩:=List.mem_map.1 hy;rfl
def TCs:Nat:=97
theorem c_cloneC (cs:List Case) (hl:cs.length<=2^30):RetN Tryz.prog W0 201 [.sl (cs.map Case.enc)] [] (.arr TCs 2 (cs.map Case.enc)) []:=by
 refine fn_newW (s:=2) f201ok (by simp) (by simp [lk]) fun n0 hn0=>?_
 clear hn0
 have hll:cs.length<=LLim:=by unfold LLim;omega
 cases cs with
 | nil=>
  simp only [push_cast,seval,reduceEqDiff,List.map_nil,List.length_nil,eq_true (show 0<=LLim by decide),eq_true (celCe [])]
  intros
  refine ⟨?_,?_⟩
  ·intros
   exact ⟨_,StLe.own (s:=2) (e:=TCs) (sz:=2) (k:=0) rfl,_,rfl,by simp [lk],rfl,fun _ _ h=>by cases h⟩
  ·intros
   exact finNW_i rfl (by simp [lk,TCs])
 | cons c cs=>
  have hcel:=celCe (c::cs)
  rw [List.map_cons] at hcel
  rw [List.map_cons,Case.enc_eq] at *
  rw [List.length_cons] at hll
  simp only [push_cast,seval,reduceEqDiff,List.length_nil,eq_true (show 0<=LLim by decide),eq_true hcel,List.nil_append,eq_true hll]
  intros
  exact finNW_i rfl (by simp [lk,TCs,Case.enc_eq])
theorem frz_boxM {W0:World} {nt n n' e sz:Nat} {env env':Env} {σ τ:Sto} {rid kid:Id} {A B es:List V} (hrk:rid≠kid) (hr:lk σ rid=some (.box (.agg (A ++ .arr kid::B)))) (hk:lk σ kid=some (.arr e sz es)) (hτ:∀i e',lk τ i=some e'->lk σ i=some e'/\i≠kid) (hτr:lk τ rid=none) (hok:∀y∈es,y.ok=true) (henv:∀s,get env' s=get env s\/get env' s = .any) (hn:n<=n') :
  StLe W0 nt ⟨env,σ,n⟩ ⟨env',(rid,.box (.agg (A ++ .sl es::B)))::τ,n'⟩:=by
 refine StLe.weak (fun i=>if i=kid then some es else none) (fun i es' h=>?_) (fun s=>?_) (fun i e' h=>?_) hn
 ·split at h
  ·rename_i hi;subst hi;cases h
   refine ⟨⟨e,sz,hk⟩,?_⟩
   simp only [lk,if_neg hrk]
   cases hl:lk τ i with
   | none=>rfl
   | some x=>exact absurd rfl (hτ i x hl).2
  ·cases h
 ·rcases henv s with h|h
  ·rw [h];exact .refl _
  ·rw [h];exact .any _
 ·simp only [lk] at h
  by_cases hi:rid=i
  ·rw [if_pos hi] at h
   cases h
   subst hi
   refine ⟨_,hr,.box _ _ (.agg _ _ (by simp) fun k c c' h1 h2=>?_) (by simp [cells]) rfl rfl⟩
   by_cases hk:k<A.length
   ·rw [List.getElem?_append_left hk] at h1 h2
    rw [h1] at h2;cases h2;exact .refl _
   ·rw [List.getElem?_append_right (by omega)] at h1 h2
    cases hq:k-A.length with
    | zero=>
     rw [hq] at h1 h2
     simp at h1 h2
     subst h1 h2
     refine .arr kid es es (by simp) rfl (fun k c c' h1 h2=>?_) (fun k c c' h1 h2=>?_)
     ·rw [h1] at h2;cases h2;exact .refl _
     ·rw [h1] at h2;cases h2
      have:=hok c (List.mem_of_getElem? h1)
      exact ⟨rfl,this,this⟩
    | succ q=>
     rw [hq] at h1 h2
     simp only [List.getElem?_cons_succ] at h1 h2
     rw [h1] at h2;cases h2;exact .refl _
  ·rw [if_neg hi] at h
   exact ⟨_,(hτ i e' h).1,.refl _⟩
set_option maxHeartbeats 4000000 in
theorem c_cloned:∀(N:Nat) (ps:List Part),wtPs ps<N->wtPs ps<=2^24->RetS Tryz.prog W0 151 [.sl (ps.map Part.enc)] [] (.sl (ps.map Part.enc)) []:=by
 intro N
 induction N with
 | zero=>intro ps h;omega
 | succ N ih=>
 intro ps hN hw0
 have hlen:=len_wtPs ps
 refine fn_retW (vs:=[.sl (ps.map Part.enc)]) f151ok (by simp) (by simp) fun n0 hn0=>?_
 clear hn0
 simp only [push_cast,seval,reduceEqDiff]
 intro k1 k2 k3
 refine aWP_loopW ps.length (Inv:=fun m st=>∃done rest n id,ps=done++rest/\m=rest.length/\id.1<n/\st=⟨[(3,.arr id),(7,.sl (ps.map Part.enc)),(8,.i .i64 ps.length),(9,.i .i64 done.length)],[(id,.arr TPt 6 (done.map Part.enc))],n⟩) ⟨_,(StLe.own (s:=3) (e:=TPt) (sz:=6) (k:=99) rfl).trans (StLe.envD (fun t=>?_) (Nat.le_refl _)),[],ps,_,_,rfl,rfl,?_,rfl⟩ ?_
 ·left
  by_cases h3:3=t
  ·subst h3;rfl
  ·simp [get,h3]
 ·simp
 rintro m _ ⟨done,rest,n,id,hz,rfl,hin,rfl⟩
 cases rest with
 | nil=>
  simp only [List.append_nil] at hz
  subst hz
  simp only [push_cast,seval,reduceEqDiff]
  intros
  exact finW_frz (e:=TPt) (sz:=6) rfl (okPt _) (by simp [lk])
 | cons p rest=>
  have hbd:=zip_bd hz
  have hwp:=wtPs_mem (ps:=ps) (p:=p) (by rw [hz];simp)
  have hpw:=p.wt_eq
  have hre:=ih p.parts (by omega) (by omega)
  have hlc:=len_wtCs p.cases
  have hcl:=c_cloneC W0 p.cases (by omega)
  have fix:∀k j,(id=(n+1+k,j))=False:=fun k j=>eq_false fun he=>by rw [he] at hin;simp at hin;omega
  have fxi:∀k j,((n+1+k,j)=id)=False:=fun k j=>eq_false fun he=>of_eq_false (fix k j) he.symm
  have hll:done.length+1<=LLim:=by have:ps.length=done.length+(rest.length+1):=by rw [hz];simp
                                   unfold LLim;omega
  simp only [push_cast,seval,reduceEqDiff,hz,wrap_zip p (done:=done) (by omega),fix,fxi,List.length_map]
  repeat' (first|(((first|apply condU_s|apply gdU_t|apply gdU_f)<;>intro _h)<;>simp only [push_cast,seval,reduceEqDiff,_h,hz,wrap_zip p (done:=done) (by omega),fix,fxi,List.length_map])|(refine c_call (by exact hre) ?_;simp only [push_cast,seval,reduceEqDiff,hz,wrap_zip p (done:=done) (by omega),fix,fxi,List.length_map])|intro _)
  refine c_calln hcl (fun i e h=>by simp [lk] at h) ?_
  rw [over_nil]
  have hTC:TCs=97:=rfl
  simp only [push_cast,seval,reduceEqDiff,hz,wrap_zip p (done:=done) (by omega),fix,fxi,List.length_map]
  intros
  rename_i a1 a2 a3 a4 a5
  have hlt:n<n+1+a1/\n+1+a1<n+1+a1+1+a2+1+a3/\n+1+a1+1+a2+1+a3<n+1+a1+1+a2+1+a3+1+a4+1+a5:=by omega
  generalize n+1+a1+1+a2+1+a3+1+a4+1+a5=n3 at *
  generalize n+1+a1+1+a2+1+a3=c0 at *
  generalize n+1+a1=x0 at *
  obtain ⟨hx0,hc0,hn3⟩:=hlt
  have gic:(id=(c0,19))=False:=eq_false fun he=>by rw [he] at hin;simp at hin;omega
  have gci:((c0,19)=id)=False:=eq_false fun he=>of_eq_false gic he.symm
  have gix:(id=(x0,5))=False:=eq_false fun he=>by rw [he] at hin;simp at hin;omega
  have gxi:((x0,5)=id)=False:=eq_false fun he=>of_eq_false gix he.symm
  refine aWP_loopW p.cases.length (Inv:=fun m st=>∃cd cr n',p.cases=cd++cr/\m=cr.length/\c0<n'/\st=⟨[(3,.arr id),(5,.ref (x0,5) 0),(7,.sl ((done++p::rest).map Part.enc)),(8,.i .i64 (done++p::rest).length),(9,.i .i64 done.length),(23,.i .i64 p.cases.length),(24,.i .i64 cd.length)],[((c0,19),.arr TCs 2 (p.cases.map Case.enc)),((x0,5),.box (.agg [.i .i64 p.kind,.s p.text,.s p.name,.s p.style,.arr (c0,19),.sl (p.parts.map Part.enc)])),(id,.arr TPt 6 (done.map Part.enc))],n'⟩) ⟨_,StLe.refl,[],p.cases,_,rfl,rfl,hn3,rfl⟩ ?_
  clear hre hcl
  rintro m _ ⟨cd,cr,n',hcz,rfl,hn',rfl⟩
  cases cr with
  | nil=>
   have hlt0:decide ((cd.length:Int)<(p.cases.length:Int))=false:=by rw [hcz];simp
   simp only [push_cast,seval,reduceEqDiff,hlt0]
   intros
   refine wkW_i (frz_boxM (e:=TCs) (sz:=2) (rid:=(x0,5)) (kid:=(c0,19)) (A:=[.i .i64 p.kind,.s p.text,.s p.name,.s p.style]) (B:=[.sl (p.parts.map Part.enc)]) (es:=p.cases.map Case.enc) (τ:=[(id,.arr TPt 6 (done.map Part.enc))]) (by simp) (by simp [lk]) (by simp [lk]) (fun i e' h=>?_) (by simp [lk,gix]) (okCe _) (fun s=>.inl rfl) (Nat.le_refl _)) ?_
   ·simp only [lk] at h
    split at h
    ·rename_i he;subst he;cases h
     exact ⟨by simp [lk,gci,gxi],fun h=>of_eq_false gic h⟩
    ·cases h
   have hps:((done++[p]).map Part.enc)=done.map Part.enc++[.agg [.i .i64 p.kind,.s p.text,.s p.name,.s p.style,.sl (p.cases.map Case.enc),.sl (p.parts.map Part.enc)]]:=by simp [Part.enc_eq]
   have gxi2:=gxi
   simp only [push_cast,seval,reduceEqDiff,List.cons_append,List.nil_append,gxi,gix,eq_true hll,List.length_map,<-hps,TPt,wrap_zip p (done:=done) (by omega)]
   intros
   exact ⟨_,_,Nat.lt_succ_self _,StLe.drop (fun i e h=>lk_app_left (τ:=[_]) h) (Nat.le_refl _),done++[p],rest,_,_,by simp,rfl,by (try simp);omega,rfl⟩
  | cons c cr=>
   have hlt0:decide ((cd.length:Int)<(p.cases.length:Int))=true:=by rw [hcz];simp;omega
   have hcb:=zip_bd hcz
   have hcw:=wtCs_mem (cs:=p.cases) (c:=c) (by rw [hcz];simp)
   have hrc:=ih c.2 (by omega) (by omega)
   have hget:(p.cases.map Case.enc)[cd.length]? = some (.agg [.s c.1,.sl (c.2.map Part.enc)]):=by
    rw [hcz,List.getElem?_map,List.getElem?_append_right (by simp)];simp [Case.enc_eq]
   have hset:(p.cases.map Case.enc).set cd.length (.agg [.s c.1,.sl (c.2.map Part.enc)])=p.cases.map Case.enc:=by
    rw [hcz];simp [List.set_append,Case.enc_eq]
   simp only [push_cast,seval,reduceEqDiff,hlt0,hget,hset,if_pos hcb,wrap_zip c (done:=cd) (by omega),List.length_map,TCs]
   repeat' (first|(((first|apply condU_s|apply gdU_t|apply gdU_f)<;>intro _h)<;>simp only [push_cast,seval,reduceEqDiff,_h,hlt0,hget,hset,if_pos hcb,wrap_zip c (done:=cd) (by omega),List.length_map,TCs])|(refine c_call (by exact hrc) ?_;simp only [push_cast,seval,reduceEqDiff,hlt0,hget,hset,if_pos hcb,wrap_zip c (done:=cd) (by omega),List.length_map,TCs])|intro _)
   exact ⟨_,_,Nat.lt_succ_self _,StLe.refl,cd++[c],cr,_,by rw [hcz];simp,rfl,by omega,rfl⟩
theorem StLe.frzAt {W0:World} {nt n n' s:Nat} {env:Env} {σ:Sto} {id:Id} {e sz:Nat} {es:List V} (hs:get env s = .arr id) (hn:lk σ id=none) (hok:∀y∈es,y.ok=true) (hle:n<=n') :
  StLe W0 nt ⟨env,(id,.arr e sz es)::σ,n⟩ ⟨(s,.sl es)::env,σ,n'⟩:=by
 refine StLe.frz hn hok (fun t=>?_) hle
 by_cases h:s=t
 ·subst h;exact .inr ⟨hs,by simp [get]⟩
 ·exact .inl (by simp [get,h])
set_option maxHeartbeats 4000000 in
theorem rkeys_loop (L:List Sel) (hL:L.length<=2^26) (hk:∀s∈L,s.keys≠[]/\s.keys.length<=2^26) (i:Nat) (hi:i<=2^30) (kid:Id) (τ:Sto) (a1 a2 a4 a7 a8 a9:V) (n0:Nat) (Q:Exit->St->Prop)
  (hQ:∀n,n0<=n->Q (.exit 2) ⟨[(1,a1),(2,a2),(4,a4),(6,.sl (L.map Sel.enc)),(7,a7),(8,a8),(9,a9),(10,.arr kid),(11,.i .i64 (decK L i).2),(12,.i .i64 (-1)),(50,.b false)],(kid,.arr 9 1 ((decK L i).1.map V.s))::τ,n⟩) :
  LoopW Tryz.prog W0 90 f17_46 Q ⟨[(1,a1),(2,a2),(4,a4),(6,.sl (L.map Sel.enc)),(7,a7),(8,a8),(9,a9),(10,.arr kid),(11,.i .i64 i),(12,.i .i64 ((L.length:Int)-1))],(kid,.arr 9 1 ((List.replicate L.length []).map V.s))::τ,n0⟩:=by
 refine aWP_loopW L.length (Inv:=fun m st=>∃B C n k r,L=B++C/\m=B.length/\k=(B.length:Int)-1/\r=(((decK C i).2:Nat):Int)/\n0<=n/\st=⟨[(1,a1),(2,a2),(4,a4),(6,.sl (L.map Sel.enc)),(7,a7),(8,a8),(9,a9),(10,.arr kid),(11,.i .i64 r),(12,.i .i64 k)],(kid,.arr 9 1 ((List.replicate B.length []++(decK C i).1).map V.s))::τ,n⟩) ⟨_,StLe.refl,L,[],n0,(L.length:Int)-1,(i:Int),(List.append_nil L).symm,rfl,rfl,rfl,Nat.le_refl _,by rw [show (decK [] i).1=[] from rfl,List.append_nil]⟩ ?_
 rintro m _ ⟨B,C,n,k,r,hz,rfl,hk1,hr1,hn,rfl⟩
 obtain rfl|⟨D,s,rfl⟩:B=[]\/∃D s,B=D++[s]:=by rcases List.eq_nil_or_concat B with h|⟨d,y,h⟩;exact .inl h;exact .inr ⟨d,y,by rw [h,List.concat_eq_append]⟩
 ·simp at hz hk1
  subst hz hk1 hr1
  simp only [push_cast,seval,reduceEqDiff,show decide ((-1:Int)>=0)=false from rfl]
  intros
  exact hQ _ (by omega)
 ·have hL2:L=D++s::C:=by rw [hz];simp
  have hks:=hk s (by rw [hL2];simp)
  have hkp:0<s.keys.length:=List.length_pos_iff.2 hks.1
  have hbd:=zip_bd hL2
  have hk2:k=(D.length:Int):=by rw [hk1];simp
  have hrl:=decK_le C i
  have hmod:(r.tmod (s.keys.length:Int))=(((decK C i).2 % s.keys.length:Nat):Int):=by rw [hr1];rfl
  have hdiv:(r.tdiv (s.keys.length:Int))=(((decK C i).2 / s.keys.length:Nat):Int):=by rw [hr1];rfl
  have hdl:(decK C i).2 / s.keys.length<=(decK C i).2:=Nat.div_le_self _ _
  have hml:=Nat.mod_lt (decK C i).2 hkp
  have hwr0:∀d:Nat,d<=2^30->IntKind.i64.wrap (d:Int)=d:=fun d h=>by simp (disch:=omega) only [wrap64]
  have hwk:IntKind.i64.wrap ((D.length:Int)-1)=(D.length:Int)-1:=by simp (disch:=omega) only [wrap64]
  have hne:(s.keys.length:Int)≠0:=by omega
  obtain ⟨key,hkey⟩:∃key,s.keys[(decK C i).2 % s.keys.length]? = some key:=⟨_,List.getElem?_eq_getElem hml⟩
  have hget:(s.keys.map V.s)[(decK C i).2 % s.keys.length]? = some (.s key):=by rw [List.getElem?_map,hkey];rfl
  have hset:(List.map V.s (List.replicate (D++[s]).length []++(decK C i).1)).set D.length (.s key)=List.map V.s (List.replicate D.length []++(decK (s::C) i).1):=by
   simp only [List.length_append,List.length_cons,List.length_nil,decK,hkey,Option.getD_some]
   rw [List.replicate_succ']
   simp [List.set_append]
  have hkl:D.length<(List.replicate (D++[s]).length ([]:Bytes)++(decK C i).1).length:=by simp;omega
  have hge:decide ((D.length:Int)>=0)=true:=by simp
  have hsg:(L.map Sel.enc)[D.length]? = some s.enc:=by rw [hL2,List.getElem?_map,List.getElem?_append_right (by simp)];simp
  have hgk:(List.map V.s (List.replicate (D++[s]).length []++(decK C i).1))[D.length]? = some (.s []):=by
   rw [List.getElem?_map,List.getElem?_append_left (by simp),List.getElem?_replicate];simp
  have hdec:(decK (s::C) i).2=(decK C i).2 / s.keys.length:=rfl
  subst hk2
  generalize (decK C i).2 % s.keys.length=q at *
  generalize (decK C i).2 / s.keys.length=dd at *
  have hwr:=hwr0 dd (by omega)
  simp only [push_cast,seval,reduceEqDiff,hge,show (decide True)=true from rfl,hsg,hmod,hdiv,hwr,hwk,hget,hset,hgk,if_pos hkl,if_pos hml,if_pos hbd,eq_true hne,List.length_map,hne]
  intros
  exact ⟨_,_,by simp,StLe.refl,D,s::C,_,_,_,hL2,rfl,rfl,by rw [hdec],by omega,rfl⟩
set_option maxHeartbeats 4000000 in
theorem c_rFlat (l:Loc) (ps:List Part) (hr:(Loc.enc l).ok=true) (hrl:l.rest.length=11) (hb:wtRules l.card+wtRules l.ord<=2^24) (hw:wtPs ps<=2^24)
  (hL:(selsP ps).length<=2^26) (hk:∀s∈selsP ps,s.keys≠[]/\s.keys.length<=2^26) (hkl:∀s∈selsP ps,∀k∈s.keys,k.length<=2^30) (hok:validB ps=true->allPs (resOk (selsP ps)) ps) (hne:validB ps=true->∀i,∀k∈(decK (selsP ps) i).1,k≠[]) (hnc:validB ps=true->∀s∈collPs ps [],(s.kind == 9)=false->∀k∈s.keys,k≠[]) :
  RetS Tryz.prog W0 17 [l.enc,.sl (ps.map Part.enc)] [] (.tup [formV (flatR l ps).1,.i .i64 (flatR l ps).2]) []:=by
 have hva:=c_rValid W0 ps hw
 have hse:=fun hv=>c_rSelectors W0 ps hw (hnc hv)
 generalize hS:flatR l ps=S
 obtain ⟨S1,S2⟩:=S
 unfold flatR at hS
 generalize hLL:selsP ps=L at *
 have hco:=c_rComb W0 L (by omega) (fun s hs=>by have:=(hk s hs).2;omega)
 have hv1:=c_rRulesV W0 l.card (by omega)
 have hv2:=c_rRulesV W0 l.ord (by omega)
 obtain ⟨r1,r2,r3,r4,r5,r6,r7,r8,r9,r10,r11,hrest⟩:=rest11 hrl
 have hLV:l.enc = .agg [.s l.tag,.s l.parent,.s l.dir,.sl (l.card.map Rule.enc),.sl (l.ord.map Rule.enc),r1,r2,r3,r4,r5,r6,r7,r8,r9,r10,r11]:=by
  rw [Loc.enc_eq,hrest]
 rw [hLV]
 refine fn_retW (vs:=[formV S1,.i .i64 S2]) f17ok (by simp) (by simp) fun n0 hn0=>?_
 clear hn0
 generalize hVB:validB ps=VB at *
 cases VB with
 | false=>
  simp only [Bool.not_false,if_true] at hS
  cases hS
  simp only [push_cast,seval,reduceEqDiff]
  repeat' (first|(((first|apply condU_s|apply gdU_t|apply gdU_f)<;>intro _h)<;>simp only [push_cast,seval,reduceEqDiff,_h])|(refine c_call (by exact hva) ?_;simp only [push_cast,seval,reduceEqDiff])|intro _)
  exact finForm (u:=.agg [.nil,.nil]) (f:=([],[])) rfl rfl (by simp [lk]) (fun _=>none) (fun _ _ h=>by cases h) (vle_err _) rfl rfl
 | true=>
  simp only [Bool.not_true,if_false,Bool.false_eq_true] at hS
  replace hok:=hok rfl
  replace hne:=hne rfl
  replace hse:=hse rfl
  clear hnc
  generalize hNN:combR 1 L=NN at *
  by_cases h4:(NN:Int)>400
  ·have h4':decide ((NN:Int)>400)=true:=by simpa using h4
   rw [h4',if_pos rfl] at hS
   cases hS
   simp only [push_cast,seval,reduceEqDiff,h4']
   repeat' (first|(((first|apply condU_s|apply gdU_t|apply gdU_f)<;>intro _h)<;>simp only [push_cast,seval,reduceEqDiff,_h,h4'])|((first|refine c_call (by exact hva) ?_|refine c_call (by exact hse) ?_|refine c_call (by exact hco) ?_);simp only [push_cast,seval,reduceEqDiff,h4'])|intro _)
   exact finForm (u:=.agg [.nil,.nil]) (f:=([],[])) rfl rfl (by simp [lk]) (fun _=>none) (fun _ _ h=>by cases h) (vle_err _) rfl rfl
  ·have h4':decide ((NN:Int)>400)=false:=by simpa using h4
   rw [h4',if_neg (by simp)] at hS
   cases hq1:rulesF [] l.card with
   | false=>
    rw [hq1] at hv1 hS
    simp only [bq,if_true,if_false,Int.reduceBEq,reduceCtorEq] at hS
    cases hS
    simp only [push_cast,seval,reduceEqDiff,h4']
    repeat' (first|(((first|apply condU_s|apply gdU_t|apply gdU_f)<;>intro _h)<;>simp only [push_cast,seval,reduceEqDiff,_h,h4'])|((first|refine c_call (by exact hva) ?_|refine c_call (by exact hse) ?_|refine c_call (by exact hco) ?_|refine c_call (by exact hv1) ?_);simp only [push_cast,seval,reduceEqDiff,h4'])|intro _)
    exact finForm (u:=.agg [.nil,.nil]) (f:=([],[])) rfl rfl (by simp [lk]) (fun _=>none) (fun _ _ h=>by cases h) (vle_err _) rfl rfl
   | true=>
   cases hq2:rulesF [] l.ord with
   | false=>
    rw [hq1] at hv1
    rw [hq2] at hv2
    rw [hq1,hq2] at hS
    simp only [bq,if_true,if_false,Int.reduceBEq,reduceCtorEq] at hS
    cases hS
    simp only [push_cast,seval,reduceEqDiff,h4']
    repeat' (first|(((first|apply condU_s|apply gdU_t|apply gdU_f)<;>intro _h)<;>simp only [push_cast,seval,reduceEqDiff,_h,h4'])|((first|refine c_call (by exact hva) ?_|refine c_call (by exact hse) ?_|refine c_call (by exact hco) ?_|refine c_call (by exact hv1) ?_|refine c_call (by exact hv2) ?_);simp only [push_cast,seval,reduceEqDiff,h4'])|intro _)
    exact finForm (u:=.agg [.nil,.nil]) (f:=([],[])) rfl rfl (by simp [lk]) (fun _=>none) (fun _ _ h=>by cases h) (vle_err _) rfl rfl
   | true=>
    rw [hq1] at hv1
    rw [hq2] at hv2
    rw [hq1,hq2] at hS
    simp only [bq,if_true,if_false,Int.reduceBEq,reduceCtorEq] at hS
    cases hS
    simp only [push_cast,seval,reduceEqDiff,h4']
    repeat' (first|(((first|apply condU_s|apply gdU_t|apply gdU_f)<;>intro _h)<;>simp only [push_cast,seval,reduceEqDiff,_h,h4'])|((first|refine c_call (by exact hva) ?_|refine c_call (by exact hse) ?_|refine c_call (by exact hco) ?_|refine c_call (by exact hv1) ?_|refine c_call (by exact hv2) ?_);simp only [push_cast,seval,reduceEqDiff,h4'])|intro _)
    rename_i k0 k1 k2 k3 k4 k5 k6 k7
    have hm1:n0<n0+1+k0+1+k1+1+k2+1+k3+1+k4+1+k5/\n0+1+k0+1+k1+1+k2+1+k3+1+k4+1+k5<n0+1+k0+1+k1+1+k2+1+k3+1+k4+1+k5+1+k6+1+k7:=by omega
    generalize n0+1+k0+1+k1+1+k2+1+k3+1+k4+1+k5+1+k6+1+k7=n1 at *
    generalize n0+1+k0+1+k1+1+k2+1+k3+1+k4+1+k5=m1 at *
    have hN4:NN<=400:=by omega
    generalize hLC:V.agg [.s l.tag,.s l.parent,.s l.dir,.sl (l.card.map Rule.enc),.sl (l.ord.map Rule.enc),r1,r2,r3,r4,r5,r6,r7,r8,r9,r10,r11]=LC
    have hi1:NN-0=NN:=by omega
    refine aWP_loopW NN (Inv:=fun m st=>∃i n vo,i<=NN/\m=NN-i/\(vo=none->i=0)/\(∀id,vo=some id->m1<id.1/\id.1<n)/\m1<n/\st=⟨[(1,.sl (ps.map Part.enc)),(2,.ref (n0,2) 0),(4,.ref (n0,4) 0),(6,.sl (L.map Sel.enc)),(7,.i .i64 NN),(8,.ref (m1,8) 0),(9,.i .i64 i)],((m1,8),.box (.agg [.sl (L.map Sel.enc),sv vo]))::(vS vo (rvarsOf (pkR l L) L ps i)++[((n0,4),.box (.agg [.nil,.nil])),((n0,2),.box LC)]),n⟩) ⟨_,StLe.refl,0,n1,none,Nat.zero_le _,hi1.symm,fun _=>rfl,(fun _ h=>by cases h),hm1.2,rfl⟩ ?_
    clear hi1
    rintro m _ ⟨i,n,vo,hi,rfl,hvo,hvi2,hmn,rfl⟩
    have f1:∀k j:Nat,((n+1+k,j)=(m1,8))=False:=fun k j=>eq_false fun he=>by injection he with h1 h2;omega
    have f2:∀k j q:Nat,((n+1+k,j)=(n0,q))=False:=fun k j q=>eq_false fun he=>by injection he with h1 h2;omega
    have f3:∀q:Nat,((m1,8)=(n0,q))=False:=fun q=>eq_false fun he=>by injection he with h1 h2;omega
    have f3':∀q:Nat,((n0,q)=(m1,8))=False:=fun q=>eq_false fun he=>of_eq_false (f3 q) he.symm
    have f1':∀k j:Nat,((m1,8)=(n+1+k,j))=False:=fun k j=>eq_false fun he=>of_eq_false (f1 k j) he.symm
    have f2':∀k j q:Nat,((n0,q)=(n+1+k,j))=False:=fun k j q=>eq_false fun he=>of_eq_false (f2 k j q) he.symm
    by_cases hlt:i<NN
    ·have hlt':decide ((i:Int)<(NN:Int))=true:=by simpa using hlt
     have hkeys:=decK_short (L:=L) (fun s hs=>(hk s hs).1) hkl i
     have hres:=c_rResolve W0 l L (decK L i).1 hr hrl hb (by omega) (decK_len L i) hkeys (hne i) _ ps [] (Nat.lt_succ_self _) hw hok
     rw [hLV] at hres
     have hvi:rvarsOf (pkR l L) L ps (i+1)=rvarsOf (pkR l L) L ps i++[rresPs (pkR l L (decK L i).1) [] ps []]:=by
      unfold rvarsOf;rw [List.range_succ,List.map_append];rfl
     have hvl:(rvarsOf (pkR l L) L ps i).length=i:=by simp [rvarsOf]
     have hwi:IntKind.i64.wrap ((i:Int)+1)=((i+1:Nat):Int):=by rw [wrap64 (by omega) (by omega)];simp
     have hwL:IntKind.i64.wrap ((L.length:Int)-1)=(L.length:Int)-1:=by simp (disch:=omega) only [wrap64]
     have hLL1:((L.length:Int)<=(L.length:Int)/\(L.length:Int)<=(LLim:Int))=True:=eq_true ⟨Int.le_refl _,by unfold LLim;omega⟩
     have hrep:List.replicate L.length (V.s [])=(List.replicate L.length ([]:Bytes)).map V.s:=by simp
     have hVn:(rvarsOf (pkR l L) L ps i++[rresPs (pkR l L (decK L i).1) [] ps []]).length<=LLim:=by rw [List.length_append,hvl];unfold LLim;simp;omega
     generalize rresPs (pkR l L (decK L i).1) [] ps []=RV at *
     generalize hVSg:rvarsOf (pkR l L) L ps i=VS at *
     cases vo with
     | none=>
      have hi0:=hvo rfl
      have hvs:vS none VS=[]:=rfl
      have hsv:sv none = .nil:=rfl
      have hVS:VS=[]:=List.length_eq_zero_iff.1 (by omega)
      rw [hvs,List.nil_append,<-hLC]
      simp only [push_cast,seval,reduceEqDiff,hlt',f1,f2,f3,hsv,List.length_map,hwL,hLL1,hrep]
      intros
      rename_i b1 b2 b3 b4
      have hx:n<n+1+b1/\n+1+b1<n+1+b1+1+b2+1+b3+1+b4:=by omega
      generalize n+1+b1+1+b2+1+b3+1+b4=n3 at *
      generalize n+1+b1=x0 at *
      have g1:∀j:Nat,((x0,j)=(m1,8))=False:=fun j=>eq_false fun he=>by injection he with h1 h2;omega
      have g1':∀j:Nat,((m1,8)=(x0,j))=False:=fun j=>eq_false fun he=>of_eq_false (g1 j) he.symm
      have g2:∀j q:Nat,((x0,j)=(n0,q))=False:=fun j q=>eq_false fun he=>by injection he with h1 h2;omega
      have g2':∀j q:Nat,((n0,q)=(x0,j))=False:=fun j q=>eq_false fun he=>of_eq_false (g2 j q) he.symm
      refine rkeys_loop W0 L hL hk i (by omega) _ _ _ _ _ _ _ _ _ _ ?_
      intro n2 hn2
      generalize (decK L i).1=KS at *
      generalize (decK L i).2=KR at *
      simp only [push_cast,seval,reduceEqDiff,hlt',f1,f2,f3,hsv,List.length_map,hwL,hLL1,hrep]
      refine wkW_i (StLe.frzAt (s:=10) (id:=(x0,44)) rfl (by simp [lk,g1',g2']) (fun y hy=>by obtain ⟨z,_,rfl⟩:=List.mem_map.1 hy;rfl) (Nat.le_refl _)) ?_
      have e1:∀k j:Nat,((n2+1+k,j)=(m1,8))=False:=fun k j=>eq_false fun he=>by injection he with h1 h2;omega
      have e1':∀k j:Nat,((m1,8)=(n2+1+k,j))=False:=fun k j=>eq_false fun he=>of_eq_false (e1 k j) he.symm
      have e2:∀k j q:Nat,((n2+1+k,j)=(n0,q))=False:=fun k j q=>eq_false fun he=>by injection he with h1 h2;omega
      have e0:∀j:Nat,((n2,j)=(m1,8))=False:=fun j=>eq_false fun he=>by injection he with h1 h2;omega
      have e0':∀j:Nat,((m1,8)=(n2,j))=False:=fun j=>eq_false fun he=>of_eq_false (e0 j) he.symm
      have e3:∀j q:Nat,((n2,j)=(n0,q))=False:=fun j q=>eq_false fun he=>by injection he with h1 h2;omega
      have e4:∀j q:Nat,((n2,j)=(x0,q))=False:=fun j q=>eq_false fun he=>by injection he with h1 h2;omega
      simp only [push_cast,seval,reduceEqDiff,g1,g1',g2,g2',f3,f3',e0,e0',e1,e1',e2,e3,e4,List.length_map,hwi,eq_true (show 1<=LLim by decide)]
      repeat' (first|(((first|apply condU_s|apply gdU_t|apply gdU_f)<;>intro _h)<;>simp only [push_cast,seval,reduceEqDiff,_h,g1,g1',g2,g2',f3,f3',e0,e0',e1,e1',e2,e3,e4,List.length_map,hwi,eq_true (show 1<=LLim by decide)])|(refine c_call (by exact hres) ?_;simp only [push_cast,seval,reduceEqDiff,g1,g1',g2,g2',f3,f3',e0,e0',e1,e1',e2,e3,e4,List.length_map,hwi,eq_true (show 1<=LLim by decide)])|intro _)
      intros
      have hvs':vS (some (n2,87)) (rvarsOf (pkR l L) L ps (i+1))=[((n2,87),.arr TVs 1 [V.sl (RV.map Part.enc)])]:=by rw [hvi,hVS];rfl
      refine ⟨NN-(i+1),⟨_,[((m1,8),.box (.agg [.sl (L.map Sel.enc),.arr (n2,87)])),((n2,87),.arr TVs 1 [V.sl (RV.map Part.enc)]),((n0,4),.box (.agg [.nil,.nil])),((n0,2),.box (.agg [.s l.tag,.s l.parent,.s l.dir,.sl (l.card.map Rule.enc),.sl (l.ord.map Rule.enc),r1,r2,r3,r4,r5,r6,r7,r8,r9,r10,r11]))],_⟩,by omega,StLe.sub ?_ ?_ (Nat.le_refl _),i+1,_,some (n2,87),by omega,rfl,(fun h=>by cases h),?_,?_,by rw [hvs'];rfl⟩
      ·simp [g1,g2,e0,e3,e4,f3]
      ·intro p hp
       simp at hp⊢
       rcases hp with h|h|h|h<;>simp [h,TVs]
      ·intro id h;cases h;exact ⟨by simp only;omega,by simp only;omega⟩
      ·omega
     | some vid=>
      obtain ⟨hv1,hv2⟩:=hvi2 vid rfl
      have hsv:sv (some vid) = .arr vid:=rfl
      have hvs:vS (some vid) VS=[(vid,.arr TVs 1 (VS.map vEnc))]:=rfl
      have d1:∀k j:Nat,((n+1+k,j)=vid)=False:=fun k j=>eq_false fun he=>by rw [<-he] at hv2;simp at hv2;omega
      have d1':∀k j:Nat,(vid=(n+1+k,j))=False:=fun k j=>eq_false fun he=>of_eq_false (d1 k j) he.symm
      have d2:((m1,8)=vid)=False:=eq_false fun he=>by rw [<-he] at hv1;simp at hv1
      have d2':(vid=(m1,8))=False:=eq_false fun he=>of_eq_false d2 he.symm
      have d3:∀q:Nat,(vid=(n0,q))=False:=fun q=>eq_false fun he=>by rw [he] at hv1;simp at hv1;omega
      have d3':∀q:Nat,((n0,q)=vid)=False:=fun q=>eq_false fun he=>of_eq_false (d3 q) he.symm
      rw [hvs,<-hLC]
      simp only [push_cast,seval,reduceEqDiff,hlt',f1,f2,f3,hsv,List.length_map,hwL,hLL1,hrep,List.cons_append,List.nil_append,d1,d1',d2,d2',d3,d3']
      intros
      rename_i b1 b2 b3 b4
      have hx:n<n+1+b1/\n+1+b1<n+1+b1+1+b2+1+b3+1+b4:=by omega
      generalize n+1+b1+1+b2+1+b3+1+b4=n3 at *
      generalize n+1+b1=x0 at *
      have g1:∀j:Nat,((x0,j)=(m1,8))=False:=fun j=>eq_false fun he=>by injection he with h1 h2;omega
      have g1':∀j:Nat,((m1,8)=(x0,j))=False:=fun j=>eq_false fun he=>of_eq_false (g1 j) he.symm
      have g2:∀j q:Nat,((x0,j)=(n0,q))=False:=fun j q=>eq_false fun he=>by injection he with h1 h2;omega
      have g2':∀j q:Nat,((n0,q)=(x0,j))=False:=fun j q=>eq_false fun he=>of_eq_false (g2 j q) he.symm
      have g3:∀j:Nat,((x0,j)=vid)=False:=fun j=>eq_false fun he=>by rw [<-he] at hv2;simp at hv2;omega
      have g3':∀j:Nat,(vid=(x0,j))=False:=fun j=>eq_false fun he=>of_eq_false (g3 j) he.symm
      refine rkeys_loop W0 L hL hk i (by omega) _ _ _ _ _ _ _ _ _ _ ?_
      intro n2 hn2
      generalize (decK L i).1=KS at *
      generalize (decK L i).2=KR at *
      simp only [push_cast,seval,reduceEqDiff,hlt',f1,f2,f3,hsv,List.length_map,hwL,hLL1,hrep,List.cons_append,List.nil_append,d1,d1',d2,d2',d3,d3']
      refine wkW_i (StLe.frzAt (s:=10) (id:=(x0,44)) rfl (by simp [lk,g1',g2',g3']) (fun y hy=>by obtain ⟨z,_,rfl⟩:=List.mem_map.1 hy;rfl) (Nat.le_refl _)) ?_
      have e0:∀j:Nat,((n2,j)=(m1,8))=False:=fun j=>eq_false fun he=>by injection he with h1 h2;omega
      have e0':∀j:Nat,((m1,8)=(n2,j))=False:=fun j=>eq_false fun he=>of_eq_false (e0 j) he.symm
      have e3:∀j q:Nat,((n2,j)=(n0,q))=False:=fun j q=>eq_false fun he=>by injection he with h1 h2;omega
      have e4:∀j q:Nat,((n2,j)=(x0,q))=False:=fun j q=>eq_false fun he=>by injection he with h1 h2;omega
      have e5:∀j:Nat,((n2,j)=vid)=False:=fun j=>eq_false fun he=>by rw [<-he] at hv2;simp at hv2;omega
      have hap:List.map vEnc VS++[V.sl (RV.map Part.enc)]=(VS++[RV]).map vEnc:=by simp [vEnc]
      rw [List.length_append,List.length_cons,List.length_nil] at hVn
      simp only [push_cast,seval,reduceEqDiff,g1,g1',g2,g2',g3,g3',f3,f3',d2,d2',d3,d3',e0,e0',e3,e4,e5,List.length_map,hwi,eq_true hVn,TVs,hap]
      repeat' (first|(((first|apply condU_s|apply gdU_t|apply gdU_f)<;>intro _h)<;>simp only [push_cast,seval,reduceEqDiff,_h,g1,g1',g2,g2',g3,g3',f3,f3',d2,d2',d3,d3',e0,e0',e3,e4,e5,List.length_map,hwi,eq_true hVn,TVs,hap])|(refine c_call (by exact hres) ?_;simp only [push_cast,seval,reduceEqDiff,g1,g1',g2,g2',g3,g3',f3,f3',d2,d2',d3,d3',e0,e0',e3,e4,e5,List.length_map,hwi,eq_true hVn,TVs,hap])|intro _)
      intros
      have hvs':vS (some (n2,87)) (rvarsOf (pkR l L) L ps (i+1))=[((n2,87),.arr TVs 1 ((VS++[RV]).map vEnc))]:=by rw [hvi];rfl
      refine ⟨NN-(i+1),⟨_,[((m1,8),.box (.agg [.sl (L.map Sel.enc),.arr (n2,87)])),((n2,87),.arr TVs 1 ((VS++[RV]).map vEnc)),((n0,4),.box (.agg [.nil,.nil])),((n0,2),.box (.agg [.s l.tag,.s l.parent,.s l.dir,.sl (l.card.map Rule.enc),.sl (l.ord.map Rule.enc),r1,r2,r3,r4,r5,r6,r7,r8,r9,r10,r11]))],_⟩,by omega,StLe.sub ?_ ?_ (Nat.le_refl _),i+1,_,some (n2,87),by omega,rfl,(fun h=>by cases h),?_,?_,by rw [hvs'];rfl⟩
      ·simp [g1,g2,e0,e3,e4,f3]
      ·intro p hp
       simp at hp⊢
       rcases hp with h|h|h|h<;>simp [h,TVs]
      ·intro id h;cases h;exact ⟨by simp only;omega,by simp only;omega⟩
      ·omega
    ·have hie:i=NN:=by omega
     have hlt':decide ((i:Int)<(NN:Int))=false:=by simpa using hlt
     cases vo with
     | none=>
      have hi0:=hvo rfl
      have hV0:rvarsOf (pkR l L) L ps i=[]:=by rw [hi0];rfl
      have hvs:vS none (rvarsOf (pkR l L) L ps i)=[]:=rfl
      have hsv:sv none = .nil:=rfl
      rw [hvs,List.nil_append]
      simp only [push_cast,seval,reduceEqDiff,hlt',f3,f3',hsv]
      intros
      rw [<-hie,hV0]
      exact finForm (u:=.agg [.sl (L.map Sel.enc),.nil]) (f:=(L,[])) rfl rfl (by simp [lk,f3]) (fun _=>none) (fun _ _ h=>by cases h) (vle_form L [] none (fun _=>rfl) (fun _ h=>by cases h)) rfl rfl
     | some vid=>
      obtain ⟨hv1,hv2⟩:=hvi2 vid rfl
      have hsv:sv (some vid) = .arr vid:=rfl
      have hvs:vS (some vid) (rvarsOf (pkR l L) L ps i)=[(vid,.arr TVs 1 ((rvarsOf (pkR l L) L ps i).map vEnc))]:=rfl
      have d2:((m1,8)=vid)=False:=eq_false fun he=>by rw [<-he] at hv1;simp at hv1
      have d2':(vid=(m1,8))=False:=eq_false fun he=>of_eq_false d2 he.symm
      have d3:∀q:Nat,(vid=(n0,q))=False:=fun q=>eq_false fun he=>by rw [he] at hv1;simp at hv1;omega
      have d3':∀q:Nat,((n0,q)=vid)=False:=fun q=>eq_false fun he=>of_eq_false (d3 q) he.symm
      rw [hvs]
      simp only [push_cast,seval,reduceEqDiff,hlt',f3,f3',hsv,d2,d2',d3,d3',List.cons_append,List.nil_append]
      intros
      rw [<-hie]
      generalize rvarsOf (pkR l L) L ps i=VS at *
      refine finForm (u:=.agg [.sl (L.map Sel.enc),.arr vid]) (f:=(L,VS)) rfl rfl (by simp [lk,f3,d3]) (fun j=>if j=vid then some (VS.map vEnc) else none) (fun j es h=>?_) (vle_form L VS (some vid) (fun h=>by cases h) (fun id h=>by cases h;simp)) rfl rfl
      split at h
      ·rename_i he;subst he;cases h
       exact ⟨⟨TVs,1,by simp [lk,d2]⟩,fun he=>of_eq_false (d3 _) he⟩
      ·cases h
end Go.Ir
