/-
  Contracts: what collects the selectors, in the program: the ..
  The IR of functions of the program, printed by our own tool
  Contracts: the keys of a selector in their order, of both ..
  Contracts: the selectors of a message, in the program.
  Contracts: the selectors of a message, in the reference: ..
  Contracts: the selectors of a message, in the reference.
  Contracts: combinations, rules, add and Join, of both sides.
  Resolved messages as plain Lean data: the case that a key ..
  Contracts: the case that a key determines, of both sides.
  Contracts: resolve, of the program.
  Contracts: resolve, of the reference.
  Contracts: Flat, of the program.
  The two checks of a message agree, and what a message has ..
  What a message has that the checks accept: the cases of its ..
  How heavy resolved parts are.
  Flat forms as plain Lean data: the two sides agree.
  Contracts: Clone of cases, cloned.
  Contracts: Flat, of the reference.
  What an input reads as, as an abstract value: plain data ..
  The end of a law's proof: from the contract of the law to ..
  Inputs that are messages: every well-formed slice of parts ..
  Inputs that are locales: their rules, and the rest.
  Contracts: SameForm of a form with itself, formOf.
  Contracts: leaves, of the program
  Contracts: leaves and Leaves, of the program.
-/
import Derived.Test.YtgkmbjojkihbmaaGreatDoorEac
import Derived.Test.YtgkmbjojkihbmaaGreatDoorRows
import Derived.ChangeArms
import Derived.Carry
import Derived.ChangeSame
import Derived.OpenShut
import Derived.Test.YtgkmbjojkihbmaaGreatDoorChecked
set_option linter.all false
set_option linter.defProp false
set_option linter.unusedSimpArgs false
set_option linter.unusedVariables false
open Nat (reduceEqDiff)
namespace Go.Ir
open Go.Proofs
variable (W0 : World)
theorem idxI_lt {α:Type} (p:α->Bool) (l:List α):idxI p l<l.length:=by
 induction l with
 | nil=>simp [idxI]
 | cons x l ih=>
  simp only [idxI,List.length_cons]
  cases p x
  ·simp only [cond_false]
   split<;>omega
  ·simp only [cond_true];omega
theorem isA_arr' (id:Id):isA (V.arr id)=false:=rfl
theorem collCs_w (cs:List Case) (j:Nat) (l:List Sel):selW (collCs cs j l)<=selW l+wtCs cs:=by
 induction cs generalizing l with
 | nil=>simp [collCs]
 | cons c cs ih=>
  rw [collCs_cons,wtCs_cons]
  have h1:=collPs_w c.2 (l.modify j (addKey c.1));have h2:=ih (collPs c.2 (l.modify j (addKey c.1)));have h3:=selW_mod l j c.1;omega
theorem ColO.add {cid:Id} {lo:Option Id} {L:List OS} {n n':Nat} {id:Id} (h:ColO cid lo L n) (hi:n<=id.1) (hi':id.1<n') (k:Int) (nm:Bytes):ColO cid (some id) (L++[(⟨k,nm,[]⟩,none)]) n':=by
 refine ⟨h.toSelO.add hi hi' k nm,by have:=h.c_lt;omega,fun p hp he=>?_⟩
 rw [selS_some,ossE_app] at hp
 rcases List.mem_cons.1 hp with rfl|hp
 ·have:=h.c_lt;simp only at he;rw [he] at hi;omega
 ·have hp2:p∈ossE L:=by simpa [ossE,osE] using hp
  exact h.c_ne p (List.mem_append_right _ hp2) he
theorem FreshS.add {lo:Option Id} {L:List OS} {n:Nat} {id:Id} (hi:n<=id.1) (k:Int) (nm:Bytes):FreshS n lo L (some id) (L++[(⟨k,nm,[]⟩,none)]):=by
 intro p hp
 rw [selS_some,ossE_app] at hp
 rcases List.mem_cons.1 hp with rfl|hp
 ·exact .inl hi
 ·have hp2:p∈ossE L:=by simpa [ossE,osE] using hp
  exact .inr (List.mem_map.2 ⟨p,List.mem_append_right _ hp2,rfl⟩)
set_option maxHeartbeats 4000000 in
theorem c_walk:∀(N:Nat) (ps:List Part) (cid:Id) (lo0:Option Id) (L0:List OS) (n1:Nat),wtPs ps<N->selW (L0.map (·.1))+wtPs ps<=2^26->ColO cid lo0 L0 n1->
  RetE Tryz.prog W0 91 [.ref cid 0,.sl (ps.map Part.enc)] (colS cid lo0 L0) (WalkR cid lo0 L0 (collPs ps (L0.map (·.1)))):=by
 intro N
 induction N with
 | zero=>intro ps cid lo0 L0 n1 h;omega
 | succ N ih=>
 intro ps cid lo0 L0 n1 hN hb hok0
 have hlen:=len_wtPs ps
 generalize hS:collPs ps (L0.map (·.1))=S
 refine fn_retEW f91ok (by simp) fun n0 hn0=>?_
 have hok:ColO cid lo0 L0 n0:=by
  have hl:∀p∈colS cid lo0 L0,p.1.1<n0:=fun p hp=>hn0 p.1 p.2 (mem_lk_of hok0.nd' hp)
  exact ⟨⟨hok0.nd,fun p hp=>hl p (List.mem_cons_of_mem _ hp),hok0.ne,hok0.kn⟩,hl _ (List.mem_cons_self),hok0.c_ne⟩
 clear hn0 hok0
 simp only [push_cast,seval,reduceEqDiff]
 intro k1
 refine aWP_loopW ps.length (Inv:=fun m st=>∃done rest n lo L,ps=done++rest/\m=rest.length/\collPs rest (L.map (·.1))=S/\selW (L.map (·.1))+wtPs rest<=2^26/\ColO cid lo L n/\n0<=n/\FreshS n0 lo0 L0 lo L/\st=⟨[(0,.ref cid 0),(9,.sl (ps.map Part.enc)),(10,.i .i64 ps.length),(11,.i .i64 done.length)],colS cid lo L,n⟩) ⟨_,StLe.refl,[],ps,_,lo0,L0,rfl,rfl,hS,hb,?_,?_,?_,rfl⟩ ?_
 ·exact hok.more (by omega)
 ·omega
 ·exact FreshS.refl _ _ _
 clear hS hok
 rintro m _ ⟨done,rest,n,lo,L,hz,rfl,hd,hw,hok,hn0,hfr,rfl⟩
 cases rest with
 | nil=>
  rw [collPs] at hd
  simp only [push_cast,seval,reduceEqDiff,hz]
  intro k2
  exact ⟨_,StLe.refl,[],_,trivial,fun _ _ h=>h,rfl,lo,L,rfl,hok.more (by simp only;omega),hd,hfr⟩
 | cons p rest=>
  have hbd:=zip_bd hz
  have hwp:=wtPs_mem (ps:=ps) (p:=p) (by rw [hz];simp)
  rw [wtPs_cons] at hw
  have hpw:=p.wt_eq
  rw [collPs_cons,p.coll_eq] at hd
  simp only [push_cast,seval,reduceEqDiff,hz,wrap_zip p (done:=done) (by omega)]
  intro k2 k3 k4
  refine c_callx (ih p.parts cid lo L n (by omega) (by omega) hok) (fun i e h=>lk_drop1 (lk_none_of fun q hq he=>?_) i e h) (fun n2 v σo hle hR=>?_)
  ·have:=hok.lt' q hq;rw [he] at this;simp at this;omega
  obtain ⟨rfl,lo1,L1,rfl,hok1,hm1,hf1⟩:=hR
  have hx1:∀q∈colS cid lo1 L1,q.1≠(n+1+k2,5):=fresh_ne hok (by simp;omega) (by simp;omega) hf1
  have hcall:=collPs_w p.parts (L.map (·.1))
  rw [<-hm1] at hcall hd
  have hfr1:=hfr.trans hf1 (by omega)
  have hn1:n0<=n2:=by omega
  clear hfr hf1 hm1
  have hxo:∀X:Ent,∀q∈[((n+1+k2,5),X)],∀r∈colS cid lo L,q.1≠r.1:=by
   intro X q hq r hr he
   simp at hq;subst hq
   have:=hok.lt' r hr;rw [<-he] at this;simp at this;omega
  rw [show ∀a:Id × Ent,a::colS cid lo L=[a]++colS cid lo L from fun _=>rfl,over_pre (hxo _)]
  clear hxo hok
  simp only [push_cast,seval,reduceEqDiff,hz,wrap_zip p (done:=done) (by omega)]
  intro k5
  have hndx:∀X:Ent,((colS cid lo1 L1++[((n+1+k2,5),X)]).map (fun q:Id × Ent=>q.1)).Nodup:=fun X=>nd_snoc hok1.nd' hx1
  refine wkW_i (StLe.sub (hndx _) (σ':=[_]++colS cid lo1 L1) (fun q hq=>by rcases List.mem_append.1 hq with h|h;exact List.mem_append_right _ h;exact List.mem_append_left _ h) (Nat.le_refl _)) ?_
  have hx0:n+1+k2<n2:=by omega
  clear hndx hle
  generalize n+1+k2=x0 at *
  have hok1:=hok1.more (show n2<=n2+1+k5 by omega)
  generalize hn3:n2+1+k5=n3 at *
  have hsel:=c_sSel W0 p.kind
  have hLl:=len_selW (L1.map (·.1))
  rw [List.length_map] at hLl
  rcases Bool.eq_false_or_eq_true (selB p.kind) with hs|hs
  rotate_left
  ·rw [hs] at hd hsel
   simp only [bq,if_true,if_false,Int.reduceBEq,reduceCtorEq] at hd
   simp only [push_cast,seval,reduceEqDiff,hz,wrap_zip p (done:=done) (by omega)]
   repeat' (first|(((first|apply condU_s|apply gdU_t|apply gdU_f)<;>intro _h)<;>simp only [push_cast,seval,reduceEqDiff,_h,hz,wrap_zip p (done:=done) (by omega)])|(refine c_call (by exact hsel) ?_;simp only [push_cast,seval,reduceEqDiff,hz,wrap_zip p (done:=done) (by omega)])|intro _)
   exact ⟨_,_,Nat.lt_succ_self _,StLe.drop1 (lk_none_of hx1) (Nat.le_refl _),done++[p],rest,_,lo1,L1,by simp,rfl,hd,by omega,hok1.more (by omega),by omega,hfr1,rfl⟩
  ·rw [hs] at hd hsel
   simp only [bq,if_true,if_false,Int.reduceBEq,reduceCtorEq] at hd
   have hfi:RetS Tryz.prog W0 133 [.ref cid 0,.i .i64 p.kind,.s p.name] ((cid,.box (.agg [sv lo1]))::slE TS lo1 L1) (.i .i64 (findI (L1.map (·.1)) p.kind p.name)) ((cid,.box (.agg [sv lo1]))::slE TS lo1 L1):=c_find W0 p.kind p.name cid lo1 L1 (by omega) hok1.ne (fun id h he=>by subst h;exact hok1.c_ne (id,.arr TS 3 (L1.map osV)) (by simp [selS_some]) he)
   have hsub:∀X:Ent,∀i e,lk ((cid,.box (.agg [sv lo1]))::slE TS lo1 L1) i=some e->lk (((x0,5),X)::colS cid lo1 L1) i=some e:=by
    intro X i e h
    exact lk_drop1 (lk_none_of hx1) i e (lk_app_left (τ:=ossE L1) h)
   have hov:∀X:Ent,over ((cid,.box (.agg [sv lo1]))::slE TS lo1 L1) ((cid,.box (.agg [sv lo1]))::slE TS lo1 L1) (((x0,5),X)::colS cid lo1 L1)=((cid,.box (.agg [sv lo1]))::slE TS lo1 L1)++(((x0,5),X)::ossE L1):=by
    intro X
    have hnn:=nd_app_inv (σ:=(cid,.box (.agg [sv lo1]))::slE TS lo1 L1) (τ:=ossE L1) hok1.nd'
    exact over_mid (pre:=[((x0,5),X)]) (post:=ossE L1) (fun q hq r hr he=>by simp at hq;subst hq;exact hx1 r (List.mem_append_left (ossE L1) hr) he.symm) (fun q hq r hr he=>hnn.2.2 r hr q hq he.symm)
   generalize hfI:findI (L1.map (·.1)) p.kind p.name=FI at *
   simp only [push_cast,seval,reduceEqDiff,hz,wrap_zip p (done:=done) (by omega)]
   repeat' (first|(((first|apply condU_s|apply gdU_t|apply gdU_f)<;>intro _h)<;>simp only [push_cast,seval,reduceEqDiff,_h,hz,wrap_zip p (done:=done) (by omega)])|(refine c_call (by exact hsel) ?_;simp only [push_cast,seval,reduceEqDiff,hz,wrap_zip p (done:=done) (by omega)])|intro _)
   rename_i k5'
   refine c_calls hfi (hsub _) ?_
   rw [hov]
   clear hov hsub
   have fcx:(cid=(x0,5))=False:=eq_false (hx1 (cid,.box (.agg [sv lo1])) (by simp [colS]))
   have fxc:((x0,5)=cid)=False:=eq_false fun he=>of_eq_false fcx he.symm
   have hxo:∀q∈ossE L1,q.1≠(x0,5):=fun q hq=>hx1 q (List.mem_cons_of_mem _ (List.mem_append_right _ hq))
   have hck:∀q∈ossE L1,q.1≠cid:=fun q hq=>hok1.c_ne q (List.mem_append_right _ hq)
   have hcn3:=hok1.c_lt
   have f47:∀a b c d,((n3+1+a+1+b+1+c+1+d,47)=cid)=False:=fun a b c d=>eq_false fun he=>by rw [<-he] at hcn3;simp at hcn3;omega
   have hFI:=idxI_lo (selIs p.kind p.name) (L1.map (·.1))
   cases lo1 with
   | none=>
    have hL1:=hok1.ne rfl
    subst hL1
    simp only [slE,sv,ossE,List.flatMap_nil,List.append_nil,List.cons_append,List.nil_append]
    have hFI0:FI = -1:=by rw [<-hfI];rfl
    subst hFI0
    simp only [push_cast,seval,reduceEqDiff,hz,fcx,fxc,f47,isA_arr',show (decide True)=true from rfl,eq_true (show 1<=LLim by decide)]
    intro k6 k7 k8 k9 k10
    have hsat:selAt (([]:List OS).map (·.1)) p.kind p.name=0:=rfl
    rw [hsat] at hd
    obtain ⟨L1,hL1⟩:∃L1:List OS,L1=[]:=⟨[],rfl⟩
    obtain ⟨L2,hL2⟩:∃L2,L2=L1++[((⟨p.kind,p.name,[]⟩:Sel),none)]:=⟨_,rfl⟩
    have hmap:L2.map (·.1)=selAdd (L1.map (·.1)) p.kind p.name:=by rw [hL2,hL1];rfl
    rw [<-hL1] at hd hfr1 hok1 hcall
    obtain ⟨ni,hni⟩:∃ni,ni=n3+1+k5'+1+k6+1+k7+1+k8:=⟨_,rfl⟩
    have hok2:ColO cid (some (ni,47)) L2 (ni+1):=by rw [hL2];exact hok1.add (by simp;omega) (by simp) _ _
    have hfr2:FreshS n3 none L1 (some (ni,47)) L2:=by rw [hL2];exact FreshS.add (by simp;omega) _ _
    have hj2:0<L2.length:=by rw [hL2];simp
    rw [<-hni]
    refine loopW_le (StLe.sub (nd_cons (nd_cons (nd_cons (by simp) (by simp)) (fun q hq=>by simp at hq;subst hq;exact of_eq_false fxc)) (fun q hq=>by simp at hq;rcases hq with rfl|rfl;exact fun he=>of_eq_false (f47 k5' k6 k7 k8) (by rw [<-hni];exact he.symm);simp)) (σ':=colS cid (some (ni,47)) L2) (fun q hq=>?_) (Nat.le_refl _)) (walk_cs W0 p.cases cid 0 (ni,47) L2 _ _ _ _ _ (fun x hx lo L n1 h1 h2=>ih x.2 cid lo L n1 (by have:=wtCs_mem hx;omega) h1 h2) (by rw [hmap];have:=selW_add (L1.map (·.1)) p.kind p.name;omega) (hok2.more (by omega)) hj2 ?_)
    ·have hE2:ossE L2=[]:=by rw [hL2,hL1];rfl
     have hV2:L2.map osV=[V.agg [.i .i64 p.kind,.s p.name,.nil]]:=by rw [hL2,hL1];rfl
     simp only [colS,selS_some,hE2,hV2,sv,List.mem_cons,List.not_mem_nil,or_false] at hq⊢
     rcases hq with h|h
     ·exact .inr (.inl h)
     ·exact .inl h
    ·intro lid3 L3 n5 hm3 hok3 hn5 hf3
     rw [hmap] at hm3
     have hcw:=collCs_w p.cases 0 (selAdd (L1.map (·.1)) p.kind p.name)
     rw [<-hm3] at hcw hd
     have hw2:=selW_add (L1.map (·.1)) p.kind p.name
     simp only [push_cast,seval,reduceEqDiff,hz,wrap_zip p (done:=done) (by omega)]
     intros
     exact ⟨_,_,Nat.lt_succ_self _,StLe.refl,done++[p],rest,_,some lid3,L3,by simp,rfl,hd,by omega,hok3.more (by omega),by omega,(hfr1.trans hfr2 (by omega)).trans hf3 (by omega),rfl⟩
   | some lid=>
    obtain ⟨l1,l2,l3,l4⟩:=hok1.toSelO.arr
    have fcl:(cid=lid)=False:=eq_false fun he=>hok1.c_ne (lid,.arr TS 3 (L1.map osV)) (by simp [selS_some]) he.symm
    have flc:(lid=cid)=False:=eq_false fun he=>of_eq_false fcl he.symm
    have flx:(lid=(x0,5))=False:=eq_false (hx1 (lid,.arr TS 3 (L1.map osV)) (by simp [colS,selS_some]))
    have fxl:((x0,5)=lid)=False:=eq_false fun he=>of_eq_false flx he.symm
    have hdl:=del_none l2
    simp only [slE,sv,List.cons_append,List.nil_append]
    by_cases hneg:FI<0
    ·have hneg':decide (FI<0)=true:=by simpa using hneg
     have hll:L1.length+1<=LLim:=by unfold LLim;omega
     have hsat:selAt (L1.map (·.1)) p.kind p.name=L1.length:=by unfold selAt;rw [hfI,if_pos hneg,List.length_map]
     rw [hsat] at hd
     have hnv:List.map osV L1++[V.agg [V.i .i64 p.kind,.s p.name,.nil]]=List.map osV (L1++[((⟨p.kind,p.name,[]⟩:Sel),none)]):=by simp [osV,sv]
     simp only [push_cast,seval,reduceEqDiff,hz,fcx,fxc,fcl,flc,flx,fxl,f47,isA_arr',hdl,hneg',eq_true hll,TS,List.length_map,hnv]
     intro k6 k7 k8 k9 k10
     obtain ⟨L2,hL2⟩:∃L2,L2=L1++[((⟨p.kind,p.name,[]⟩:Sel),none)]:=⟨_,rfl⟩
     have hmap:L2.map (·.1)=selAdd (L1.map (·.1)) p.kind p.name:=by rw [hL2];unfold selAdd;rw [hfI,if_pos hneg];simp
     obtain ⟨ni,hni⟩:∃ni,ni=n3+1+k5'+1+k6+1+k7+1+k8:=⟨_,rfl⟩
     have hok2:ColO cid (some (ni,47)) L2 (ni+1):=by rw [hL2];exact hok1.add (by simp;omega) (by simp) _ _
     have hfr2:FreshS n3 (some lid) L1 (some (ni,47)) L2:=by rw [hL2];exact FreshS.add (by simp;omega) _ _
     have hj2:L1.length<L2.length:=by rw [hL2];simp
     rw [<-hni,<-hL2]
     have hE2:ossE L2=ossE L1:=by rw [hL2,ossE_app];simp [ossE,osE]
     refine loopW_le (StLe.sub (nd_cons (nd_cons (nd_cons l4 hxo) (fun q hq=>by
           rcases List.mem_cons.1 hq with rfl|hq
           ·exact of_eq_false fxc
           ·exact hck q hq)) (fun q hq=>by
           rcases List.mem_cons.1 hq with rfl|hq
           ·exact fun he=>of_eq_false (f47 k5' k6 k7 k8) (by rw [<-hni];exact he.symm)
           ·rcases List.mem_cons.1 hq with rfl|hq
            ·simp
            ·intro he;have:=l3 q hq;rw [he] at this;simp at this;omega)) (σ':=colS cid (some (ni,47)) L2) (fun q hq=>?_) (Nat.le_refl _)) (walk_cs W0 p.cases cid L1.length (ni,47) L2 _ _ _ _ _ (fun x hx lo L n1 h1 h2=>ih x.2 cid lo L n1 (by have:=wtCs_mem hx;omega) h1 h2) (by rw [hmap];have:=selW_add (L1.map (·.1)) p.kind p.name;omega) (hok2.more (by omega)) hj2 ?_)
     ·simp only [colS,selS_some,hE2,sv,List.mem_cons] at hq⊢
      rcases hq with h|h|h
      ·exact .inr (.inl h)
      ·exact .inl h
      ·exact .inr (.inr (.inr h))
     ·intro lid3 L3 n5 hm3 hok3 hn5 hf3
      rw [hmap] at hm3
      have hcw:=collCs_w p.cases L1.length (selAdd (L1.map (·.1)) p.kind p.name)
      rw [<-hm3] at hcw hd
      have hw2:=selW_add (L1.map (·.1)) p.kind p.name
      simp only [push_cast,seval,reduceEqDiff,hz,wrap_zip p (done:=done) (by omega)]
      intros
      exact ⟨_,_,Nat.lt_succ_self _,StLe.refl,done++[p],rest,_,some lid3,L3,by simp,rfl,hd,by omega,hok3.more (by omega),by omega,(hfr1.trans hfr2 (by omega)).trans hf3 (by omega),rfl⟩
    ·obtain ⟨j,hj⟩:∃j:Nat,FI=j:=⟨FI.toNat,by omega⟩
     subst hj
     have hneg':decide ((j:Int)<0)=false:=by simpa using hneg
     have hsat:selAt (L1.map (·.1)) p.kind p.name=j:=by unfold selAt;rw [hfI,if_neg hneg];simp
     rw [hsat] at hd
     simp only [push_cast,seval,reduceEqDiff,hz,fcx,fxc,fcl,flc,flx,fxl,hdl,hneg',TS,List.length_map]
     intro k6 k7 k8
     obtain ⟨L2,hL2⟩:∃L2,L2=L1:=⟨_,rfl⟩
     have hmap:L2.map (·.1)=selAdd (L1.map (·.1)) p.kind p.name:=by rw [hL2];unfold selAdd;rw [hfI,if_neg hneg]
     have hok2:ColO cid (some lid) L2 n3:=by rw [hL2];exact hok1
     have hfr2:FreshS n3 (some lid) L1 (some lid) L2:=by rw [hL2];exact FreshS.refl _ _ _
     have hj2:j<L2.length:=by
      have:=idxI_lt (selIs p.kind p.name) (L1.map (·.1))
      unfold findI at hfI
      rw [hfI,List.length_map] at this
      rw [hL2];omega
     have l4':((ossE L2).map (·.1)).Nodup:=by rw [hL2];exact l4
     have hxo':∀q∈ossE L2,q.1≠(x0,5):=by rw [hL2];exact hxo
     have l2':∀q∈ossE L2,q.1≠lid:=by rw [hL2];exact l2
     have hck':∀q∈ossE L2,q.1≠cid:=by rw [hL2];exact hck
     have hnd4:∀X Y Z:Ent,(([(cid,X),(lid,Y),((x0,5),Z)]++ossE L2).map (fun q:Id × Ent=>q.1)).Nodup:=fun X Y Z=>
      nd_cons (a:=(cid,X)) (nd_cons (a:=(lid,Y)) (nd_cons (a:=((x0,5),Z)) l4' hxo') (fun q hq=>by
       rcases List.mem_cons.1 hq with rfl|hq
       ·exact of_eq_false fxl
       ·exact l2' q hq)) (fun q hq=>by
       rcases List.mem_cons.1 hq with rfl|hq
       ·exact of_eq_false flc
       ·rcases List.mem_cons.1 hq with rfl|hq
        ·exact of_eq_false fxc
        ·exact hck' q hq)
     rw [<-hL2]
     refine loopW_le (StLe.sub (hnd4 _ _ _) (σ':=colS cid (some lid) L2) (fun q hq=>?_) (Nat.le_refl _)) (walk_cs W0 p.cases cid j lid L2 _ _ _ _ _ (fun x hx lo L n1 h1 h2=>ih x.2 cid lo L n1 (by have:=wtCs_mem hx;omega) h1 h2) (by rw [hmap];have:=selW_add (L1.map (·.1)) p.kind p.name;omega) (hok2.more (by omega)) hj2 ?_)
     ·simp only [colS,selS_some,sv,List.mem_cons] at hq⊢
      rcases hq with h|h|h
      ·exact .inl h
      ·exact .inr (.inl h)
      ·exact .inr (.inr (.inr h))
     ·intro lid3 L3 n5 hm3 hok3 hn5 hf3
      rw [hmap] at hm3
      have hcw:=collCs_w p.cases j (selAdd (L1.map (·.1)) p.kind p.name)
      rw [<-hm3] at hcw hd
      have hw2:=selW_add (L1.map (·.1)) p.kind p.name
      simp only [push_cast,seval,reduceEqDiff,hz,wrap_zip p (done:=done) (by omega)]
      intros
      exact ⟨_,_,Nat.lt_succ_self _,StLe.refl,done++[p],rest,_,some lid3,L3,by simp,rfl,hd,by omega,hok3.more (by omega),by omega,(hfr1.trans hfr2 (by omega)).trans hf3 (by omega),rfl⟩
end Go.Ir
namespace Go.Ir
open Go.Proofs
variable {P : Program} {W0 : World} {nt n : Nat} {Q : Exit → St → Prop} {env : Env} {σ : Sto}
def f70_0:IC:=.seq (.ops [o1 4 (.mv (.c (.b false)))] [0,1] []) (.seq (.ops [m1 5 0,m1 6 1,o1 7 (.call 115 [.t 5,.t 6]),m1 4 7] [4] []) .ret)
@[push_cast]def f70R:List R:=[.t 4]
@[push_cast]def f70e:=aWu f70_0.eq_1
theorem f70ok:okFn Tryz.prog 70 8 f70_0 f70R=true:=by kernel_rfl
def f115_2:IC:=.seq (.ops [m1 5 0,o1 6 (.lenS (.t 5)),m1 7 1,o1 8 (.lenS (.t 7)),o1 9 (.bin .geq (.t 6) (.t 8)),m1 10 9,⟨some 11,.mv (.t 0),some (10,true),[]⟩,⟨some 12,.mv (.t 1),some (10,true),[]⟩,⟨some 13,.lenS (.t 12),some (10,true),[]⟩,⟨some 14,.slS (.t 11) none (some (.t 13)),some (10,true),[]⟩,⟨some 15,.mv (.t 1),some (10,true),[]⟩,⟨some 16,.bin .eql (.t 14) (.t 15),some (10,true),[]⟩,o1 17 (.pick (.t 10) (.t 16) (.c (.b false))),m1 4 17] [4] []) .ret
def f115_0:IC:=.seq (.ops [o1 4 (.mv (.c (.b false)))] [0,1] []) f115_2
@[push_cast]def f115R:List R:=[.t 4]
@[push_cast]def f115e:=aWv f115_2.eq_1<|aWu f115_0.eq_1
theorem f115ok:okFn Tryz.prog 115 18 f115_0 f115R=true:=by kernel_rfl
def f110_5:IC:=.cond (.t 6) (.seq (.ops [o1 7 (.faddr (.t 2) 4),o1 8 (.load (.t 7) 1 false),m1 4 8] [4] []) .ret) .skip
def f110_2:IC:=.seq (.seq (.ops [m1 5 1,o1 6 (.bin .eql (.t 5) (ci 8))] [2,6] []) f110_5) (.seq (.ops [o1 9 (.faddr (.t 2) 3),o1 10 (.load (.t 9) 1 false),m1 4 10] [4] []) .ret)
def f110_0:IC:=.seq (.ops [o1 2 (.box (.t 0)),o1 4 (.mv (.c .nil))] [1,2] []) f110_2
@[push_cast]def f110R:List R:=[.t 4]
@[push_cast]def f110e:=aWv f110_5.eq_1<|aWv f110_2.eq_1<|aWu f110_0.eq_1
theorem f110ok:okFn Tryz.prog 110 11 f110_0 f110R=true:=by kernel_rfl
def f99_12:IC:=.seq (.ops [o1 33 (.load (.t 3) 16 true),o1 34 (.faddr (.t 4) 0),o1 35 (.load (.t 34) 1 false),o1 36 (.call 110 [.t 33,.t 35]),m1 37 9,o1 38 (.call 109 [.t 36,.t 37]),m1 32 38,o1 39 (.ext (.t 32) 0),o1 40 (.ext (.t 32) 1),m1 11 39,m1 12 40] [4,7,11] []) (.ops [m1 41 7,m1 42 11,o1 43 (.callvs (.t 41) [.t 42]),m1 8 43] [4,7,8] [])
def f99_9:IC:=.seq (.ops [m1 22 8,o1 23 (.bin .lss (.t 22) (ci 0)),m1 24 23,⟨some 25,.mv (.t 10),some (24,true),[]⟩,o1 26 (.pick (.t 24) (.t 25) (.c (.b false))),m1 27 26,⟨some 28,.faddr (.t 4) 0,some (27,true),[]⟩,⟨some 29,.load (.t 28) 1 false,some (27,true),[]⟩,⟨some 30,.bin .neq (.t 29) (ci 9),some (27,true),[]⟩,o1 31 (.pick (.t 27) (.t 30) (.c (.b false)))] [3,4,7,8,9,31] []) (.cond (.t 31) f99_12 .skip)
def f99_18:IC:=.cond (.t 45) (.ops [m1 46 7,o1 47 (.callvs (.t 46) [(.c (.s [111,116,104,101,114]))]),m1 8 47] [4,8] []) .skip
def f99_20:IC:=.seq (.ops [o1 48 (.faddr (.t 4) 4),o1 49 (.load (.t 48) 1 false),m1 50 8,o1 51 (.iaddr (.t 49) (.t 50) 78 2),o1 52 (.faddr (.t 51) 1),o1 53 (.load (.t 52) 1 false),m1 6 53] [6] []) .ret
def f99_6:IC:=.seq (.seq (.ops [m1 18 2,o1 19 (.call 73 [.t 18,(.c (.s [61]))]),m1 17 19,o1 20 (.ext (.t 17) 0),o1 21 (.ext (.t 17) 1),m1 9 20,m1 10 21] [3,4,7,8,9,10] []) f99_9) (.seq (.seq (.ops [m1 44 8,o1 45 (.bin .lss (.t 44) (ci 0))] [4,7,8,45] []) f99_18) f99_20)
def f99_2:IC:=.seq (.ops [o1 13 (.mkfn 140 [] [.t 4]),m1 7 13] [2,3,4,7] []) (.seq (.ops [m1 14 7,m1 15 2,o1 16 (.callvs (.t 14) [.t 15]),m1 8 16] [2,3,4,7,8] []) f99_6)
def f99_0:IC:=.seq (.ops [o1 3 (.box (.t 0)),o1 4 (.box (.t 1)),o1 6 (.mv (.c .nil))] [2,3,4] []) f99_2
@[push_cast]def f99R:List R:=[.t 6]
@[push_cast]def f99e:=aWv f99_12.eq_1<|aWv f99_9.eq_1<|aWv f99_18.eq_1<|aWv f99_20.eq_1<|aWv f99_6.eq_1<|aWv f99_2.eq_1<|aWu f99_0.eq_1
theorem f99ok:okFn Tryz.prog 99 54 f99_0 f99R=true:=by kernel_rfl
def f140_2:IC:=.seq (.ops [o1 4 (.faddr (.t 1) 4),o1 5 (.load (.t 4) 1 false),o1 6 (.mkfn 142 [] [.t 2]),o1 7 (.callr 141 [.t 5,.t 6]),m1 3 7] [3] []) .ret
def f140_0:IC:=.seq (.ops [o1 2 (.box (.t 0)),o1 3 (.mv (ci 0))] [1,2] []) f140_2
@[push_cast]def f140R:List R:=[.t 3]
@[push_cast]def f140e:=aWv f140_2.eq_1<|aWu f140_0.eq_1
theorem f140ok:okFn Tryz.prog 140 8 f140_0 f140R=true:=by kernel_rfl
def f142_2:IC:=.seq (.ops [o1 4 (.faddr (.t 2) 0),o1 5 (.load (.t 4) 1 false),o1 6 (.load (.t 1) 1 false),o1 7 (.bin .eql (.t 5) (.t 6)),m1 3 7] [3] []) .ret
def f142_0:IC:=.seq (.ops [o1 2 (.box (.t 0)),o1 3 (.mv (.c (.b false)))] [1,2] []) f142_2
@[push_cast]def f142R:List R:=[.t 3]
@[push_cast]def f142e:=aWv f142_2.eq_1<|aWu f142_0.eq_1
theorem f142ok:okFn Tryz.prog 142 8 f142_0 f142R=true:=by kernel_rfl
def f100_8:IC:=.seq (.ops [m1 24 0,m1 25 5,o1 26 (.bin .sub (.t 25) (ci 1)),o1 27 (.iaddr (.t 24) (.t 26) 43 6),o1 28 (.faddr (.t 27) 1),o1 29 (.load (.t 28) 1 false),o1 30 (.faddr (.t 3) 1),o1 31 (.load (.t 30) 1 false),o1 32 (.bin .add (.t 29) (.t 31)),o1 33 (.iaddr (.t 24) (.t 26) 43 6),o1 34 (.faddr (.t 33) 1),o0 (.store (.t 34) (.t 32) 1)] [0] [[1,2],[0,3],[2,3],[3,4],[4,5],[6,7],[5,8],[7,8],[0,9],[2,9],[9,10],[3,11],[5,11],[7,11],[8,11],[9,10,11],[10,11]]) (.seq (.ops [m1 35 0,m1 4 35] [4] []) .ret)
def f100_5:IC:=.seq (.ops [m1 8 5,o1 9 (.bin .gtr (.t 8) (ci 0)),m1 10 9,⟨some 11,.faddr (.t 3) 0,some (10,true),[]⟩,⟨some 12,.load (.t 11) 1 false,some (10,true),[]⟩,⟨some 13,.bin .eql (.t 12) (ci 1),some (10,true),[]⟩,o1 14 (.pick (.t 10) (.t 13) (.c (.b false))),m1 15 14,⟨some 16,.mv (.t 0),some (15,true),[]⟩,⟨some 17,.mv (.t 5),some (15,true),[]⟩,⟨some 18,.bin .sub (.t 17) (ci 1),some (15,true),[]⟩,⟨some 19,.iaddr (.t 16) (.t 18) 43 6,some (15,true),[]⟩,⟨some 20,.faddr (.t 19) 0,some (15,true),[]⟩,⟨some 21,.load (.t 20) 1 false,some (15,true),[]⟩,⟨some 22,.bin .eql (.t 21) (ci 1),some (15,true),[]⟩,o1 23 (.pick (.t 15) (.t 22) (.c (.b false)))] [0,3,5,23] []) (.cond (.t 23) f100_8 .skip)
def f100_12:IC:=.seq (.ops [m1 36 0,o1 37 (.load (.t 3) 6 true),o1 38 (.msl false 43 6 [.t 37]),o1 39 (.app (.t 36) (.t 38) 43 6),m1 4 39] [4] []) .ret
def f100_0:IC:=.seq (.ops [o1 3 (.box (.t 1)),o1 4 (.mv (.c .nil))] [0,3] []) (.seq (.seq (.ops [m1 6 0,o1 7 (.lenL (.t 6)),m1 5 7] [0,3,5] []) f100_5) f100_12)
@[push_cast]def f100R:List R:=[.t 4]
@[push_cast]def f100e:=aWv f100_8.eq_1<|aWv f100_5.eq_1<|aWv f100_12.eq_1<|aWu f100_0.eq_1
theorem f100ok:okFn Tryz.prog 100 40 f100_0 f100R=true:=by kernel_rfl
def f18_6:IC:=.seq (.ops [o1 16 (.build [.nil,.nil] []),o0 (.store (.t 4) (.t 16) 2),o1 5 (.mv (ci 1))] [4,5] []) .ret
def f18_16:IC:=.seq (.ops [o1 25 (.build [.nil,.nil] []),o0 (.store (.t 4) (.t 25) 2),o1 5 (.mv (ci 6))] [4,5] []) .ret
def f18_22:IC:=.seq (.ops [o1 36 (.build [.nil,.nil] []),o0 (.store (.t 4) (.t 36) 2),o1 5 (.mv (ci 18))] [4,5] []) .ret
def f18_56:IC:=.ops [m1 78 10,m1 79 12,o1 80 (.lenL (.t 79)),o1 81 (.bin .quo (.t 78) (.t 80)),m1 10 81] [1,2,4,6,9,10,11,37,38] []
def f18_54:IC:=.seq (.ops [m1 65 9,o1 66 (.nilck (.t 65)),o1 67 (.faddr (.t 66) 17),o1 68 (.load (.t 67) 1 false),m1 69 11,m1 70 12,m1 71 10,m1 72 12,o1 73 (.lenL (.t 72)),o1 74 (.bin .rem (.t 71) (.t 73)),o1 75 (.iaddr (.t 70) (.t 74) 9 1),o1 76 (.load (.t 75) 1 false),o1 77 (.iaddr (.t 68) (.t 69) 9 1),o0 (.store (.t 77) (.t 76) 1)] [1,2,4,6,9,10,11,12,37,38] [[0,1],[1,2],[2,3],[7,8],[6,9],[8,9],[5,10],[9,10],[10,11],[3,12],[4,12],[3,13],[8,13],[10,13],[11,13],[12,13]]) f18_56
def f18_50:IC:=.seq (.block 3 (.seq (.ops [o1 59 (.faddr (.t 6) 0),o1 60 (.load (.t 59) 1 false),m1 61 11,o1 62 (.iaddr (.t 60) (.t 61) 96 3),o1 63 (.faddr (.t 62) 2),o1 64 (.load (.t 63) 1 false),m1 12 64] [1,2,4,6,9,10,11,12,37,38] []) f18_54)) (.ops [m1 57 11,o1 58 (.bin .sub (.t 57) (ci 1)),m1 11 58] [1,2,4,6,9,10,11,37,38] [])
def f18_46:IC:=.seq (.seq (.ops [m1 55 11,o1 56 (.bin .geq (.t 55) (ci 0))] [1,2,4,6,9,10,11,37,38,56] []) (.cond (.t 56) .skip (.exit 2))) f18_50
def f18_59:IC:=.ops [o1 82 (.faddr (.t 6) 1),o1 83 (.load (.t 82) 1 false),m1 84 9,m1 85 1,o1 86 (.callr 48 [.t 84,.t 85,(.c (.s []))]),o1 87 (.msl false 31 1 [.t 86]),o1 88 (.app (.t 83) (.t 87) 31 1),o1 89 (.faddr (.t 6) 1),o0 (.store (.t 89) (.t 88) 1)] [1,2,4,6,37,38] [[0,1],[2,4],[3,4],[4,5],[1,6],[4,6],[5,6],[1,8],[4,8],[6,8],[7,8]]
def f18_41:IC:=.seq (.seq (.ops [o1 51 (.faddr (.t 6) 0),o1 52 (.load (.t 51) 1 false),o1 53 (.lenL (.t 52)),o1 54 (.bin .sub (.t 53) (ci 1)),m1 11 54] [1,2,4,6,9,10,11,37,38] []) (.block 2 (.loop f18_46))) (.wk f18_59)
def f18_37:IC:=.seq (.ops [o1 41 (.load (.t 2) 16 true),o1 42 (.faddr (.t 6) 0),o1 43 (.load (.t 42) 1 false),o1 44 (.faddr (.t 6) 0),o1 45 (.load (.t 44) 1 false),o1 46 (.lenL (.t 45)),o1 47 (.mksl (.t 46) (.t 46) (.s []) 9 1),o1 48 (.build [(.s []),(.s []),(.s []),.nil,.nil,(.s []),(.s []),(.s []),(.s []),(.i .i64 0),(.i .i64 0),.nil,.nil,.nil,.nil,.nil,.nil,.nil] [(0,16,(.t 41)),(16,1,(.t 43)),(17,1,(.t 47))]),o1 49 (.box (.t 48)),m1 9 49] [1,2,4,6,8,9,37,38] [[1,2],[3,4],[4,5],[5,6],[0,7],[2,7],[6,7],[7,8],[8,9]]) (.seq (.ops [m1 50 8,m1 10 50] [1,2,4,6,9,10,37,38] []) f18_41)
def f18_33:IC:=.seq (.block 1 (.seq (.ops [m1 40 38,m1 8 40] [1,2,4,6,8,37,38] []) f18_37)) (.ops [o1 90 (.bin .add (.t 38) (ci 1)),m1 38 90] [1,2,4,6,37,38] [])
def f18_29:IC:=.seq (.ops [o1 39 (.bin .lss (.t 38) (.t 37))] [1,2,4,6,37,38,39] []) (.seq (.cond (.t 39) .skip (.exit 0)) f18_33)
def f18_61:IC:=.seq (.ops [o1 91 (.load (.t 6) 2 true),o0 (.store (.t 4) (.t 91) 2),o1 5 (.mv (ci 0))] [4,5] []) .ret
def f18_24:IC:=.seq (.seq (.ops [m1 37 7,o1 38 (.mv (ci 0))] [1,2,4,6,37,38] []) (.block 0 (.loop f18_29))) f18_61
def f18_18:IC:=.seq (.seq (.ops [o1 26 (.faddr (.t 2) 3),o1 27 (.load (.t 26) 1 false),o1 28 (.call 47 [.t 27]),o1 29 (.not (.t 28)),m1 30 29,⟨some 31,.faddr (.t 2) 4,some (30,false),[]⟩,⟨some 32,.load (.t 31) 1 false,some (30,false),[]⟩,⟨some 33,.call 47 [.t 32],some (30,false),[]⟩,⟨some 34,.not (.t 33),some (30,false),[]⟩,o1 35 (.pick (.t 30) (.c (.b true)) (.t 34))] [1,2,4,6,7,35] []) (.cond (.t 35) f18_22 .skip)) f18_24
def f18_12:IC:=.seq (.seq (.ops [m1 23 7,o1 24 (.bin .gtr (.t 23) (ci 400))] [1,2,4,6,7,24] []) (.cond (.t 24) f18_16 .skip)) f18_18
def f18_10:IC:=.seq (.ops [o1 20 (.faddr (.t 6) 0),o1 21 (.load (.t 20) 1 false),o1 22 (.call 46 [.t 21]),m1 7 22] [1,2,4,6,7] []) f18_12
def f18_8:IC:=.seq (.ops [m1 17 1,o1 18 (.call 45 [.t 17]),o1 19 (.build [.nil,.nil] [(0,1,(.t 18))]),o1 6 (.alloc (.agg [.nil,.nil])),o0 (.store (.t 6) (.t 19) 2)] [1,2,4,6] []) f18_10
def f18_2:IC:=.seq (.seq (.ops [m1 13 1,o1 14 (.call 37 [.t 13]),o1 15 (.not (.t 14))] [1,2,4,15] []) (.cond (.t 15) f18_6 .skip)) f18_8
def f18_0:IC:=.seq (.ops [o1 2 (.box (.t 0)),o1 4 (.alloc (.agg [.nil,.nil])),o1 5 (.mv (ci 0))] [1,2,4] []) f18_2
@[push_cast]def f18R:List R:=[.c 4 2 true,.t 5]
@[push_cast]def f18e:=aWv f18_6.eq_1<|aWv f18_16.eq_1<|aWv f18_22.eq_1<|aWv f18_56.eq_1<|aWv f18_54.eq_1<|aWv f18_50.eq_1<|aWv f18_46.eq_1<|aWv f18_59.eq_1<|aWv f18_41.eq_1<|aWv f18_37.eq_1<|aWv f18_33.eq_1<|aWv f18_29.eq_1<|aWv f18_61.eq_1<|aWv f18_24.eq_1<|aWv f18_18.eq_1<|aWv f18_12.eq_1<|aWv f18_10.eq_1<|aWv f18_8.eq_1<|aWv f18_2.eq_1<|aWu f18_0.eq_1
theorem f18ok:okFn Tryz.prog 18 92 f18_0 f18R=true:=by kernel_rfl
def f48_29:IC:=.ops [o1 37 (.faddr (.t 9) 2),o1 38 (.load (.t 37) 1 false),m1 11 38] [0,2,7,9,10,11,14,15,16] []
def f48_42:IC:=.ops [m1 60 7,o1 61 (.load (.t 13) 6 true),o1 62 (.calln 100 [.t 60,.t 61]),m1 7 62] [0,2,7,14,15,16,54,55,56] []
def f48_38:IC:=.seq (.block 4 (.seq (.ops [o1 58 (.iaddr (.t 54) (.t 56) 43 6),o1 59 (.load (.t 58) 6 true),o1 13 (.alloc (.agg [(.i .i64 0),(.s []),(.s []),(.s []),.nil,.nil])),o0 (.store (.t 13) (.t 59) 6)] [0,2,7,13,14,15,16,54,55,56] []) f48_42)) (.ops [o1 63 (.bin .add (.t 56) (ci 1)),m1 56 63] [0,2,7,14,15,16,54,55,56] [])
def f48_34:IC:=.seq (.ops [o1 57 (.bin .lss (.t 56) (.t 55))] [0,2,7,14,15,16,54,55,56,57] []) (.seq (.cond (.t 57) .skip (.exit 3)) f48_38)
def f48_30:IC:=.seq (.ops [m1 39 0,m1 40 0,o1 41 (.nilck (.t 40)),o1 42 (.faddr (.t 41) 0),o1 43 (.load (.t 42) 16 true),o1 44 (.load (.t 9) 6 true),m1 45 0,o1 46 (.nilck (.t 45)),o1 47 (.faddr (.t 46) 17),o1 48 (.load (.t 47) 1 false),m1 49 10,o1 50 (.iaddr (.t 48) (.t 49) 9 1),o1 51 (.load (.t 50) 1 false),o1 52 (.call 99 [.t 43,.t 44,.t 51]),m1 53 11,o1 54 (.callr 48 [.t 39,.t 52,.t 53]),o1 55 (.lenL (.t 54)),o1 56 (.mv (ci 0))] [0,2,7,14,15,16,54,55,56] [[1,2],[2,3],[3,4],[6,7],[7,8],[8,9],[9,11],[10,11],[11,12],[4,13],[5,13],[12,13],[0,15],[13,15],[14,15],[15,16]]) (.block 3 (.loop f48_34))
def f48_25:IC:=.seq (.seq (.ops [o1 34 (.faddr (.t 9) 0),o1 35 (.load (.t 34) 1 false),o1 36 (.bin .neq (.t 35) (ci 9))] [0,2,7,9,10,11,14,15,16,36] []) (.cond (.t 36) f48_29 .skip)) f48_30
def f48_21:IC:=.seq (.ops [m1 27 0,o1 28 (.nilck (.t 27)),o1 29 (.faddr (.t 28) 16),o1 30 (.load (.t 29) 1 false),o1 31 (.mkfn 98 [] [.t 9]),o1 32 (.callr 97 [.t 30,.t 31]),m1 10 32] [0,2,7,9,10,14,15,16] []) (.seq (.ops [m1 33 2,m1 11 33] [0,2,7,9,10,11,14,15,16] []) f48_25)
def f48_47:IC:=.ops [m1 68 7,m1 69 2,o1 70 (.build [(.i .i64 0),(.s []),(.s []),(.s []),.nil,.nil] [(0,1,(ci 3)),(2,1,(.t 69))]),o1 71 (.msl false 43 6 [.t 70]),o1 72 (.app (.t 68) (.t 71) 43 6),m1 7 72] [0,2,7,14,15,16] []
def f48_53:IC:=.ops [m1 83 7,o1 84 (.load (.t 9) 6 true),o1 85 (.msl false 43 6 [.t 84]),o1 86 (.app (.t 83) (.t 85) 43 6),m1 7 86] [0,2,7,14,15,16] []
def f48_51:IC:=.seq (.ops [m1 77 0,o1 78 (.faddr (.t 9) 5),o1 79 (.load (.t 78) 1 false),m1 80 2,o1 81 (.callr 48 [.t 77,.t 79,.t 80]),o1 82 (.faddr (.t 9) 5),o0 (.store (.t 82) (.t 81) 1)] [0,2,7,9,14,15,16] []) f48_53
def f48_54:IC:=.ops [m1 20 7,o1 21 (.load (.t 9) 6 true),o1 22 (.calln 100 [.t 20,.t 21]),m1 7 22] [0,2,7,14,15,16] []
def f48_48:IC:=.seq (.ops [o1 74 (.faddr (.t 9) 0),o1 75 (.load (.t 74) 1 false),o1 76 (.bin .eql (.t 75) (ci 11)),m1 73 76] [0,2,7,9,14,15,16,73] []) (.cond (.t 73) f48_51 f48_54)
def f48_44:IC:=.seq (.ops [o1 65 (.faddr (.t 9) 0),o1 66 (.load (.t 65) 1 false),o1 67 (.bin .eql (.t 66) (ci 10)),m1 64 67] [0,2,7,9,14,15,16,64] []) (.cond (.t 64) f48_47 f48_48)
def f48_17:IC:=.block 2 (.seq (.ops [o1 24 (.faddr (.t 9) 0),o1 25 (.load (.t 24) 1 false),o1 26 (.call 76 [.t 25]),m1 23 26] [0,2,7,9,14,15,16,23] []) (.cond (.t 23) f48_21 f48_44))
def f48_13:IC:=.seq (.block 1 (.seq (.ops [o1 18 (.iaddr (.t 14) (.t 16) 43 6),o1 19 (.load (.t 18) 6 true),o1 9 (.alloc (.agg [(.i .i64 0),(.s []),(.s []),(.s []),.nil,.nil])),o0 (.store (.t 9) (.t 19) 6)] [0,2,7,9,14,15,16] []) f48_17)) (.ops [o1 87 (.bin .add (.t 16) (ci 1)),m1 16 87] [0,2,7,14,15,16] [])
def f48_9:IC:=.seq (.ops [o1 17 (.bin .lss (.t 16) (.t 15))] [0,2,7,14,15,16,17] []) (.seq (.cond (.t 17) .skip (.exit 0)) f48_13)
def f48_4:IC:=.seq (.seq (.ops [m1 14 1,o1 15 (.lenL (.t 14)),o1 16 (.mv (ci 0))] [0,2,7,14,15,16] []) (.block 0 (.loop f48_9))) (.seq (.ops [m1 88 7,m1 6 88] [6] []) .ret)
def f48_0:IC:=.seq (.ops [o1 6 (.mv (.c .nil))] [0,1,2] []) (.seq (.ops [o1 7 (.mv (.c .nil))] [0,1,2,7] []) f48_4)
@[push_cast]def f48R:List R:=[.t 6]
@[push_cast]def f48e:=aWv f48_29.eq_1<|aWv f48_42.eq_1<|aWv f48_38.eq_1<|aWv f48_34.eq_1<|aWv f48_30.eq_1<|aWv f48_25.eq_1<|aWv f48_21.eq_1<|aWv f48_47.eq_1<|aWv f48_53.eq_1<|aWv f48_51.eq_1<|aWv f48_54.eq_1<|aWv f48_48.eq_1<|aWv f48_44.eq_1<|aWv f48_17.eq_1<|aWv f48_13.eq_1<|aWv f48_9.eq_1<|aWv f48_4.eq_1<|aWu f48_0.eq_1
theorem f48ok:okFn Tryz.prog 48 89 f48_0 f48R=true:=by kernel_rfl
def f98_2:IC:=.seq (.ops [o1 4 (.faddr (.t 2) 0),o1 5 (.load (.t 4) 1 false),o1 6 (.faddr (.t 1) 0),o1 7 (.load (.t 6) 1 false),o1 8 (.bin .eql (.t 5) (.t 7)),m1 9 8,⟨some 10,.faddr (.t 2) 1,some (9,true),[]⟩,⟨some 11,.load (.t 10) 1 false,some (9,true),[]⟩,⟨some 12,.faddr (.t 1) 2,some (9,true),[]⟩,⟨some 13,.load (.t 12) 1 false,some (9,true),[]⟩,⟨some 14,.bin .eql (.t 11) (.t 13),some (9,true),[]⟩,o1 15 (.pick (.t 9) (.t 14) (.c (.b false))),m1 3 15] [3] []) .ret
def f98_0:IC:=.seq (.ops [o1 2 (.box (.t 0)),o1 3 (.mv (.c (.b false)))] [1,2] []) f98_2
@[push_cast]def f98R:List R:=[.t 3]
@[push_cast]def f98e:=aWv f98_2.eq_1<|aWu f98_0.eq_1
theorem f98ok:okFn Tryz.prog 98 16 f98_0 f98R=true:=by kernel_rfl

end Go.Ir
namespace Go.Ir
open Go.Proofs
variable (W0 : World)
theorem finW_frz {W0:World} {nt n s:Nat} {env:Env} {σ:Sto} {id:Id} {e sz:Nat} {es:List V} (hs:get env s = .arr id) (hok:∀y∈es,y.ok=true) (hl:lk σ id=some (.arr e sz es)):FinW W0 nt [.t s] [.sl es] [] .ret ⟨env,σ,n⟩:=by
 refine ⟨⟨[(s,.sl es)],[],n⟩,StLe.weak (fun i=>if i=id then some es else none) (fun i es' h=>?_) (fun t=>?_) (fun i e' h=>by cases h) (Nat.le_refl _),⟨by simp [ResOk,get],trivial⟩,fun _ _ h=>by cases h⟩
 ·split at h
  ·rename_i hi;subst hi;cases h;exact ⟨⟨e,sz,hl⟩,rfl⟩
  ·cases h
 ·by_cases ht:s=t
  ·subst ht
   rw [hs]
   simp only [get,if_true]
   refine .arr id es es (by simp) rfl (fun k c c' h1 h2=>?_) (fun k c c' h1 h2=>?_)
   ·rw [h1] at h2;cases h2;exact .refl _
   ·rw [h1] at h2;cases h2
    have:=hok c (List.mem_of_getElem? h1)
    exact ⟨rfl,this,this⟩
  ·simp only [get,if_neg ht];exact .any _
def headEq:Bytes->Bool
 | []=>false
 | c::_=>(c.toNat:Int) == 61
def keepK (kind:Int) (k:Bytes):Bool:=!(k == kOtherS)&&(kind == 9||headEq k)
def clsK (kind:Int) (keys:List Bytes):List Bytes:=if kind == 9 then [] else kFive.filter fun k=>keys.contains k
def ordK (kind:Int) (keys:List Bytes):List Bytes:=keys.filter (keepK kind)++(clsK kind keys++[kOtherS])
theorem c_hasPre1 (s:Bytes):RetS Tryz.prog W0 115 [.s s,.s [61]] [] (.b (headEq s)) []:=by
 cases s with
 | nil=>
  refine fn_retW (vs:=[.b false]) f115ok (by simp) (by simp) fun n0 hn0=>?_
  clear hn0
  simp only [push_cast,seval,reduceEqDiff,decide_false]
  repeat' (first|(((first|apply condU_s|apply gdU_t|apply gdU_f)<;>intro _h)<;>simp only [push_cast,seval,reduceEqDiff,_h,decide_false])|intro _)
  all_goals (first|(refine finW_ret ?_;simp [get]<;>(intros;omega);done)|(refine finW_rets ?_;simp [push_cast,get];done)|skip)
 | cons c t=>
  have h1:decide (((c::t).length:Int)>=1)=true:=by simp<;>omega
  have h2:(if 0<=1/\1<=(c::t).length then some (V.s (List.take 1 (c::t))) else none)=some (V.s [c]):=by simp
  have h3:([c] == [61])=((c.toNat:Int) == 61):=by
   rw [Bool.eq_iff_iff];simp [<-UInt8.toNat_inj];omega
  simp only [push_cast,seval,reduceEqDiff] at h1 h2
  refine fn_retW (vs:=[.b (headEq (c::t))]) f115ok (by simp) (by simp) fun n0 hn0=>?_
  clear hn0
  simp only [push_cast,seval,reduceEqDiff,h1,h2,h3]
  repeat' (first|(((first|apply condU_s|apply gdU_t|apply gdU_f)<;>intro _h)<;>simp only [push_cast,seval,reduceEqDiff,_h,h1,h2,h3])|intro _)
  all_goals (first|(refine finW_ret ?_;simp [get,headEq]<;>(intros;omega);done)|(refine finW_rets ?_;simp [push_cast,get,headEq];done)|skip)
theorem c_hasPre (s:Bytes):RetS Tryz.prog W0 70 [.s s,.s [61]] [] (.b (headEq s)) []:=by
 refine fn_retW (vs:=[.b (headEq s)]) f70ok (by simp) (by simp) fun n0 hn0=>?_
 clear hn0
 simp only [push_cast,seval,reduceEqDiff]
 repeat' (first|(((first|apply condU_s|apply gdU_t|apply gdU_f)<;>intro _h)<;>simp only [push_cast,seval,reduceEqDiff,_h])|(refine c_call (by exact c_hasPre1 W0 s) ?_;simp only [push_cast,seval,reduceEqDiff])|intro _)
 all_goals (first|(refine finW_ret ?_;simp [get]<;>(intros;omega);done)|(refine finW_rets ?_;simp [push_cast,get];done)|skip)
theorem c_vClasses:RetS Tryz.prog W0 134 [] [] (.sl (kFive.map V.s)) []:=by
 unfold kFive
 simp only [List.map_cons,List.map_nil]
 refine fn_retW (vs:=[.sl [.s [122,101,114,111],.s [111,110,101],.s [116,119,111],.s [102,101,119],.s [109,97,110,121]]]) f134ok (by simp) (by simp) fun n0 hn0=>?_
 clear hn0
 simp only [push_cast,seval,reduceEqDiff]
 repeat' (first|(((first|apply condU_s|apply gdU_t|apply gdU_f)<;>intro _h)<;>(simp only [push_cast,seval,reduceEqDiff,_h];try (have _g:=_h;simp at _g)))|intro _)
 all_goals (first|(refine finW_ret ?_;simp [get]<;>(intros;omega);done)|(refine finW_rets ?_;simp [push_cast,get];done)|skip)
theorem mapS_snoc (o:List Bytes) (k:Bytes):List.map V.s o++[V.s k]=List.map V.s (o++[k]):=by simp
theorem okS (o:List Bytes):∀y∈List.map V.s o,y.ok=true:=by
 intro y hy;obtain ⟨x,_,rfl⟩:=List.mem_map.1 hy;rfl
set_option maxHeartbeats 4000000 in
theorem c_ordered (kind:Int) (name:Bytes) (keys:List Bytes) (hk:keys.length<=2^26) :
  RetS Tryz.prog W0 92 [.agg [.i .i64 kind,.s name,.sl (keys.map V.s)]] [] (.sl ((ordK kind keys).map V.s)) []:=by
 have hcl:=c_vClasses W0
 generalize hS:ordK kind keys=S
 unfold ordK at hS
 refine fn_retW (vs:=[.sl (S.map V.s)]) f92ok (by simp) (by simp) fun n0 hn0=>?_
 clear hn0
 simp only [push_cast,seval,reduceEqDiff]
 intros
 refine aWP_loopW keys.length (Inv:=fun m st=>∃done rest n id o,keys=done++rest/\m=rest.length/\o++(rest.filter (keepK kind)++(clsK kind keys++[kOtherS]))=S/\o.length<=done.length/\(id=(n0,1))=False/\st=⟨[(1,.ref (n0,1) 0),(3,.arr id),(9,.sl (keys.map V.s)),(10,.i .i64 keys.length),(11,.i .i64 done.length)],[(id,.arr 9 1 (o.map V.s)),((n0,1),.box (.agg [.i .i64 kind,.s name,.sl (keys.map V.s)]))],n⟩) ⟨_,(StLe.own (s:=3) (e:=9) (sz:=1) (k:=29) rfl).trans (StLe.envD (fun t=>?_) (Nat.le_refl _)),[],keys,_,_,[],rfl,rfl,hS,by simp,by simp,rfl⟩ ?_
 ·left
  by_cases h3:3=t
  ·subst h3;rfl
  ·simp [get,h3]
 rintro m _ ⟨done,rest,n,id,o,hz,rfl,hd,ho,hid,rfl⟩
 have hid':((n0,1)=id)=False:=eq_false fun he=>of_eq_false hid he.symm
 cases rest with
 | nil=>
  rw [List.filter_nil,List.nil_append] at hd
  have hlk:o.length<=2^26:=by rw [hz] at hk;simp at hk;omega
  have e1:∀a:Nat,a<=2^26+5->(a+1<=LLim)=True:=fun a h=>eq_true (by unfold LLim;omega)
  rcases Bool.eq_false_or_eq_true (kind == 9) with hk9|hk9
  ·have hn9:(kind != 9)=false:=by simp [bne,hk9]
   unfold clsK at hd
   rw [hk9,if_pos rfl,List.nil_append] at hd
   unfold kOtherS at hd
   simp only [push_cast,seval,reduceEqDiff,hid,hid',hn9,e1 o.length (by omega),List.length_map,mapS_snoc,hd,hz]
   repeat' (first|(((first|apply condU_s|apply gdU_t|apply gdU_f)<;>intro _h)<;>simp only [push_cast,seval,reduceEqDiff,_h,hid,hid',hn9,e1 o.length (by omega),List.length_map,mapS_snoc,hd])|intro _)
   exact finW_frz (e:=9) (sz:=1) rfl (okS _) (by simp [lk])
  ·have hn9:(kind != 9)=true:=by simp [bne,hk9]
   unfold clsK at hd
   rw [hk9,if_neg (by simp)] at hd
   have hdl:o.length<=keys.length:=by rw [hz];simpa using ho
   have hlt0:decide ((done.length:Int)<(keys.length:Int))=false:=by rw [hz];simp
   clear ho hz
   simp only [push_cast,seval,reduceEqDiff,hid,hid',hn9,hlt0]
   repeat' (first|(((first|apply condU_s|apply gdU_t|apply gdU_f)<;>intro _h)<;>simp only [push_cast,seval,reduceEqDiff,_h,hid,hid',hn9,hlt0])|(refine c_call (by exact hcl) ?_;simp only [push_cast,seval,reduceEqDiff,hid,hid',hn9,hlt0])|intro _)
   refine aWP_loopW 5 (Inv:=fun m st=>∃done rest n id o,kFive=done++rest/\m=rest.length/\o++(rest.filter (fun k=>keys.contains k)++[kOtherS])=S/\o.length<=keys.length+done.length/\(id=(n0,1))=False/\st=⟨[(1,.ref (n0,1) 0),(3,.arr id),(34,.sl (kFive.map V.s)),(35,.i .i64 5),(36,.i .i64 done.length)],[(id,.arr 9 1 (o.map V.s)),((n0,1),.box (.agg [.i .i64 kind,.s name,.sl (keys.map V.s)]))],n⟩) ⟨_,StLe.refl,[],kFive,_,id,o,rfl,rfl,hd,by simpa using hdl,hid,rfl⟩ ?_
   clear hid hid' hd hdl o id hlk
   rintro m _ ⟨done2,rest,n,id,o,hz,rfl,hd,ho,hid,rfl⟩
   have hid':((n0,1)=id)=False:=eq_false fun he=>of_eq_false hid he.symm
   have hl5:done2.length+rest.length=5:=by have:=congrArg List.length hz;simp at this;exact this.symm
   cases rest with
   | nil=>
    rw [List.filter_nil,List.nil_append] at hd
    simp at hl5
    unfold kOtherS at hd
    have hlt5:decide ((done2.length:Int)<5)=false:=by simp;omega
    simp only [push_cast,seval,reduceEqDiff,hid,hid',e1 o.length (by omega),List.length_map,mapS_snoc,hd,hlt5]
    repeat' (first|(((first|apply condU_s|apply gdU_t|apply gdU_f)<;>intro _h)<;>simp only [push_cast,seval,reduceEqDiff,_h,hid,hid',e1 o.length (by omega),List.length_map,mapS_snoc,hd,hlt5])|intro _)
    exact finW_frz (e:=9) (sz:=1) rfl (okS _) (by simp [lk])
   | cons k rest=>
    have hin:=c_containsS W0 keys k (by omega)
    have hlt5:decide ((done2.length:Int)<5)=true:=by simp at hl5⊢;omega
    rw [hz]
    generalize hC:keys.contains k=C at hin
    cases C with
    | true=>
     simp only [push_cast,seval,reduceEqDiff,hid,hid',e1 o.length (by omega),List.length_map,mapS_snoc,hlt5,wrap_zip k (done:=done2) (by simp at hl5;omega)]
     repeat' (first|(((first|apply condU_s|apply gdU_t|apply gdU_f)<;>intro _h)<;>simp only [push_cast,seval,reduceEqDiff,_h,hid,hid',e1 o.length (by omega),List.length_map,mapS_snoc,hlt5,wrap_zip k (done:=done2) (by simp at hl5;omega)])|(refine c_call (by exact hin) ?_;simp only [push_cast,seval,reduceEqDiff,hid,hid',e1 o.length (by omega),List.length_map,mapS_snoc,hlt5,wrap_zip k (done:=done2) (by simp at hl5;omega)])|intro _)
     exact ⟨_,_,Nat.lt_succ_self _,StLe.refl,done2++[k],rest,_,_,o++[k],by simp,rfl,by rw [<-hd,List.filter_cons_of_pos (by simpa using hC)];simp,by simp;omega,by simp,rfl⟩
    | false=>
     simp only [push_cast,seval,reduceEqDiff,hid,hid',e1 o.length (by omega),List.length_map,mapS_snoc,hlt5,wrap_zip k (done:=done2) (by simp at hl5;omega)]
     repeat' (first|(((first|apply condU_s|apply gdU_t|apply gdU_f)<;>intro _h)<;>simp only [push_cast,seval,reduceEqDiff,_h,hid,hid',e1 o.length (by omega),List.length_map,mapS_snoc,hlt5,wrap_zip k (done:=done2) (by simp at hl5;omega)])|(refine c_call (by exact hin) ?_;simp only [push_cast,seval,reduceEqDiff,hid,hid',e1 o.length (by omega),List.length_map,mapS_snoc,hlt5,wrap_zip k (done:=done2) (by simp at hl5;omega)])|intro _)
     exact ⟨_,_,Nat.lt_succ_self _,StLe.refl,done2++[k],rest,_,_,o,by simp,rfl,by rw [<-hd,List.filter_cons_of_neg (by simp;simpa using hC)],by simp;omega,hid,rfl⟩
 | cons k rest=>
  have hb:=zip_bd hz
  have e1:o.length+1<=LLim:=by unfold LLim;omega
  have hpre:=c_hasPre W0 k
  simp only [push_cast,seval,reduceEqDiff,hz,wrap_zip k (done:=done) (by omega),hid,hid',eq_true e1,List.length_map,mapS_snoc]
  repeat' (first|(((first|apply condU_s|apply gdU_t|apply gdU_f)<;>intro _h)<;>simp only [push_cast,seval,reduceEqDiff,_h,hz,wrap_zip k (done:=done) (by omega),hid,hid',eq_true e1,List.length_map,mapS_snoc])|(refine c_call (by exact hpre) ?_;simp only [push_cast,seval,reduceEqDiff,hz,wrap_zip k (done:=done) (by omega),hid,hid',eq_true e1,List.length_map,mapS_snoc])|intro _)
  all_goals (try simp only [Bool.not_eq_true',Bool.not_eq_false'] at *)
  all_goals (first|exact ⟨_,_,Nat.lt_succ_self _,StLe.refl,done++[k],rest,_,_,o++[k],by simp,rfl,by rw [<-hd,List.filter_cons_of_pos (by simp only [keepK,kOtherS, *];rfl)];simp [hz],by simp;omega,by simp,rfl⟩|exact ⟨_,_,Nat.lt_succ_self _,StLe.refl,done++[k],rest,_,_,o,by simp,rfl,by rw [<-hd,List.filter_cons_of_neg (by simp only [keepK,kOtherS, *];simp)];simp [hz],by simp;omega,hid,rfl⟩|skip)
def Sel.enc (s:Sel):V:=.agg [.i .i64 s.kind,.s s.name,.sl (s.keys.map V.s)]
@[push_cast] theorem Sel.enc_eq (s:Sel):s.enc = .agg [.i .i64 s.kind,.s s.name,.sl (s.keys.map V.s)]:=rfl
def Sel.ord (s:Sel):Sel:={ s with keys:=ordK s.kind s.keys }
def selsP (ps:List Part):List Sel:=(collPs ps []).map Sel.ord
def phiS (L:List OS) (i:Id):Option (List V):=match lk (ossE L) i with
 | some (.arr _ _ es)=>some es
 | _=>none
theorem phiS_mem {L:List OS} {x:OS} {id:Id} (hnd:((ossE L).map (·.1)).Nodup) (hx:x∈L) (hid:x.2=some id):phiS L id=some (x.1.keys.map V.s):=by
 have:(id,Ent.arr 9 1 (x.1.keys.map V.s))∈ossE L:=by
  refine List.mem_flatMap.2 ⟨x,hx,?_⟩
  unfold osE;rw [hid];simp
 unfold phiS
 rw [mem_lk_of hnd this]
theorem phiS_some {L:List OS} {i:Id} {es:List V} (h:phiS L i=some es):∃e sz,lk (ossE L) i=some (.arr e sz es):=by
 unfold phiS at h
 split at h
 ·rename_i e sz es' hl;cases h;exact ⟨e,sz,hl⟩
 ·cases h
theorem vle_sel {T:Nat} {lo:Option Id} {L:List OS} {n:Nat} (h:SelO T lo L n) (hnd:((ossE L).map (·.1)).Nodup) {x:OS} (hx:x∈L):VLe (phiS L) (osV x) x.1.enc:=by
 unfold osV
 refine .agg _ _ rfl fun k c c' h1 h2=>?_
 match k with
 | 0=>simp at h1 h2;subst h1 h2;exact .refl _
 | 1=>simp at h1 h2;subst h1 h2;exact .refl _
 | 2=>
  simp at h1 h2;subst h1 h2
  cases hx2:x.2 with
  | none=>
   rw [h.kn x hx hx2];exact .nil
  | some id=>
   refine .arr id _ _ (phiS_mem hnd hx hx2) rfl (fun k c c' h1 h2=>?_) (fun k c c' h1 h2=>?_)
   ·rw [h1] at h2;cases h2;exact .refl _
   ·rw [h1] at h2;cases h2
    have:=okS _ c (List.mem_of_getElem? h1)
    exact ⟨rfl,this,this⟩
 | k+3=>simp at h1
theorem selFrz {W0:World} {nt n n':Nat} {env:Env} {cid lid:Id} {L:List OS} (h:ColO cid (some lid) L n) (hn:n<=n') :
  StLe W0 nt ⟨env,colS cid (some lid) L,n⟩ ⟨env,[(cid,.box (.agg [.arr lid])),(lid,.arr TS 3 (L.map fun x=>x.1.enc))],n'⟩:=by
 obtain ⟨l1,l2,l3,l4⟩:=h.toSelO.arr
 have hcl:cid≠lid:=fun he=>h.c_ne (lid,.arr TS 3 (L.map osV)) (by simp [selS_some]) he.symm
 have hce:∀p∈ossE L,p.1≠cid:=fun p hp=>h.c_ne p (by rw [selS_some];exact List.mem_cons_of_mem _ hp)
 refine StLe.weak (phiS L) (fun i es hi=>?_) (fun t=>.refl _) (fun i e' hl=>?_) hn
 ·obtain ⟨e,sz,hl⟩:=phiS_some hi
  have hm:=lk_mem_of hl
  refine ⟨⟨e,sz,mem_lk_of h.nd' ?_⟩,?_⟩
  ·exact List.mem_cons_of_mem _ (by rw [selS_some];exact List.mem_cons_of_mem _ hm)
  ·refine lk_none_of fun p hp=>?_
   simp at hp
   rcases hp with rfl|rfl
   ·exact fun he=>hce _ hm he.symm
   ·exact fun he=>l2 _ hm he.symm
 ·have hm:=lk_mem_of hl
  simp at hm
  rcases hm with ⟨rfl,rfl⟩|⟨rfl,rfl⟩
  ·exact ⟨_,by simp [colS,lk,sv],.refl _⟩
  ·refine ⟨.arr TS 3 (L.map osV),mem_lk_of h.nd' (by simp [colS,selS_some]),.arr _ _ _ _ (by simp) fun k c c' h1 h2=>?_⟩
   simp only [List.getElem?_map,Option.map_eq_some_iff] at h1 h2
   obtain ⟨x,hx,rfl⟩:=h1
   obtain ⟨y,hy,rfl⟩:=h2
   rw [hx] at hy;cases hy
   have hxm:=List.mem_of_getElem? hx
   exact ⟨vle_sel h.toSelO l4 hxm,rfl,by unfold osV sv;cases x.2<;>rfl,rfl⟩
theorem finW_nil {W0:World} {nt n s:Nat} {env:Env} {σ:Sto} (hs:get env s = .nil):FinW W0 nt [.t s] [.sl []] [] .ret ⟨env,σ,n⟩:=by
 refine ⟨⟨[(s,.sl [])],[],n⟩,StLe.weak (fun i=>none) (fun i es' h=>by cases h) (fun t=>?_) (fun i e' h=>by cases h) (Nat.le_refl _),⟨by simp [ResOk,get],trivial⟩,fun _ _ h=>by cases h⟩
 by_cases ht:s=t
 ·subst ht;rw [hs];simp only [get,if_true];exact .nil
 ·simp only [get,if_neg ht];exact .any _
theorem okSel (l:List Sel):∀y∈l.map Sel.enc,y.ok=true:=by
 intro y hy;obtain ⟨x,_,rfl⟩:=List.mem_map.1 hy;rfl
set_option maxHeartbeats 4000000 in
theorem c_selectors (ps:List Part) (hb:wtPs ps<=2^24):RetS Tryz.prog W0 45 [.sl (ps.map Part.enc)] [] (.sl ((selsP ps).map Sel.enc)) []:=by
 generalize hS:selsP ps=S
 refine fn_retW (vs:=[.sl (S.map Sel.enc)]) f45ok (by simp) (by simp) fun n0 hn0=>?_
 clear hn0
 simp only [push_cast,seval,reduceEqDiff]
 intro k1 k2 k3
 have hc0:ColO (n0+1+k1,6) none [] (n0+1+k1+1):=⟨⟨by simp [selS_none,ossE],by simp [selS_none,ossE],fun _=>rfl,by simp⟩,by simp,by simp [selS_none,ossE]⟩
 refine c_callx (c_walk W0 _ ps (n0+1+k1,6) none [] _ (Nat.lt_succ_self _) (by simp [selW];omega) hc0) (fun _ _ h=>h) (fun n2 v σo hle hR=>?_)
 obtain ⟨rfl,lo,L,rfl,hok,hm,_⟩:=hR
 have hcw:=collPs_w ps []
 rw [show ([]:List OS).map (·.1)=([]:List Sel) from rfl] at hm
 rw [<-hm] at hcw
 simp only [selW] at hcw
 have hlen:=len_selW (L.map (·.1))
 rw [List.length_map] at hlen
 generalize (n0+1+k1,6)=cid at *
 simp only [push_cast,seval,reduceEqDiff]
 intro k4
 cases lo with
 | none=>
  have hL:=hok.ne rfl
  subst hL
  refine wkW_i (StLe.pre (σ:=colS cid none []) (Nat.le_refl _)) ?_
  have hS0:S=[]:=by rw [<-hS];unfold selsP;rw [<-hm];rfl
  subst hS0
  unfold colS
  simp only [selS_none,ossE,List.flatMap_nil,sv]
  simp only [push_cast,seval,reduceEqDiff]
  intros
  refine aWP_loopW 0 (Inv:=fun m st=>∃n,st=⟨[(3,.ref cid 0),(14,.i .i64 0),(15,.i .i64 0)],[(cid,.box (.agg [.nil]))],n⟩) ⟨_,StLe.refl,_,rfl⟩ ?_
  rintro m _ ⟨n,rfl⟩
  simp only [push_cast,seval,reduceEqDiff,show (decide False)=false from rfl]
  intros
  exact finW_nil rfl
 | some lid=>
  refine wkW_i ((StLe.pre (σ:=colS cid (some lid) L) (Nat.le_refl _)).trans (selFrz (hok.more (by omega)) (Nat.le_refl _))) ?_
  obtain ⟨l1,l2,l3,l4⟩:=hok.toSelO.arr
  have fcl:(cid=lid)=False:=eq_false fun he=>hok.c_ne (lid,.arr TS 3 (L.map osV)) (by simp [selS_some]) he.symm
  have flc:(lid=cid)=False:=eq_false fun he=>of_eq_false fcl he.symm
  have hS1:(L.map (·.1)).map Sel.ord=S:=by rw [hm,<-hS];rfl
  have hkl:∀s∈L.map (·.1),s.keys.length<=2^26:=fun s hs=>by have:=keys_selW hs;omega
  rw [show (L.map fun x=>x.1.enc)=(L.map (·.1)).map Sel.enc by simp]
  have hlen2:(L.map (·.1)).length<=2^26:=by rw [List.length_map];omega
  generalize L.map (·.1)=M at *
  clear hok hm hcw hlen l2 l3 l4
  simp only [push_cast,seval,reduceEqDiff,fcl,flc,TS,List.length_map]
  intros
  refine aWP_loopW M.length (Inv:=fun m st=>∃done rest n,M=done++rest/\m=rest.length/\st=⟨[(3,.ref cid 0),(14,.i .i64 M.length),(15,.i .i64 done.length)],[(cid,.box (.agg [.arr lid])),(lid,.arr TS 3 ((done.map Sel.ord++rest).map Sel.enc))],n⟩) ⟨_,StLe.refl,[],M,_,rfl,rfl,rfl⟩ ?_
  rintro m _ ⟨done,rest,n,hz,rfl,rfl⟩
  cases rest with
  | nil=>
   have hlt0:decide ((done.length:Int)<(M.length:Int))=false:=by rw [hz];simp
   have hS2:done.map Sel.ord=S:=by rw [<-hS1,hz];simp
   rw [List.append_nil,hS2]
   simp only [push_cast,seval,reduceEqDiff,hlt0,fcl,flc]
   repeat' (first|(((first|apply condU_s|apply gdU_t|apply gdU_f)<;>intro _h)<;>simp only [push_cast,seval,reduceEqDiff,_h,hlt0,fcl,flc])|intro _)
   exact finW_frz (e:=TS) (sz:=3) rfl (okSel _) (by simp [lk,Ne.symm (of_eq_false flc)])
  | cons s rest=>
   have hb2:=zip_bd hz
   have hlt0:decide ((done.length:Int)<(M.length:Int))=true:=by simp;omega
   have hor:=c_ordered W0 s.kind s.name s.keys (hkl s (by rw [hz];simp))
   have hget:((done.map Sel.ord++s::rest).map Sel.enc)[done.length]? = some s.enc:=by
    rw [List.getElem?_map,List.getElem?_append_right (by simp)];simp
   have hset:((done.map Sel.ord++s::rest).map Sel.enc).set done.length (.agg [.i .i64 s.kind,.s s.name,.sl ((ordK s.kind s.keys).map V.s)])=(((done++[s]).map Sel.ord)++rest).map Sel.enc:=by
    simp [List.set_append,Sel.ord,Sel.enc]
   have hltl:done.length<((done.map Sel.ord++s::rest)).length:=by simp
   generalize hXX:(done.map Sel.ord++s::rest)=XX at *
   simp only [push_cast,seval,reduceEqDiff,hlt0,fcl,flc,hget,hset,if_pos hltl,TS,List.length_map,wrap_zip s (done:=done) (by omega)]
   repeat' (first|(((first|apply condU_s|apply gdU_t|apply gdU_f)<;>intro _h)<;>simp only [push_cast,seval,reduceEqDiff,_h,hlt0,fcl,flc,hget,hset,if_pos hltl,TS,List.length_map,wrap_zip s (done:=done) (by omega)])|(refine c_call (by exact hor) ?_;simp only [push_cast,seval,reduceEqDiff,hlt0,fcl,flc,hget,hset,if_pos hltl,TS,List.length_map,wrap_zip s (done:=done) (by omega)])|intro _)
   exact ⟨_,_,Nat.lt_succ_self _,StLe.refl,done++[s],rest,_,by rw [hz];simp,rfl,rfl⟩



def combP (n:Nat):List Sel->Nat
 | []=>n
 | s::l=>if 400<n*s.keys.length then n*s.keys.length else combP (n*s.keys.length) l
theorem c_comb (L:List Sel) (hl:L.length<=2^40) (hk:∀s∈L,s.keys.length<=2^40):RetS Tryz.prog W0 46 [.sl (L.map Sel.enc)] [] (.i .i64 (combP 1 L)) []:=by
 generalize hS:combP 1 L=S
 refine fn_retW (vs:=[.i .i64 S]) f46ok (by simp) (by simp) fun n0 hn0=>?_
 clear hn0
 simp only [push_cast,seval,reduceEqDiff]
 intros
 refine aWP_loopW L.length (Inv:=fun m st=>∃done rest n x k,L=done++rest/\m=rest.length/\combP k rest=S/\k<=400/\x=(k:Int)/\st=⟨[(3,.i .i64 x),(6,.sl (L.map Sel.enc)),(7,.i .i64 L.length),(8,.i .i64 done.length)],[],n⟩) ⟨_,StLe.refl,[],L,_,_,1,rfl,rfl,hS,by omega,rfl,rfl⟩ ?_
 clear hS
 rintro m _ ⟨done,rest,n,x,k,hz,rfl,hd,hk4,hx,rfl⟩
 cases rest with
 | nil=>
  rw [combP] at hd
  subst hd hx
  simp only [push_cast,seval,reduceEqDiff,hz]
  repeat' (first|(((first|apply condU_s|apply gdU_t|apply gdU_f)<;>intro _h)<;>(simp only [push_cast,seval,reduceEqDiff,_h];try (have _g:=_h;simp at _g)))|intro _)
  all_goals (first|(refine finW_ret ?_;simp [get]<;>(intros;omega);done)|(refine finW_rets ?_;simp [push_cast,get];done)|skip)
 | cons s rest=>
  have hb:=zip_bd hz
  have hks:=hk s (by rw [hz];simp)
  have hm:k*s.keys.length<=400*2^40:=Nat.mul_le_mul hk4 hks
  have hm2:(x*(s.keys.length:Int))=((k*s.keys.length:Nat):Int):=by rw [hx];simp
  rw [combP] at hd
  generalize hM:k*s.keys.length=M at *
  have hw:IntKind.i64.wrap (M:Int)=M:=by simp (disch:=omega) only [wrap64]
  by_cases h4:400<M
  ·have h4':decide ((M:Int)>400)=true:=by simp;omega
   rw [if_pos h4] at hd
   simp only [push_cast,seval,reduceEqDiff,hz,wrap_zip s (done:=done) (by omega),List.length_map,hm2,hw,h4']
   intros
   subst hd
   exact finW_ret (by simp [get])
  ·have h4':decide ((M:Int)>400)=false:=by simp;omega
   rw [if_neg h4] at hd
   simp only [push_cast,seval,reduceEqDiff,hz,wrap_zip s (done:=done) (by omega),List.length_map,hm2,hw,h4']
   intros
   exact ⟨_,_,Nat.lt_succ_self _,StLe.drop (fun _ _ h=>by cases h) (Nat.le_refl _),done++[s],rest,_,_,M,by simp,rfl,hd,by omega,rfl,rfl⟩
def rulesOf (l:Loc) (kind:Int):List Rule:=if kind == 8 then l.ord else l.card
theorem c_rules (l:Loc) (kind:Int) (hr:(Loc.enc l).ok=true):RetS Tryz.prog W0 110 [l.enc,.i .i64 kind] [] (.sl ((rulesOf l kind).map Rule.enc)) []:=by
 generalize hS:rulesOf l kind=S
 unfold rulesOf at hS
 rw [Loc.enc_eq]
 refine fn_retW (vs:=[.sl (S.map Rule.enc)]) f110ok (by simp) (by simp) fun n0 hn0=>?_
 clear hn0
 simp only [push_cast,seval,reduceEqDiff]
 repeat' (first|(((first|apply condU_s|apply gdU_t|apply gdU_f)<;>intro _h)<;>simp only [push_cast,seval,reduceEqDiff,_h])|intro _)
 all_goals subst hS
 all_goals (refine finW_ret ?_;simp [get, *])
def TPt:Nat:=43
def oE (lo:Option Id) (xs:List Part):Sto:=match lo with
 | none=>[]
 | some id=>[(id,.arr TPt 6 (xs.map Part.enc))]
def addP (o:List Part) (x:Part):List Part:=match o.getLast? with
 | none=>[x]
 | some y=>if x.kind == 1&&y.kind == 1 then o.dropLast++[{ y with text:=y.text++x.text }] else o++[x]
theorem addP_nil (x:Part):addP [] x=[x]:=rfl
theorem addP_snoc (d:List Part) (y x:Part):addP (d++[y]) x=if x.kind == 1&&y.kind == 1 then d++[{ y with text:=y.text++x.text }] else d++[y]++[x]:=by simp [addP]
theorem finNW_i {W0:World} {nt n s:Nat} {env:Env} {σ:Sto} {id:Id} {x:Ent} (hs:get env s = .arr id) (hl:lk σ id=some x):FinNW W0 nt s x [] .ret ⟨env,σ,n⟩:=
 ⟨_,StLe.refl,id,hs,hl,rfl,fun _ _ h=>by cases h⟩
theorem c_add (lo:Option Id) (o:List Part) (x:Part) (hn:lo=none->o=[]) (ho:o.length<=2^30) (ht:∀y∈o,y.text.length<=2^30) (hx:x.text.length<=2^30) :
  RetN Tryz.prog W0 100 [sv lo,x.enc] (oE lo o) (.arr TPt 6 ((addP o x).map Part.enc)) []:=by
 refine fn_newW (s:=4) f100ok (by simp) (by simp [lk]) fun n0 hn0=>?_
 cases lo with
 | none=>
  have ho:=hn rfl
  subst ho
  clear hn0
  have hsv:sv none = .nil:=rfl
  have hoe:oE none []=[]:=rfl
  simp only [push_cast,seval,reduceEqDiff,hsv,hoe,show decide ((0:Int)>0)=false from rfl,eq_true (show 1<=LLim by decide),TPt]
  repeat' (first|(((first|apply condU_s|apply gdU_t|apply gdU_f)<;>intro _h)<;>simp only [push_cast,seval,reduceEqDiff,_h,hsv,hoe,show decide ((0:Int)>0)=false from rfl,eq_true (show 1<=LLim by decide),TPt])|intro _)
  exact finNW_i rfl (by simp [lk,addP,Part.enc_eq])
 | some id=>
  have hid:id.1<n0:=hn0 id (.arr TPt 6 (o.map Part.enc)) (by simp [oE,lk])
  have f3:∀j,((n0,j)=id)=False:=fun j=>ne_idx hid
  have f3':∀j,(id=(n0,j))=False:=fun j=>eq_false fun he=>of_eq_false (f3 j) he.symm
  clear hn0
  have hsv:sv (some id) = .arr id:=rfl
  have hoe:oE (some id) o=[(id,.arr TPt 6 (o.map Part.enc))]:=rfl
  obtain rfl|⟨d,y,rfl⟩:o=[]\/∃d y,o=d++[y]:=by rcases List.eq_nil_or_concat o with h|⟨d,y,h⟩;exact .inl h;exact .inr ⟨d,y,by rw [h,List.concat_eq_append]⟩
  ·skip
   simp only [push_cast,seval,reduceEqDiff,hsv,hoe,show decide ((0:Int)>0)=false from rfl,eq_true (show 1<=LLim by decide),TPt,f3,f3',show (([]:List Part).length:Int)=0 from rfl,List.map_nil,List.length_nil,show ((0:Nat):Int)=0 from rfl]
   repeat' (first|(((first|apply condU_s|apply gdU_t|apply gdU_f)<;>intro _h)<;>simp only [push_cast,seval,reduceEqDiff,_h,hsv,hoe,show decide ((0:Int)>0)=false from rfl,eq_true (show 1<=LLim by decide),TPt,f3,f3',show (([]:List Part).length:Int)=0 from rfl,List.map_nil,List.length_nil,show ((0:Nat):Int)=0 from rfl])|intro _)
   exact finNW_i rfl (by simp [lk,addP,Part.enc_eq])
  ·have hlen:(((d++[y]).length:Int)>0):=by simp<;>omega
   have hw1:IntKind.i64.wrap ((((d++[y]).length:Nat):Int)-1)=(d.length:Int):=by
    simp only [List.length_append,List.length_cons,List.length_nil]
    rw [wrap64 (by simp at ho;omega) (by simp at ho;omega)];omega
   have hdl:d.length<(d++[y]).length:=by simp
   have hty:=ht y (by simp)
   generalize hA:addP (d++[y]) x=AO
   rw [addP_snoc] at hA
   have hset:∀t,((d++[y]).map Part.enc).set d.length (.agg [.i .i64 y.kind,.s t,.s y.name,.s y.style,.sl (y.cases.map Case.enc),.sl (y.parts.map Part.enc)])=(d++[({ y with text:=t }:Part)]).map Part.enc:=by
    intro t;simp [List.set_append,Part.enc_eq]
   have hll:(d++[y]).length+1<=LLim:=by unfold LLim;omega
   have hnv:List.map Part.enc (d++[y])++[x.enc]=(d++[y]++[x]).map Part.enc:=by simp
   rw [Part.enc_eq] at hnv
   simp only [push_cast,seval,reduceEqDiff,hsv,hoe,TPt,f3,f3',eq_true hlen,show (decide True)=true from rfl,hw1,if_pos hdl,hset,eq_true hll,hnv]
   repeat' (first|(((first|apply condU_s|apply gdU_t|apply gdU_f)<;>intro _h)<;>simp only [push_cast,seval,reduceEqDiff,_h,hsv,hoe,TPt,f3,f3',eq_true hlen,show (decide True)=true from rfl,hw1,if_pos hdl,hset,eq_true hll,hnv])|(refine jp_i (by simp only [List.length_append,List.length_cons,List.length_nil,SLim]<;>omega) ?_;simp only [push_cast,seval,reduceEqDiff,hsv,hoe,TPt,f3,f3',eq_true hlen,show (decide True)=true from rfl,hw1,if_pos hdl,hset,eq_true hll,hnv])|intro _)
   all_goals subst hA
   all_goals exact finNW_i rfl (by simp [lk, *])
def joinP (a b:List Part):List Part:=match a.getLast?,b with
 | some y,z::t=>if y.kind == 1&&z.kind == 1 then a.dropLast++[{ y with text:=y.text++z.text }]++t else a++b
 | _,_=>a++b
theorem okPt (l:List Part):∀y∈l.map Part.enc,y.ok=true:=by
 intro y hy;obtain ⟨x,_,rfl⟩:=List.mem_map.1 hy;rw [Part.enc_eq];rfl
end Go.Ir
section
namespace Go.Ir
def findC {α:Type} (cs:List (Bytes × α)) (k:Bytes):Option α:=(cs.find? fun c=>c.1 == k).map (·.2)
def pickC {α:Type} (cls:Bytes->Bytes) (kind:Int) (cs:List (Bytes × α)) (key:Bytes):Option α:=
 (findC cs key).or ((if headEq key&&kind != 9 then findC cs (cls key.tail) else none).or (findC cs kOtherS))
theorem findC_map {α β:Type} (f:α->β) (cs:List (Bytes × α)) (k:Bytes):findC (cs.map fun c=>(c.1,f c.2)) k=(findC cs k).map f:=by
 unfold findC
 induction cs with
 | nil=>rfl
 | cons c cs ih=>
  simp only [List.map_cons,List.find?_cons]
  cases c.1 == k
  ·exact ih
  ·rfl
theorem or_map {α β:Type} (f:α->β) (a b:Option α):(a.or b).map f=(a.map f).or (b.map f):=by cases a<;>rfl
theorem pickC_map {α β:Type} (f:α->β) (cls:Bytes->Bytes) (kind:Int) (cs:List (Bytes × α)) (k:Bytes):pickC cls kind (cs.map fun c=>(c.1,f c.2)) k=(pickC cls kind cs k).map f:=by
 unfold pickC
 rw [findC_map,findC_map,findC_map,or_map,or_map]
 split<;>rfl
theorem findC_mem {α:Type} {cs:List (Bytes × α)} {k:Bytes} {a:α} (h:findC cs k=some a):(k,a)∈cs:=by
 unfold findC at h
 simp only [Option.map_eq_some_iff] at h
 obtain ⟨c,hc,rfl⟩:=h
 have h1:=List.find?_some hc
 have h2:=List.mem_of_find?_eq_some hc
 have h3:c.1=k:=by simpa using h1
 rw [<-h3];exact h2
theorem or_some {α:Type} {a b:Option α} {x:α} (h:a.or b=some x):a=some x\/b=some x:=by
 cases a with
 | none=>right;exact h
 | some y=>left;exact h
theorem pickC_mem {α:Type} {cls:Bytes->Bytes} {kind:Int} {cs:List (Bytes × α)} {key:Bytes} {a:α} (h:pickC cls kind cs key=some a):∃k,(k,a)∈cs:=by
 unfold pickC at h
 rcases or_some h with h|h
 ·exact ⟨_,findC_mem h⟩
 ·rcases or_some h with h|h
  ·split at h
   ·exact ⟨_,findC_mem h⟩
   ·cases h
  ·exact ⟨_,findC_mem h⟩
abbrev Pick:=Int->Bytes->List (Bytes × List Part)->List Part
mutual
def Part.res (pk:Pick) (count:Bytes):Part->List Part->List Part
 | ⟨k,t,nm,st,cs,ps⟩,out=>
  if selB k then (pk k nm (resCs pk (if k == 9 then count else nm) cs)).foldl addP out
  else if k == 10 then out++[⟨3,[],count,[],[],[]⟩]
  else if k == 11 then out++[⟨k,t,nm,st,cs,resPs pk count ps []⟩]
  else addP out ⟨k,t,nm,st,cs,ps⟩
def resPs (pk:Pick) (count:Bytes):List Part->List Part->List Part
 | [],out=>out
 | p::ps,out=>resPs pk count ps (p.res pk count out)
def resCs (pk:Pick) (count:Bytes):List (Bytes × List Part)->List (Bytes × List Part)
 | []=>[]
 | (k,ps)::cs=>(k,resPs pk count ps [])::resCs pk count cs
end
theorem Part.res_eq (pk:Pick) (count:Bytes) (p:Part) (out:List Part):p.res pk count out =
  if selB p.kind then (pk p.kind p.name (resCs pk (if p.kind == 9 then count else p.name) p.cases)).foldl addP out
  else if p.kind == 10 then out++[⟨3,[],count,[],[],[]⟩]
  else if p.kind == 11 then out++[⟨p.kind,p.text,p.name,p.style,p.cases,resPs pk count p.parts []⟩]
  else addP out p:=by cases p;simp only [Part.res]
theorem resPs_cons (pk:Pick) (count:Bytes) (p:Part) (ps out:List Part):resPs pk count (p::ps) out=resPs pk count ps (p.res pk count out):=by simp only [resPs]
theorem resCs_map (pk:Pick) (count:Bytes) (cs:List (Bytes × List Part)):resCs pk count cs=cs.map fun c=>(c.1,resPs pk count c.2 []):=by
 induction cs with
 | nil=>simp only [resCs,List.map_nil]
 | cons c cs ih=>obtain ⟨k,ps⟩:=c;simp only [resCs,List.map_cons,ih]
mutual
def Part.rres (pk:Pick) (count:Bytes):Part->List Part->List Part
 | ⟨k,t,nm,st,cs,ps⟩,out=>
  if k == 10 then out++[⟨3,[],count,[],[],[]⟩]
  else if k == 11 then out++[⟨k,[],nm,[],[],rresPs pk count ps []⟩]
  else if selB k then joinP out (pk k nm (rresCs pk (if k == 9 then count else nm) cs))
  else joinP out [⟨k,t,nm,st,cs,ps⟩]
def rresPs (pk:Pick) (count:Bytes):List Part->List Part->List Part
 | [],out=>out
 | p::ps,out=>rresPs pk count ps (p.rres pk count out)
def rresCs (pk:Pick) (count:Bytes):List (Bytes × List Part)->List (Bytes × List Part)
 | []=>[]
 | (k,ps)::cs=>(k,rresPs pk count ps [])::rresCs pk count cs
end
theorem Part.rres_eq (pk:Pick) (count:Bytes) (p:Part) (out:List Part):p.rres pk count out =
  if p.kind == 10 then out++[⟨3,[],count,[],[],[]⟩]
  else if p.kind == 11 then out++[⟨p.kind,[],p.name,[],[],rresPs pk count p.parts []⟩]
  else if selB p.kind then joinP out (pk p.kind p.name (rresCs pk (if p.kind == 9 then count else p.name) p.cases))
  else joinP out [p]:=by cases p;simp only [Part.rres]
theorem rresPs_cons (pk:Pick) (count:Bytes) (p:Part) (ps out:List Part):rresPs pk count (p::ps) out=rresPs pk count ps (p.rres pk count out):=by simp only [rresPs]
theorem rresCs_map (pk:Pick) (count:Bytes) (cs:List (Bytes × List Part)):rresCs pk count cs=cs.map fun c=>(c.1,rresPs pk count c.2 []):=by
 induction cs with
 | nil=>simp only [rresCs,List.map_nil]
 | cons c cs ih=>obtain ⟨k,ps⟩:=c;simp only [rresCs,List.map_cons,ih]
def tw (ps:List Part):Nat:=(ps.map fun p=>1+p.text.length).sum
theorem tw_nil:tw []=0:=rfl
theorem tw_cons (p:Part) (ps:List Part):tw (p::ps)=1+p.text.length+tw ps:=by simp [tw]
theorem tw_app (a b:List Part):tw (a++b)=tw a+tw b:=by simp [tw]
theorem len_tw (a:List Part):a.length<=tw a:=by
 induction a with
 | nil=>simp
 | cons p a ih=>rw [tw_cons];simp;omega
theorem text_tw {a:List Part} {p:Part} (h:p∈a):p.text.length<=tw a:=by
 induction a with
 | nil=>cases h
 | cons q a ih=>
  rw [tw_cons]
  rcases List.mem_cons.1 h with rfl|h
  ·omega
  ·have:=ih h;omega
theorem tw_add (o:List Part) (x:Part):tw (addP o x)<=tw o+(1+x.text.length):=by
 rcases List.eq_nil_or_concat o with rfl|⟨d,y,rfl⟩
 ·simp [addP,tw]
 ·rw [List.concat_eq_append,addP_snoc]
  split
  ·simp only [tw_app,tw_cons,tw_nil,List.length_append];omega
  ·simp only [tw_app,tw_cons,tw_nil];omega
theorem tw_adds (l:List Part):∀o,tw (l.foldl addP o)<=tw o+tw l:=by
 induction l with
 | nil=>intro o;simp [tw]
 | cons x l ih=>intro o;rw [List.foldl_cons,tw_cons];have h1:=ih (addP o x);have h2:=tw_add o x;omega
theorem tw_join (a b:List Part):tw (joinP a b)<=tw a+tw b:=by
 unfold joinP
 rcases List.eq_nil_or_concat a with rfl|⟨d,y,rfl⟩
 ·simp [tw]
 ·rw [List.concat_eq_append]
  cases b with
  | nil=>simp [tw]
  | cons z t=>
   simp only [List.getLast?_append,List.getLast?_singleton,Option.some_or,List.dropLast_concat]
   split
   ·simp only [tw_app,tw_cons,tw_nil,List.length_append];omega
   ·simp only [tw_app,tw_cons,tw_nil];omega
def Picks (pk:Pick):Prop:=∀k nm cs,pk k nm cs=[]\/∃key,(key,pk k nm cs)∈cs
theorem res_w (pk:Pick) (hpk:Picks pk):∀(N:Nat) (ps:List Part),wtPs ps<N->∀count out,tw (resPs pk count ps out)<=tw out+wtPs ps/\tw (rresPs pk count ps out)<=tw out+wtPs ps:=by
 intro N
 induction N with
 | zero=>intro ps h;omega
 | succ N ih=>
  intro ps
  induction ps with
  | nil=>intro _ count out;simp [resPs,rresPs]
  | cons p ps ih2=>
   intro h count out
   rw [wtPs_cons] at h
   rw [resPs_cons,rresPs_cons,wtPs_cons]
   have h1:=(ih2 (by omega) count (p.res pk count out)).1
   have h2:=(ih2 (by omega) count (p.rres pk count out)).2
   have hw:=p.wt_eq
   have hl:∀count key q,(key,q)∈resCs pk count p.cases->tw q<=wtCs p.cases:=by
    intro count key q hq
    rw [resCs_map] at hq
    obtain ⟨c,hc,he⟩:=List.mem_map.1 hq
    cases he
    have:=wtCs_mem hc
    have:=(ih c.2 (by omega) count []).1
    rw [tw_nil] at this;omega
   have hlr:∀count key q,(key,q)∈rresCs pk count p.cases->tw q<=wtCs p.cases:=by
    intro count key q hq
    rw [rresCs_map] at hq
    obtain ⟨c,hc,he⟩:=List.mem_map.1 hq
    cases he
    have:=wtCs_mem hc
    have:=(ih c.2 (by omega) count []).2
    rw [tw_nil] at this;omega
   have ha:tw (p.res pk count out)<=tw out+p.wt:=by
    rw [p.res_eq]
    split
    ·have h5:=tw_adds (pk p.kind p.name (resCs pk (if p.kind == 9 then count else p.name) p.cases)) out
     rcases hpk p.kind p.name (resCs pk (if p.kind == 9 then count else p.name) p.cases) with h3|⟨key,h3⟩
     ·rw [h3,tw_nil] at h5;rw [h3];omega
     ·have:=hl _ _ _ h3;omega
    ·split
     ·rw [tw_app,tw_cons,tw_nil];simp only [List.length_nil];omega
     ·split
      ·rw [tw_app,tw_cons,tw_nil];show tw out+(1+p.text.length+0)<=_;omega
      ·have:=tw_add out p;omega
   have hb:tw (p.rres pk count out)<=tw out+p.wt:=by
    rw [p.rres_eq]
    split
    ·rw [tw_app,tw_cons,tw_nil];simp only [List.length_nil];omega
    ·split
     ·rw [tw_app,tw_cons,tw_nil];simp only [List.length_nil];omega
     ·split
      ·have h5:=tw_join out (pk p.kind p.name (rresCs pk (if p.kind == 9 then count else p.name) p.cases))
       rcases hpk p.kind p.name (rresCs pk (if p.kind == 9 then count else p.name) p.cases) with h3|⟨key,h3⟩
       ·rw [h3,tw_nil] at h5;rw [h3];omega
       ·have:=hlr _ _ _ h3;omega
      ·have h5:=tw_join out [p]
       rw [tw_cons,tw_nil] at h5;omega
   exact ⟨by omega,by omega⟩
end Go.Ir
end
namespace Go.Ir
open Go.Proofs
variable (W0 : World)
def ixC {α:Type} (cs:List (Bytes × α)) (k:Bytes):Int:=idxI (fun c=>c.1 == k) cs
theorem ixC_find {α:Type} (cs:List (Bytes × α)) (k:Bytes):(ixC cs k<0/\findC cs k=none)\/∃j c,ixC cs k=(j:Nat)/\cs[j]? = some c/\findC cs k=some c.2:=by
 unfold ixC findC
 induction cs with
 | nil=>left;simp [idxI]
 | cons c cs ih=>
  simp only [idxI,List.find?_cons]
  cases hc:c.1 == k with
  | true=>right;exact ⟨0,c,by simp,rfl,rfl⟩
  | false=>
   simp only [cond_false]
   rcases ih with ⟨h1,h2⟩|⟨j,d,h1,h2,h3⟩
   ·left;rw [if_pos h1];exact ⟨by decide,h2⟩
   ·right;rw [h1];exact ⟨j+1,d,by rw [if_neg (by omega)];omega,by simpa using h2,h3⟩
theorem c_ch11 (c:Case) (k:Bytes) (kid:Id) (σ:Sto) (hk:lk σ kid=some (.box (.s k))):RetS Tryz.prog W0 142 [Case.enc c,.ref kid 0] σ (.b (c.1 == k)) σ:=by
 obtain ⟨a,ps⟩:=c
 refine fn_retW (vs:=[.b (a == k)]) f142ok (by simp) (fun _ h=>h) fun n0 hn0=>?_
 have h1:∀j,((n0,j)=kid)=False:=fun j=>ne_idx (hn0 _ _ hk)
 simp only [push_cast,seval,reduceEqDiff,h1,hk]
 intros
 exact finW_retS (by simp [get]) (fun i e h=>lk_fresh (hn0 i e h) h)
theorem c_ch1 (x:Part) (k:Bytes) (xid:Id) (σ:Sto) (hx:lk σ xid=some (.box x.v)) (hl:x.cases.length<=2^40):RetS Tryz.prog W0 140 [.s k,.ref xid 0] σ (.i .i64 (ixC x.cases k)) σ:=by
 generalize hS:ixC x.cases k=S
 unfold ixC at hS
 refine fn_retW (vs:=[.i .i64 S]) f140ok (by simp) (fun _ h=>h) fun n0 hn0=>?_
 have h1:∀j,((n0,j)=xid)=False:=fun j=>ne_idx (hn0 _ _ hx)
 have hif:=indexFunc_ret (P:=Tryz.prog) (W0:=W0) (f:=141) (e:=78) (sz:=2) (ag:=true) (by kernel_rfl) Case.enc x.cases (fun c=>c.1 == k) 142 [] [.ref (n0,2) 0] [((n0,2),.box (.s k))] (fun c _=>elOk_agg rfl) (fun c _=>c_ch11 W0 c k _ _ (by simp [lk])) (by omega)
 rw [hS] at hif
 unfold Part.v at hx
 simp only [push_cast,seval,reduceEqDiff,h1,hx]
 intro _
 refine c_callr hif (fun i e h=>?_) ?_
 ·simp only [lk] at h⊢
  split at h
  ·rename_i he;rw [if_pos he];exact h
  ·cases h
 simp only [push_cast,seval,reduceEqDiff,h1,hx]
 intro _
 exact finW_retS (by simp [get]) (fun i e h=>lk_fresh (hn0 i e h) h)
theorem cutEq (s:Bytes):Lib.hasPrefix s [61]=headEq s/\(headEq s=true->Lib.trimPrefix s [61]=s.tail):=by
 cases s with
 | nil=>exact ⟨by decide,by decide⟩
 | cons c t=>
  have h:headEq (c::t)=(c == 61):=by
   unfold headEq;rw [Bool.eq_iff_iff];simp only [beq_iff_eq,<-UInt8.toNat_inj];show _↔c.toNat=61;omega
  have e1:Lib.hasPrefix (c::t) [61]=(61 == c):=by simp [Lib.hasPrefix,List.isPrefixOf]
  have e2:(61 == c)=(c == 61):=by rw [Bool.eq_iff_iff];simp only [beq_iff_eq];exact eq_comm
  rw [h,<-e2]
  refine ⟨e1,fun he=>?_⟩
  unfold Lib.trimPrefix
  rw [e1,he];rfl
def clsN (l:Loc) (kind:Int) (n:Bytes):Bytes:=(classV (rulesOf l kind) n).1
set_option maxHeartbeats 4000000 in
theorem c_chosen (l:Loc) (x:Part) (key:Bytes) (hr:(Loc.enc l).ok=true) (hrl:l.rest.length=11) (hb:wtRules l.card+wtRules l.ord<=2^24) (hkl:key.length<=2^30) (hcl:x.cases.length<=2^40) (ho:findC x.cases kOtherS≠none) :
  RetS Tryz.prog W0 99 [l.enc,x.enc,.s key] [] (.sl (((pickC (clsN l x.kind) x.kind x.cases key).getD []).map Part.enc)) []:=by
 have hcut:=c_cutPrefix W0 key [61]
 obtain ⟨hc1,hc2⟩:=cutEq key
 rw [hc1] at hcut
 generalize hS:(pickC (clsN l x.kind) x.kind x.cases key).getD []=S
 unfold pickC at hS
 have hch:=fun k xid σ hx=>c_ch1 W0 x k xid σ hx hcl
 unfold Part.v at hch
 rw [Loc.enc_eq]
 refine fn_retW (vs:=[.sl (S.map Part.enc)]) f99ok (by simp) (by simp) fun n0 hn0=>?_
 clear hn0
 simp only [push_cast,seval,reduceEqDiff]
 intro k1 k2
 refine c_calls (hch key (n0,4) _ (by simp [lk])) (fun _ _ h=>h) ?_
 rw [over_self]
 have hget:∀(j:Nat) (c:Case),x.cases[j]? = some c->(x.cases.map Case.enc)[j]? = some (.agg [.s c.1,.sl (c.2.map Part.enc)]):=by
  intro j c h;rw [List.getElem?_map,h];obtain ⟨a,b⟩:=c;rw [Option.map_some,Case.enc_eq]
 have hjl:∀(j:Nat) (c:Case),x.cases[j]? = some c->j<x.cases.length:=fun j c h=>(List.getElem?_eq_some_iff.1 h).1
 have hoth:∃(j:Nat) (c:Case),ixC x.cases kOtherS=(j:Nat)/\x.cases[j]? = some c/\findC x.cases kOtherS=some c.2:=by
  rcases ixC_find x.cases kOtherS with ⟨_,h⟩|h
  ·exact absurd h ho
  ·exact h
 obtain ⟨jo,co,hjo,hjo2,hfo⟩:=hoth
 rw [hfo] at hS
 rcases ixC_find x.cases key with ⟨hi,hf⟩|⟨j,c,hi,hj,hf⟩
 ·have hi':decide (ixC x.cases key<0)=true:=by simpa using hi
  rw [hf] at hS
  generalize hI:ixC x.cases key=I at *
  have hcho:=fun xid σ hx=>hch kOtherS xid σ hx
  rw [hjo] at hcho
  unfold kOtherS at hcho
  generalize hB:(headEq key&&x.kind != 9)=B at hS
  cases B with
  | false=>
   have hS2:S=co.2:=by rw [<-hS];rfl
   have hBB:headEq key=false\/headEq key=true/\(x.kind != 9)=false:=by
    cases h1:headEq key with
    | false=>exact .inl rfl
    | true=>rw [h1] at hB;exact .inr ⟨rfl,by simpa using hB⟩
   clear hS
   rcases hBB with h1|⟨h1,h2⟩
   ·rw [h1] at hcut
    simp only [push_cast,seval,reduceEqDiff,hi',hget jo co hjo2,if_pos (hjl jo co hjo2),hS2,List.length_map]
    repeat' (first|(((first|apply condU_s|apply gdU_t|apply gdU_f)<;>intro _h)<;>simp only [push_cast,seval,reduceEqDiff,_h,hi',hget jo co hjo2,if_pos (hjl jo co hjo2),hS2,List.length_map])|(refine c_call (by exact hcut) ?_;simp only [push_cast,seval,reduceEqDiff,hi',hget jo co hjo2,if_pos (hjl jo co hjo2),hS2,List.length_map])|intro _)
    refine c_calls (hcho (n0,4) _ (by simp [lk])) (fun _ _ h=>h) ?_
    rw [over_self]
    simp only [push_cast,seval,reduceEqDiff,hi',hget jo co hjo2,if_pos (hjl jo co hjo2),hS2,List.length_map]
    intros
    exact finW_ret (by simp [get])
   ·rw [h1] at hcut
    simp only [push_cast,seval,reduceEqDiff,hi',hget jo co hjo2,if_pos (hjl jo co hjo2),hS2,List.length_map,h2]
    repeat' (first|(((first|apply condU_s|apply gdU_t|apply gdU_f)<;>intro _h)<;>simp only [push_cast,seval,reduceEqDiff,_h,hi',hget jo co hjo2,if_pos (hjl jo co hjo2),hS2,List.length_map,h2])|(refine c_call (by exact hcut) ?_;simp only [push_cast,seval,reduceEqDiff,hi',hget jo co hjo2,if_pos (hjl jo co hjo2),hS2,List.length_map,h2])|intro _)
    refine c_calls (hcho (n0,4) _ (by simp [lk])) (fun _ _ h=>h) ?_
    rw [over_self]
    simp only [push_cast,seval,reduceEqDiff,hi',hget jo co hjo2,if_pos (hjl jo co hjo2),hS2,List.length_map,h2]
    intros
    exact finW_ret (by simp [get])
  | true=>
   simp only [Bool.and_eq_true] at hB
   obtain ⟨h1,h2⟩:=hB
   rw [h1,hc2 h1] at hcut
   have hru:=c_rules W0 l x.kind hr
   have hwr:wtRules (rulesOf l x.kind)<=2^30:=by unfold rulesOf;split<;>omega
   have hcl2:=c_class W0 (rulesOf l x.kind) key.tail (by simp;omega) hwr
   have hcn:clsN l x.kind key.tail=(classV (rulesOf l x.kind) key.tail).1:=rfl
   rw [hcn] at hS
   generalize (classV (rulesOf l x.kind) key.tail).1=CN at *
   generalize (classV (rulesOf l x.kind) key.tail).2=CE at *
   rw [Loc.enc_eq] at hru
   have htk:List.take 11 l.rest=l.rest:=by rw [<-hrl,List.take_length]
   rcases ixC_find x.cases CN with ⟨hi2,hf2⟩|⟨j,c,hi2,hj,hf2⟩
   ·have hi2':decide (ixC x.cases CN<0)=true:=by simpa using hi2
    rw [hf2] at hS
    have hS2:S=co.2:=by rw [<-hS];rfl
    simp only [push_cast,seval,reduceEqDiff,hi',hget jo co hjo2,if_pos (hjl jo co hjo2),hS2,List.length_map,h2,htk,if_pos hrl,hi2']
    repeat' (first|(((first|apply condU_s|apply gdU_t|apply gdU_f)<;>intro _h)<;>simp only [push_cast,seval,reduceEqDiff,_h,hi',hget jo co hjo2,if_pos (hjl jo co hjo2),hS2,List.length_map,h2,htk,if_pos hrl,hi2'])|((first|refine c_call (by exact hcut) ?_|refine c_call (by exact hru) ?_|refine c_call (by exact hcl2) ?_);simp only [push_cast,seval,reduceEqDiff,hi',hget jo co hjo2,if_pos (hjl jo co hjo2),hS2,List.length_map,h2,htk,if_pos hrl,hi2'])|intro _)
    refine c_calls (hch CN (n0,4) _ (by simp [lk])) (fun _ _ h=>h) ?_
    rw [over_self]
    simp only [push_cast,seval,reduceEqDiff,hi',hget jo co hjo2,if_pos (hjl jo co hjo2),hS2,List.length_map,h2,htk,if_pos hrl,hi2']
    intros
    refine c_calls (hcho (n0,4) _ (by simp [lk])) (fun _ _ h=>h) ?_
    rw [over_self]
    simp only [push_cast,seval,reduceEqDiff,hi',hget jo co hjo2,if_pos (hjl jo co hjo2),hS2,List.length_map,h2,htk,if_pos hrl,hi2']
    intros
    exact finW_ret (by simp [get])
   ·rw [hf2] at hS
    have hS2:S=c.2:=by rw [<-hS];rfl
    have hi2':decide ((j:Int)<0)=false:=by simp
    have hch2:=fun xid σ hx=>hch CN xid σ hx
    rw [hi2] at hch2
    clear hjo2 hfo hjo
    simp only [push_cast,seval,reduceEqDiff,hi',hget j c hj,if_pos (hjl j c hj),hS2,List.length_map,h2,htk,if_pos hrl,hi2']
    repeat' (first|(((first|apply condU_s|apply gdU_t|apply gdU_f)<;>intro _h)<;>simp only [push_cast,seval,reduceEqDiff,_h,hi',hget j c hj,if_pos (hjl j c hj),hS2,List.length_map,h2,htk,if_pos hrl,hi2'])|((first|refine c_call (by exact hcut) ?_|refine c_call (by exact hru) ?_|refine c_call (by exact hcl2) ?_);simp only [push_cast,seval,reduceEqDiff,hi',hget j c hj,if_pos (hjl j c hj),hS2,List.length_map,h2,htk,if_pos hrl,hi2'])|intro _)
    refine c_calls (hch2 (n0,4) _ (by simp [lk])) (fun _ _ h=>h) ?_
    rw [over_self]
    simp only [push_cast,seval,reduceEqDiff,hi',hget j c hj,if_pos (hjl j c hj),hS2,List.length_map,h2,htk,if_pos hrl,hi2']
    intros
    exact finW_ret (by simp [get])
 ·rw [hi]
  rw [hf] at hS
  clear hjo2 hfo hjo
  have hi':decide ((j:Int)<0)=false:=by simp
  have hS2:S=c.2:=by rw [<-hS];rfl
  simp only [push_cast,seval,reduceEqDiff,hi',hget j c hj,if_pos (hjl j c hj),hS2,List.length_map]
  repeat' (first|(((first|apply condU_s|apply gdU_t|apply gdU_f)<;>intro _h)<;>simp only [push_cast,seval,reduceEqDiff,_h,hi',hget j c hj,if_pos (hjl j c hj),hS2,List.length_map])|(refine c_call (by exact hcut) ?_;simp only [push_cast,seval,reduceEqDiff,hi',hget j c hj,if_pos (hjl j c hj),hS2,List.length_map])|intro _)
  exact finW_ret (by simp [get])
end Go.Ir
section
namespace Go.Ir
open Go.Proofs
variable (W0 : World)
mutual
def Part.all (f:Part->Prop):Part->Prop
 | ⟨k,t,nm,st,cs,ps⟩=>f ⟨k,t,nm,st,cs,ps⟩/\allCs f cs/\allPs f ps
def allPs (f:Part->Prop):List Part->Prop
 | []=>True
 | p::ps=>p.all f/\allPs f ps
def allCs (f:Part->Prop):List (Bytes × List Part)->Prop
 | []=>True
 | (k,ps)::cs=>allPs f ps/\allCs f cs
end
theorem Part.all_eq (f:Part->Prop) (p:Part):p.all f↔f p/\allCs f p.cases/\allPs f p.parts:=by cases p;simp only [Part.all]
theorem allPs_cons (f:Part->Prop) (p:Part) (ps:List Part):allPs f (p::ps)↔p.all f/\allPs f ps:=by simp only [allPs]
theorem allCs_cons (f:Part->Prop) (c:Case) (cs:List Case):allCs f (c::cs)↔allPs f c.2/\allCs f cs:=by obtain ⟨a,b⟩:=c;simp only [allCs]
theorem allCs_mem {f:Part->Prop} {cs:List Case} (h:allCs f cs) {c:Case} (hc:c∈cs):allPs f c.2:=by
 induction cs with
 | nil=>cases hc
 | cons d cs ih=>
  rw [allCs_cons] at h
  rcases List.mem_cons.1 hc with rfl|hc
  ·exact h.1
  ·exact ih h.2 hc
def keyAt (L:List Sel) (keys:List Bytes) (k:Int) (nm:Bytes):Bytes:=keys[(findI L k nm).toNat]?.getD []
def pkP (l:Loc) (L:List Sel) (keys:List Bytes):Pick:=fun k nm cs=>(pickC (clsN l k) k cs (keyAt L keys k nm)).getD []
theorem pkP_picks (l:Loc) (L:List Sel) (keys:List Bytes):Picks (pkP l L keys):=by
 intro k nm cs
 unfold pkP
 cases h:pickC (clsN l k) k cs (keyAt L keys k nm) with
 | none=>left;rfl
 | some a=>right;obtain ⟨key,hk⟩:=pickC_mem h;exact ⟨key,hk⟩
def resOk (L:List Sel) (p:Part):Prop:=selB p.kind=true->¬findI L p.kind p.name<0/\findC p.cases kOtherS≠none
theorem rest11 {r:List V} (h:r.length=11):∃a b c d e f g i j k l,r=[a,b,c,d,e,f,g,i,j,k,l]:=by
 match r,h with
 | [a,b,c,d,e,f,g,i,j,k,l],_=>exact ⟨a,b,c,d,e,f,g,i,j,k,l,rfl⟩
theorem c_res1 (s:Sel) (x:Part) (xid:Id) (σ:Sto) (hx:lk σ xid=some (.box x.v)):RetS Tryz.prog W0 98 [s.enc,.ref xid 0] σ (.b (selIs x.kind x.name s)) σ:=by
 generalize hS:selIs x.kind x.name s=S
 unfold selIs at hS
 refine fn_retW (vs:=[.b S]) f98ok (by simp) (fun _ h=>h) fun n0 hn0=>?_
 have h1:∀j,((n0,j)=xid)=False:=fun j=>ne_idx (hn0 _ _ hx)
 unfold Part.v at hx
 simp only [push_cast,seval,reduceEqDiff,h1,hx]
 repeat' (first|(((first|apply condU_s|apply gdU_t|apply gdU_f)<;>intro _h)<;>simp only [push_cast,seval,reduceEqDiff,_h,h1,hx])|intro _)
 all_goals subst hS
 all_goals (refine finW_retS (by simp [get, *]) (fun i e h=>lk_fresh (hn0 i e h) h))
theorem finW_frzS {W0:World} {nt n s:Nat} {env:Env} {σ σ':Sto} {id:Id} {e sz:Nat} {es:List V} (hs:get env s = .arr id) (hok:∀y∈es,y.ok=true) (hl:lk σ id=some (.arr e sz es)) (hσ:∀i e',lk σ' i=some e'->lk σ i=some e'/\i≠id):FinW W0 nt [.t s] [.sl es] σ' .ret ⟨env,σ,n⟩:=by
 refine ⟨⟨[(s,.sl es)],σ',n⟩,StLe.weak (fun i=>if i=id then some es else none) (fun i es' h=>?_) (fun t=>?_) (fun i e' h=>⟨e',(hσ i e' h).1,.refl _⟩) (Nat.le_refl _),⟨by simp [ResOk,get],trivial⟩,fun _ _ h=>h⟩
 ·split at h
  ·rename_i hi;subst hi;cases h
   refine ⟨⟨e,sz,hl⟩,?_⟩
   cases hl2:lk σ' i with
   | none=>rfl
   | some e'=>exact absurd rfl (hσ i e' hl2).2
  ·cases h
 ·by_cases ht:s=t
  ·subst ht
   rw [hs]
   simp only [get,if_true]
   refine .arr id es es (by simp) rfl (fun k c c' h1 h2=>?_) (fun k c c' h1 h2=>?_)
   ·rw [h1] at h2;cases h2;exact .refl _
   ·rw [h1] at h2;cases h2
    have:=hok c (List.mem_of_getElem? h1)
    exact ⟨rfl,this,this⟩
  ·simp only [get,if_neg ht];exact .any _
def rV (l:Loc) (L:List Sel) (keys:List Bytes):V:=.agg (.s l.tag :: .s l.parent :: .s l.dir :: .sl (l.card.map Rule.enc) :: .sl (l.ord.map Rule.enc)::(l.rest++[.sl (L.map Sel.enc),.sl (keys.map V.s)]))
theorem over_3 {id a c:Id} {A X Y C:Ent} (h1:(id=a)=False) (h2:(id=c)=False):over [(id,X)] [] [(a,A),(id,Y),(c,C)]=[(a,A),(c,C)]:=by
 simp [over,lk,h1,h2,List.filter]
theorem snocLe {W0:World} {nt n n':Nat} {env:Env} {σ τ:Sto} {id:Id} {o:List Part} {v:V} {y:Part} (hv:∀φ,VLe φ v y.enc) (hl:(cells y.enc).length=(cells v).length) (hk:v.ok=true)
  (h0:lk σ id=some (.arr TPt 6 (o.map Part.enc++[v]))) (hτ:∀i e,lk τ i=some e->(i=id/\e = .arr TPt 6 ((o++[y]).map Part.enc))\/lk σ i=some e) (hn:n<=n'):StLe W0 nt ⟨env,σ,n⟩ ⟨env,τ,n'⟩:=by
 refine StLe.weak (fun _=>none) (fun _ _ h=>by cases h) (fun _=>.refl _) (fun i e hi=>?_) hn
 rcases hτ i e hi with ⟨rfl,rfl⟩|h
 ·refine ⟨_,h0,.arr _ _ _ _ (by simp) fun k c c' h1 h2=>?_⟩
  rw [List.map_append] at h2
  by_cases hk2:k<(o.map Part.enc).length
  ·rw [List.getElem?_append_left hk2] at h1 h2
   rw [h1] at h2;cases h2
   have hm:=List.mem_of_getElem? h1
   have:=okPt _ _ hm
   exact ⟨.refl _,rfl,this,this⟩
  ·rw [List.getElem?_append_right (by omega)] at h1 h2
   cases hq:k-(o.map Part.enc).length with
   | zero=>
    rw [hq] at h1 h2
    simp at h1 h2
    subst h1 h2
    exact ⟨hv _,hl,hk,okPt [y] _ (by simp)⟩
   | succ q=>rw [hq] at h1;simp at h1
 ·exact ⟨e,h,.refl _⟩
theorem vle_count (count:Bytes) (φ:Id->Option (List V)):VLe φ (.agg [.i .i64 3,.s [],.s count,.s [],.nil,.nil]) (Part.enc ⟨3,[],count,[],[],[]⟩):=by
 rw [Part.enc_eq]
 refine .agg _ _ rfl fun k c c' h1 h2=>?_
 match k with
 | 0=>simp at h1 h2;subst h1 h2;exact .refl _
 | 1=>simp at h1 h2;subst h1 h2;exact .refl _
 | 2=>simp at h1 h2;subst h1 h2;exact .refl _
 | 3=>simp at h1 h2;subst h1 h2;exact .refl _
 | 4=>simp at h1 h2;subst h1 h2;exact .nil
 | 5=>simp at h1 h2;subst h1 h2;exact .nil
 | k+6=>simp at h1
set_option maxHeartbeats 4000000 in
theorem adds_loop (rid:Id) (R:V) (a0 a2 a14 a15 a16:V) (RP:List Part) (n0:Nat) (hrid:rid.1<n0) (id0:Id) (o0:List Part) (m0:Nat) (hid0:n0<=id0.1) (hid1:id0.1<m0) (hw:tw o0+tw RP<=2^26) (Q:Exit->St->Prop)
  (hQ:∀id n,n0<=id.1->id.1<n->Q (.exit 3) ⟨[(0,a0),(2,a2),(7,.arr id),(14,a14),(15,a15),(16,a16),(54,.sl (RP.map Part.enc)),(55,.i .i64 RP.length),(56,.i .i64 RP.length),(57,.b false)],[(id,.arr TPt 6 ((RP.foldl addP o0).map Part.enc)),(rid,.box R)],n⟩) :
  LoopW Tryz.prog W0 89 f48_34 Q ⟨[(0,a0),(2,a2),(7,.arr id0),(14,a14),(15,a15),(16,a16),(54,.sl (RP.map Part.enc)),(55,.i .i64 RP.length),(56,.i .i64 0)],[(id0,.arr TPt 6 (o0.map Part.enc)),(rid,.box R)],m0⟩:=by
 generalize hS:RP.foldl addP o0=S at hQ
 have hrl:=len_tw RP
 have hRl:RP.length<=2^26:=by omega
 refine aWP_loopW RP.length (Inv:=fun m st=>∃done rest n id o,RP=done++rest/\m=rest.length/\rest.foldl addP o=S/\tw o+tw rest<=2^26/\n0<=id.1/\id.1<n/\st=⟨[(0,a0),(2,a2),(7,.arr id),(14,a14),(15,a15),(16,a16),(54,.sl (RP.map Part.enc)),(55,.i .i64 RP.length),(56,.i .i64 done.length)],[(id,.arr TPt 6 (o.map Part.enc)),(rid,.box R)],n⟩) ⟨_,StLe.refl,[],RP,_,_,o0,rfl,rfl,hS,hw,hid0,hid1,rfl⟩ ?_
 clear hS hw hid0 hid1
 rintro m _ ⟨done,rest,n,id,o,hz,rfl,hd,hw,hi0,hin,rfl⟩
 have fir:(id=rid)=False:=eq_false fun he=>by rw [he] at hi0;omega
 have fri:(rid=id)=False:=eq_false fun he=>of_eq_false fir he.symm
 cases rest with
 | nil=>
  rw [List.foldl_nil] at hd
  subst hd
  rw [hz] at hQ⊢
  simp only [List.append_nil] at hQ⊢
  simp only [push_cast,seval,reduceEqDiff]
  intros
  exact hQ _ _ hi0 (by omega)
 | cons p rest=>
  have hbd:=zip_bd hz
  rw [List.foldl_cons] at hd
  rw [tw_cons] at hw
  have hot:o.length<=2^30:=by have:=len_tw o;omega
  have hoT:∀y∈o,y.text.length<=2^30:=fun y hy=>by have:=text_tw hy;omega
  have hadd:=c_add W0 (some id) o p (fun h=>by cases h) hot hoT (by omega)
  rw [Part.enc_eq] at hadd
  have fix:∀k j,(id=(n+1+k,j))=False:=fun k j=>eq_false fun he=>by rw [he] at hin;simp at hin;omega
  have fxi:∀k j,((n+1+k,j)=id)=False:=fun k j=>eq_false fun he=>of_eq_false (fix k j) he.symm
  have frx:∀k j,(rid=(n+1+k,j))=False:=fun k j=>eq_false fun he=>by rw [he] at hrid;simp at hrid;omega
  simp only [push_cast,seval,reduceEqDiff,hz,wrap_zip p (done:=done) (by omega),fix,fxi,frx]
  intros
  refine c_calln hadd (fun i e h=>?_) ?_
  ·simp only [oE,lk] at h
   split at h
   ·rename_i he;subst he;simp only [lk,fxi,if_false,if_true];exact h
   ·cases h
  rw [show oE (some id) o=[(id,.arr TPt 6 (o.map Part.enc))] from rfl,over_3 (fix _ _) fir]
  simp only [push_cast,seval,reduceEqDiff,hz,wrap_zip p (done:=done) (by omega),fix,fxi,frx]
  intros
  exact ⟨_,_,Nat.lt_succ_self _,StLe.dropM (by simp [lk,frx]) (Nat.le_refl _),done++[p],rest,_,_,addP o p,by simp,rfl,hd,by have:=tw_add o p;omega,by (try simp);omega,by (try simp);omega,rfl⟩
set_option maxHeartbeats 4000000 in
theorem c_resolve (l:Loc) (L:List Sel) (keys:List Bytes) (rid:Id) (hr:(Loc.enc l).ok=true) (hrl:l.rest.length=11) (hb:wtRules l.card+wtRules l.ord<=2^24) (hLl:L.length<=2^26) (hkl:keys.length=L.length) (hkb:∀k∈keys,k.length<=2^30) :
  ∀(N:Nat) (ps:List Part) (count:Bytes),wtPs ps<N->wtPs ps<=2^24->allPs (resOk L) ps->
  RetS Tryz.prog W0 48 [.ref rid 0,.sl (ps.map Part.enc),.s count] [(rid,.box (rV l L keys))] (.sl ((resPs (pkP l L keys) count ps []).map Part.enc)) [(rid,.box (rV l L keys))]:=by
 intro N
 induction N with
 | zero=>intro ps count h;omega
 | succ N ih=>
 intro ps count hN hw0 ha
 have hlen:=len_wtPs ps
 have hpk:=pkP_picks l L keys
 generalize hP:pkP l L keys=pk at *
 generalize hS:resPs pk count ps []=S
 refine fn_retW (vs:=[.sl (S.map Part.enc)]) f48ok (by simp) (fun _ h=>h) fun n0 hn0=>?_
 have hrid:rid.1<n0:=hn0 rid (.box (rV l L keys)) (by simp [lk])
 clear hn0
 have fr:∀a j,n0<=a->((a,j)=rid)=False:=fun a j h=>ne_idx (by omega)
 have fr':∀a j,n0<=a->(rid=(a,j))=False:=fun a j h=>eq_false fun he=>of_eq_false (fr a j h) he.symm
 simp only [push_cast,seval,reduceEqDiff]
 intros
 refine aWP_loopW ps.length (Inv:=fun m st=>∃done rest n id o,ps=done++rest/\m=rest.length/\resPs pk count rest o=S/\tw o+wtPs rest<=2^25/\allPs (resOk L) rest/\n0<=id.1/\id.1<n/\st=⟨[(0,.ref rid 0),(2,.s count),(7,.arr id),(14,.sl (ps.map Part.enc)),(15,.i .i64 ps.length),(16,.i .i64 done.length)],[(id,.arr TPt 6 (o.map Part.enc)),(rid,.box (rV l L keys))],n⟩) ⟨_,(StLe.own (s:=7) (e:=TPt) (sz:=6) (k:=99) rfl).trans (StLe.envD (fun t=>?_) (Nat.le_refl _)),[],ps,_,_,[],rfl,rfl,hS,by rw [tw_nil];omega,ha,?_,?_,rfl⟩ ?_
 ·left
  by_cases h3:7=t
  ·subst h3;rfl
  ·simp [get,h3]
 ·simp;omega
 ·simp
 clear hS ha
 rintro m _ ⟨done,rest,n,id,o,hz,rfl,hd,hw,ha,hi0,hin,rfl⟩
 have fir:(id=rid)=False:=eq_false fun he=>by rw [he] at hi0;omega
 have fri:(rid=id)=False:=eq_false fun he=>of_eq_false fir he.symm
 cases rest with
 | nil=>
  rw [resPs] at hd
  subst hd
  simp only [push_cast,seval,reduceEqDiff,hz]
  intros
  exact finW_frzS (e:=TPt) (sz:=6) rfl (okPt _) (by simp [lk,fri]) (fun i e h=>by
   simp only [lk] at h⊢
   split at h
   ·rename_i he;subst he;rw [if_neg (of_eq_false fir),if_pos rfl];exact ⟨h,of_eq_false fri⟩
   ·cases h)
 | cons p rest=>
  have hbd:=zip_bd hz
  have hwp:=wtPs_mem (ps:=ps) (p:=p) (by rw [hz];simp)
  rw [wtPs_cons] at hw
  have hpw:=p.wt_eq
  rw [allPs_cons,p.all_eq] at ha
  obtain ⟨⟨ha1,ha2,ha3⟩,ha4⟩:=ha
  rw [resPs_cons,p.res_eq] at hd
  have hsel:=c_sSel W0 p.kind
  have fix:∀k j,(id=(n+1+k,j))=False:=fun k j=>eq_false fun he=>by rw [he] at hin;simp at hin;omega
  have fxi:∀k j,((n+1+k,j)=id)=False:=fun k j=>eq_false fun he=>of_eq_false (fix k j) he.symm
  have frx:∀k j,(rid=(n+1+k,j))=False:=fun k j=>fr' _ _ (by omega)
  have fxr:∀k j,((n+1+k,j)=rid)=False:=fun k j=>fr _ _ (by omega)
  have hot:o.length<=2^30:=by have:=len_tw o;omega
  have hoT:∀y∈o,y.text.length<=2^30:=fun y hy=>by have:=text_tw hy;omega
  have hadd:=c_add W0 (some id) o p (fun h=>by cases h) hot hoT (by omega)
  rw [Part.enc_eq] at hadd
  have hsub:∀X:Id × Ent,X.1≠id->∀i e,lk (oE (some id) o) i=some e->lk [X,(id,.arr TPt 6 (o.map Part.enc)),(rid,.box (rV l L keys))] i=some e:=by
   intro X hX i e h
   simp only [oE,lk] at h
   split at h
   ·rename_i he;subst he;obtain ⟨a,b⟩:=X;simp only [lk,if_neg hX,if_true];exact h
   ·cases h
  cases hs:selB p.kind with
  | false=>
   rw [hs] at hd hsel
   have hll:o.length+1<=LLim:=by unfold LLim;omega
   cases h10:p.kind == 10 with
   | true=>
    rw [h10] at hd
    simp only [bq,if_true,if_false,Int.reduceBEq,reduceCtorEq] at hd
    simp only [push_cast,seval,reduceEqDiff,hz,wrap_zip p (done:=done) (by omega),fix,fxi,frx,fxr,fir,fri,h10,eq_true hll,List.length_map,TPt]
    repeat' (first|(((first|apply condU_s|apply gdU_t|apply gdU_f)<;>intro _h)<;>simp only [push_cast,seval,reduceEqDiff,_h,hz,wrap_zip p (done:=done) (by omega),fix,fxi,frx,fxr,fir,fri,h10,eq_true hll,List.length_map,TPt])|(refine c_call (by exact hsel) ?_;simp only [push_cast,seval,reduceEqDiff,hz,wrap_zip p (done:=done) (by omega),fix,fxi,frx,fxr,fir,fri,h10,eq_true hll,List.length_map,TPt])|intro _)
    rename_i k1 k2 k3 k4 k5 k6
    exact ⟨_,_,Nat.lt_succ_self _,snocLe (id:=(n+1+k1+1+k2+1+k3+1+k4,72)) (o:=o) (vle_count count) (by rw [Part.enc_eq];rfl) rfl (by simp [lk,TPt]) (fun i e h=>by
     simp only [lk] at h⊢
     split at h
     ·rename_i he;subst he;left;cases h;exact ⟨rfl,rfl⟩
     ·rename_i he;rw [if_neg he];right
      rw [if_neg (fun h2=>by rw [<-h2] at h;simp [frx,frx] at h)]
      exact h) (Nat.le_refl _),done++[p],rest,_,_,o++[⟨3,[],count,[],[],[]⟩],by simp,rfl,hd,by rw [tw_app,tw_cons,tw_nil];simp only [List.length_nil];omega,ha4,by simp;omega,by simp;omega,rfl⟩
   | false=>
    rw [h10] at hd
    cases h11:p.kind == 11 with
    | true=>
     rw [h11] at hd
     simp only [bq,if_true,if_false,Int.reduceBEq,reduceCtorEq] at hd
     have hre:=ih p.parts count (by omega) (by omega) ha3
     generalize hRP:resPs pk count p.parts []=RP at *
     have hnv:List.map Part.enc o++[V.agg [.i .i64 p.kind,.s p.text,.s p.name,.s p.style,.sl (p.cases.map Case.enc),.sl (RP.map Part.enc)]]=List.map Part.enc (o++[⟨p.kind,p.text,p.name,p.style,p.cases,RP⟩]):=by
      rw [List.map_append,List.map_cons,Part.enc_eq ⟨p.kind,p.text,p.name,p.style,p.cases,RP⟩];rfl
     simp only [push_cast,seval,reduceEqDiff,hz,wrap_zip p (done:=done) (by omega),fix,fxi,frx,fxr,fir,fri,h10,h11,eq_true hll,List.length_map,TPt,hnv]
     repeat' (first|(((first|apply condU_s|apply gdU_t|apply gdU_f)<;>intro _h)<;>simp only [push_cast,seval,reduceEqDiff,_h,hz,wrap_zip p (done:=done) (by omega),fix,fxi,frx,fxr,fir,fri,h10,h11,eq_true hll,List.length_map,TPt,hnv])|(refine c_call (by exact hsel) ?_;simp only [push_cast,seval,reduceEqDiff,hz,wrap_zip p (done:=done) (by omega),fix,fxi,frx,fxr,fir,fri,h10,h11,eq_true hll,List.length_map,TPt,hnv])|intro _)
     refine c_callr hre (fun i e h=>?_) ?_
     ·simp only [lk] at h
      split at h
      ·rename_i he;subst he;simp only [lk,fxr,fir,if_false,if_true];exact h
      ·cases h
     simp only [push_cast,seval,reduceEqDiff,hz,wrap_zip p (done:=done) (by omega),fix,fxi,frx,fxr,fir,fri,h10,h11,eq_true hll,List.length_map,TPt,hnv]
     intros
     exact ⟨_,_,Nat.lt_succ_self _,StLe.dropM (by simp [lk,frx]) (Nat.le_refl _),done++[p],rest,_,_,o++[⟨p.kind,p.text,p.name,p.style,p.cases,RP⟩],by simp,rfl,hd,by rw [tw_app,tw_cons,tw_nil];simp only;omega,ha4,by simp;omega,by simp;omega,rfl⟩
    | false=>
     rw [h11] at hd
     simp only [bq,if_true,if_false,Int.reduceBEq,reduceCtorEq] at hd
     simp only [push_cast,seval,reduceEqDiff,hz,wrap_zip p (done:=done) (by omega),fix,fxi,frx,fxr,fir,fri,h10,h11]
     repeat' (first|(((first|apply condU_s|apply gdU_t|apply gdU_f)<;>intro _h)<;>simp only [push_cast,seval,reduceEqDiff,_h,hz,wrap_zip p (done:=done) (by omega),fix,fxi,frx,fxr,fir,fri,h10,h11])|(refine c_call (by exact hsel) ?_;simp only [push_cast,seval,reduceEqDiff,hz,wrap_zip p (done:=done) (by omega),fix,fxi,frx,fxr,fir,fri,h10,h11])|intro _)
     rename_i k1 k2 k3 k4 k5
     refine c_calln hadd (hsub _ (of_eq_false (fxi _ _))) ?_
     rw [show oE (some id) o=[(id,.arr TPt 6 (o.map Part.enc))] from rfl,over_3 (fix _ _) fir]
     simp only [push_cast,seval,reduceEqDiff,hz,wrap_zip p (done:=done) (by omega),fix,fxi,frx,fxr,fir,fri,h10,h11]
     intros
     exact ⟨_,_,Nat.lt_succ_self _,StLe.dropM (by simp [lk,frx]) (Nat.le_refl _),done++[p],rest,_,_,addP o p,by simp,rfl,hd,by have:=tw_add o p;omega,ha4,by simp;omega,by simp;omega,rfl⟩
  | true=>
   rw [hs] at hd hsel
   simp only [bq,if_true,if_false,Int.reduceBEq,reduceCtorEq] at hd
   obtain ⟨hf0,hoc⟩:=ha1 hs
   have hjlt:=idxI_lt (selIs p.kind p.name) L
   obtain ⟨j,hj⟩:∃j:Nat,findI L p.kind p.name=j:=⟨(findI L p.kind p.name).toNat,by omega⟩
   have hj2:j<keys.length:=by
    rw [show idxI (selIs p.kind p.name) L=findI L p.kind p.name from rfl,hj] at hjlt;omega
   have hkj:keys[j]? = some keys[j]:=List.getElem?_eq_getElem hj2
   have hka:keyAt L keys p.kind p.name=keys[j]:=by unfold keyAt;rw [hj,Int.toNat_natCast,hkj];rfl
   have hkl2:keys[j].length<=2^30:=hkb _ (List.getElem_mem hj2)
   have hlc:=len_wtCs p.cases
   have hch:=c_chosen W0 l p keys[j] hr hrl hb hkl2 (by omega) hoc
   have hpe:∀cs,pk p.kind p.name cs=(pickC (clsN l p.kind) p.kind cs keys[j]).getD []:=fun cs=>by rw [<-hP];unfold pkP;rw [hka]
   rw [hpe,resCs_map,pickC_map (fun q=>resPs pk (if p.kind == 9 then count else p.name) q [])] at hd
   obtain ⟨CP,hCP,hCa⟩:∃CP,pickC (clsN l p.kind) p.kind p.cases keys[j]=some CP/\∃k,(k,CP)∈p.cases:=by
    cases h:pickC (clsN l p.kind) p.kind p.cases keys[j] with
    | none=>
     exfalso
     unfold pickC at h
     cases h1:findC p.cases kOtherS with
     | none=>exact hoc h1
     | some y=>
      rw [h1] at h
      cases h2:findC p.cases keys[j] with
      | some z=>rw [h2] at h;cases h
      | none=>
       rw [h2] at h
       split at h
       ·cases h3:findC p.cases (clsN l p.kind keys[j].tail) with
        | none=>rw [h3] at h;cases h
        | some z=>rw [h3] at h;cases h
       ·cases h
    | some CP=>exact ⟨CP,rfl,pickC_mem h⟩
   obtain ⟨ck,hCm⟩:=hCa
   rw [hCP] at hch hd
   simp only [Option.getD_some,Option.map_some] at hch hd
   have hcw:=wtCs_mem hCm
   have hcall:=allCs_mem ha2 hCm
   have hre:=fun cnt=>ih CP cnt (by simp only at hcw;omega) (by simp only at hcw;omega) hcall
   have hif:=fun (xid:Id)=>indexFunc_ret (P:=Tryz.prog) (W0:=W0) (f:=97) (e:=TS) (sz:=3) (ag:=true) (by kernel_rfl) Sel.enc L (selIs p.kind p.name) 98 [] [.ref xid 0] [(xid,.box p.v)] (fun s _=>elOk_agg rfl) (fun s _=>c_res1 W0 s p _ _ (by simp [lk])) (by omega)
   rw [show idxI (selIs p.kind p.name) L=findI L p.kind p.name from rfl,hj] at hif
   unfold Part.v at hif
   rw [Loc.enc_eq,Part.enc_eq] at hch
   obtain ⟨r1,r2,r3,r4,r5,r6,r7,r8,r9,r10,r11,hrest⟩:=rest11 hrl
   have hRV:rV l L keys = .agg [.s l.tag,.s l.parent,.s l.dir,.sl (l.card.map Rule.enc),.sl (l.ord.map Rule.enc),r1,r2,r3,r4,r5,r6,r7,r8,r9,r10,r11,.sl (L.map Sel.enc),.sl (keys.map V.s)]:=by
    unfold rV;rw [hrest];rfl
   rw [hrest] at hch
   simp only [hRV] at hre⊢
   have hks:(keys.map V.s)[j]? = some (.s keys[j]):=by rw [List.getElem?_map,hkj];rfl
   cases h9:p.kind == 9 with
   | true=>
    have hn9:(p.kind != 9)=false:=by simp [bne,h9]
    rw [h9] at hd
    simp only [bq,if_true,if_false,Int.reduceBEq,reduceCtorEq] at hd
    simp only [push_cast,seval,reduceEqDiff,hz,wrap_zip p (done:=done) (by omega),fix,fxi,frx,fxr,fir,fri,hn9,hks,if_pos hj2,List.length_map]
    repeat' (first|(((first|apply condU_s|apply gdU_t|apply gdU_f)<;>intro _h)<;>simp only [push_cast,seval,reduceEqDiff,_h,hz,wrap_zip p (done:=done) (by omega),fix,fxi,frx,fxr,fir,fri,hn9,hks,if_pos hj2,List.length_map])|(refine c_call (by exact hsel) ?_;simp only [push_cast,seval,reduceEqDiff,hz,wrap_zip p (done:=done) (by omega),fix,fxi,frx,fxr,fir,fri,hn9,hks,if_pos hj2,List.length_map])|intro _)
    refine c_callr (hif _) (fun i e h=>?_) ?_
    ·simp only [lk] at h⊢
     split at h
     ·rename_i he;rw [if_pos he];exact h
     ·cases h
    simp only [push_cast,seval,reduceEqDiff,hz,wrap_zip p (done:=done) (by omega),fix,fxi,frx,fxr,fir,fri,hn9,hks,if_pos hj2,List.length_map]
    intros
    refine c_call hch ?_
    simp only [push_cast,seval,reduceEqDiff,hz,wrap_zip p (done:=done) (by omega),fix,fxi,frx,fxr,fir,fri,hn9,hks,if_pos hj2,List.length_map]
    refine c_callr (hre count) (fun i e h=>?_) ?_
    ·simp only [lk] at h
     split at h
     ·rename_i he;subst he;simp only [lk,fxr,fir,if_false,if_true];exact h
     ·cases h
    have htr:=(res_w pk hpk _ CP (Nat.lt_succ_self _) count []).1
    rw [tw_nil] at htr
    have htw:=tw_adds (resPs pk count CP []) o
    simp only [push_cast,seval,reduceEqDiff,hz,wrap_zip p (done:=done) (by omega),fix,fxi,frx,fxr,fir,fri,hn9,hks,if_pos hj2,List.length_map]
    intros
    generalize resPs pk count CP []=RP at *
    refine loopW_le (StLe.drop (fun i e h=>lk_drop1 (by simp [lk,frx,fix]) i e h) (Nat.le_refl _)) (adds_loop W0 rid _ _ _ _ _ _ RP n0 hrid id o _ hi0 (by omega) (by simp only at hcw;omega) _ fun id2 n2 h1 h2=>?_)
    simp only [push_cast,seval,reduceEqDiff,hz,wrap_zip p (done:=done) (by omega),fix,fxi,frx,fxr,fir,fri,hn9,hks,if_pos hj2,List.length_map]
    intros
    exact ⟨_,_,Nat.lt_succ_self _,StLe.refl,done++[p],rest,_,_,RP.foldl addP o,by simp,rfl,hd,by simp only at hcw;omega,ha4,by (try simp);omega,by (try simp);omega,rfl⟩
   | false=>
    have hn9:(p.kind != 9)=true:=by simp [bne,h9]
    rw [h9] at hd
    simp only [bq,if_true,if_false,Int.reduceBEq,reduceCtorEq] at hd
    simp only [push_cast,seval,reduceEqDiff,hz,wrap_zip p (done:=done) (by omega),fix,fxi,frx,fxr,fir,fri,hn9,hks,if_pos hj2,List.length_map]
    repeat' (first|(((first|apply condU_s|apply gdU_t|apply gdU_f)<;>intro _h)<;>simp only [push_cast,seval,reduceEqDiff,_h,hz,wrap_zip p (done:=done) (by omega),fix,fxi,frx,fxr,fir,fri,hn9,hks,if_pos hj2,List.length_map])|(refine c_call (by exact hsel) ?_;simp only [push_cast,seval,reduceEqDiff,hz,wrap_zip p (done:=done) (by omega),fix,fxi,frx,fxr,fir,fri,hn9,hks,if_pos hj2,List.length_map])|intro _)
    refine c_callr (hif _) (fun i e h=>?_) ?_
    ·simp only [lk] at h⊢
     split at h
     ·rename_i he;rw [if_pos he];exact h
     ·cases h
    simp only [push_cast,seval,reduceEqDiff,hz,wrap_zip p (done:=done) (by omega),fix,fxi,frx,fxr,fir,fri,hn9,hks,if_pos hj2,List.length_map]
    intros
    refine c_call hch ?_
    simp only [push_cast,seval,reduceEqDiff,hz,wrap_zip p (done:=done) (by omega),fix,fxi,frx,fxr,fir,fri,hn9,hks,if_pos hj2,List.length_map]
    refine c_callr (hre p.name) (fun i e h=>?_) ?_
    ·simp only [lk] at h
     split at h
     ·rename_i he;subst he;simp only [lk,fxr,fir,if_false,if_true];exact h
     ·cases h
    have htr:=(res_w pk hpk _ CP (Nat.lt_succ_self _) p.name []).1
    rw [tw_nil] at htr
    have htw:=tw_adds (resPs pk p.name CP []) o
    simp only [push_cast,seval,reduceEqDiff,hz,wrap_zip p (done:=done) (by omega),fix,fxi,frx,fxr,fir,fri,hn9,hks,if_pos hj2,List.length_map]
    intros
    generalize resPs pk p.name CP []=RP at *
    refine loopW_le (StLe.drop (fun i e h=>lk_drop1 (by simp [lk,frx,fix]) i e h) (Nat.le_refl _)) (adds_loop W0 rid _ _ _ _ _ _ RP n0 hrid id o _ hi0 (by omega) (by simp only at hcw;omega) _ fun id2 n2 h1 h2=>?_)
    simp only [push_cast,seval,reduceEqDiff,hz,wrap_zip p (done:=done) (by omega),fix,fxi,frx,fxr,fir,fri,hn9,hks,if_pos hj2,List.length_map]
    intros
    exact ⟨_,_,Nat.lt_succ_self _,StLe.refl,done++[p],rest,_,_,RP.foldl addP o,by simp,rfl,hd,by simp only at hcw;omega,ha4,by (try simp);omega,by (try simp);omega,rfl⟩
end Go.Ir
end
namespace Go.Ir
open Go.Proofs
variable (W0 : World)
def decK:List Sel->Nat->List Bytes × Nat
 | [],i=>([],i)
 | s::L,i=>(s.keys[(decK L i).2 % s.keys.length]?.getD []::(decK L i).1,(decK L i).2 / s.keys.length)
theorem decK_len (L:List Sel) (i:Nat):(decK L i).1.length=L.length:=by
 induction L with
 | nil=>rfl
 | cons s L ih=>simp [decK,ih]
theorem decK_le (L:List Sel) (i:Nat):(decK L i).2<=i:=by
 induction L with
 | nil=>exact Nat.le_refl _
 | cons s L ih=>exact Nat.le_trans (Nat.div_le_self _ _) ih
theorem rest16 {r:List V} (h:r.length=16):∃a b c d e f g i j k l m n o p q,r=[a,b,c,d,e,f,g,i,j,k,l,m,n,o,p,q]:=by
 match r,h with
 | [a,b,c,d,e,f,g,i,j,k,l,m,n,o,p,q],_=>exact ⟨a,b,c,d,e,f,g,i,j,k,l,m,n,o,p,q,rfl⟩
set_option maxHeartbeats 4000000 in
theorem keys_loop (L:List Sel) (hL:L.length<=2^26) (hk:∀s∈L,s.keys≠[]/\s.keys.length<=2^26) (i:Nat) (hi:i<=2^30) (rid kid fid:Id) (h1:(rid=kid)=False) (h2:(rid=fid)=False) (h3:(kid=fid)=False) (A:List V) (hA:A.length=16) (X:V) (τ:Sto) (a1 a2 a4 a37 a38:V) (n0:Nat) (Q:Exit->St->Prop)
  (hQ:∀n,n0<=n->Q (.exit 2) ⟨[(1,a1),(2,a2),(4,a4),(6,.ref fid 0),(9,.ref rid 0),(10,.i .i64 (decK L i).2),(11,.i .i64 (-1)),(37,a37),(38,a38),(56,.b false)],(rid,.box (.agg (A++[.sl (L.map Sel.enc),.arr kid])))::(kid,.arr 9 1 ((decK L i).1.map V.s))::(fid,.box (.agg [.sl (L.map Sel.enc),X]))::τ,n⟩) :
  LoopW Tryz.prog W0 92 f18_46 Q ⟨[(1,a1),(2,a2),(4,a4),(6,.ref fid 0),(9,.ref rid 0),(10,.i .i64 i),(11,.i .i64 ((L.length:Int)-1)),(37,a37),(38,a38)],(rid,.box (.agg (A++[.sl (L.map Sel.enc),.arr kid])))::(kid,.arr 9 1 ((List.replicate L.length []).map V.s))::(fid,.box (.agg [.sl (L.map Sel.enc),X]))::τ,n0⟩:=by
 refine aWP_loopW L.length (Inv:=fun m st=>∃B C n k r,L=B++C/\m=B.length/\k=(B.length:Int)-1/\r=(((decK C i).2:Nat):Int)/\n0<=n/\st=⟨[(1,a1),(2,a2),(4,a4),(6,.ref fid 0),(9,.ref rid 0),(10,.i .i64 r),(11,.i .i64 k),(37,a37),(38,a38)],(rid,.box (.agg (A++[.sl (L.map Sel.enc),.arr kid])))::(kid,.arr 9 1 ((List.replicate B.length []++(decK C i).1).map V.s))::(fid,.box (.agg [.sl (L.map Sel.enc),X]))::τ,n⟩) ⟨_,StLe.refl,L,[],n0,(L.length:Int)-1,(i:Int),(List.append_nil L).symm,rfl,rfl,rfl,Nat.le_refl _,by rw [show (decK [] i).1=[] from rfl,List.append_nil]⟩ ?_
 rintro m _ ⟨B,C,n,k,r,hz,rfl,hk1,hr1,hn,rfl⟩
 obtain rfl|⟨D,s,rfl⟩:B=[]\/∃D s,B=D++[s]:=by rcases List.eq_nil_or_concat B with h|⟨d,y,h⟩;exact .inl h;exact .inr ⟨d,y,by rw [h,List.concat_eq_append]⟩
 ·simp at hz hk1
  subst hz hk1 hr1
  simp only [push_cast,seval,reduceEqDiff,show decide ((-1:Int)>=0)=false from rfl]
  intros
  exact hQ _ (by omega)
 ·have hL2:L=D++s::C:=by rw [hz];simp
  have hks:=hk s (by rw [hL2];simp)
  have hkp:0<s.keys.length:=List.length_pos_iff.2 hks.1
  have hbd:=zip_bd hL2
  have hk2:k=(D.length:Int):=by rw [hk1];simp
  have hrl:=decK_le C i
  have hmod:(r.tmod (s.keys.length:Int))=(((decK C i).2 % s.keys.length:Nat):Int):=by rw [hr1];rfl
  have hdiv:(r.tdiv (s.keys.length:Int))=(((decK C i).2 / s.keys.length:Nat):Int):=by rw [hr1];rfl
  have hdl:(decK C i).2 / s.keys.length<=(decK C i).2:=Nat.div_le_self _ _
  have hml:=Nat.mod_lt (decK C i).2 hkp
  have hwr0:∀d:Nat,d<=2^30->IntKind.i64.wrap (d:Int)=d:=fun d h=>by simp (disch:=omega) only [wrap64]
  have hwk:IntKind.i64.wrap ((D.length:Int)-1)=(D.length:Int)-1:=by simp (disch:=omega) only [wrap64]
  have hne:(s.keys.length:Int)≠0:=by omega
  obtain ⟨key,hkey⟩:∃key,s.keys[(decK C i).2 % s.keys.length]? = some key:=⟨_,List.getElem?_eq_getElem hml⟩
  have hget:(s.keys.map V.s)[(decK C i).2 % s.keys.length]? = some (.s key):=by rw [List.getElem?_map,hkey];rfl
  have hset:(List.map V.s (List.replicate (D++[s]).length []++(decK C i).1)).set D.length (.s key)=List.map V.s (List.replicate D.length []++(decK (s::C) i).1):=by
   simp only [List.length_append,List.length_cons,List.length_nil,decK,hkey,Option.getD_some]
   rw [List.replicate_succ']
   simp [List.set_append]
  have hkl:D.length<(List.replicate (D++[s]).length ([]:Bytes)++(decK C i).1).length:=by simp;omega
  have hge:decide ((D.length:Int)>=0)=true:=by simp
  have hsg:(L.map Sel.enc)[D.length]? = some s.enc:=by rw [hL2,List.getElem?_map,List.getElem?_append_right (by simp)];simp
  have hgk:(List.map V.s (List.replicate (D++[s]).length []++(decK C i).1))[D.length]? = some (.s []):=by
   rw [List.getElem?_map,List.getElem?_append_left (by simp),List.getElem?_replicate];simp
  have hdec:(decK (s::C) i).2=(decK C i).2 / s.keys.length:=rfl
  subst hk2
  generalize (decK C i).2 % s.keys.length=q at *
  generalize (decK C i).2 / s.keys.length=dd at *
  have hwr:=hwr0 dd (by omega)
  obtain ⟨b0,b1,b2,b3,b4,b5,b6,b7,b8,b9,b10,b11,b12,b13,b14,b15,rfl⟩:=rest16 hA
  simp only [push_cast,seval,reduceEqDiff,hge,show (decide True)=true from rfl,hsg,hmod,hdiv,hwr,hwk,hget,hset,hgk,if_pos hkl,if_pos hml,if_pos hbd,eq_true hne,h1,h2,h3,List.length_map,hne]
  intros
  exact ⟨_,_,by simp,StLe.refl,D,s::C,_,_,_,hL2,rfl,rfl,by rw [hdec],by omega,rfl⟩
theorem decK_at (L:List Sel) (hk:∀s∈L,s.keys≠[]) (i:Nat):∀(j:Nat) (k:Bytes),(decK L i).1[j]? = some k->∃s,L[j]? = some s/\k∈s.keys:=by
 induction L with
 | nil=>intro j k h;simp [decK] at h
 | cons s L ih=>
  intro j k h
  cases j with
  | zero=>
   have hp:0<s.keys.length:=List.length_pos_iff.2 (hk s (by simp))
   have hm:=Nat.mod_lt (decK L i).2 hp
   simp only [decK,List.getElem?_cons_zero,Option.some.injEq] at h
   rw [List.getElem?_eq_getElem hm,Option.getD_some] at h
   exact ⟨s,rfl,by rw [<-h];exact List.getElem_mem hm⟩
  | succ j=>
   simp only [decK,List.getElem?_cons_succ] at h⊢
   exact ih (fun t ht=>hk t (by simp [ht])) j k h
theorem decK_short {L:List Sel} (hk:∀s∈L,s.keys≠[]) {M:Nat} (hl:∀s∈L,∀k∈s.keys,k.length<=M) (i:Nat):∀k∈(decK L i).1,k.length<=M:=by
 intro k hm
 obtain ⟨j,hj⟩:=List.getElem?_of_mem hm
 obtain ⟨s,hs,hmem⟩:=decK_at L hk i j k hj
 exact hl s (List.mem_of_getElem? hs) k hmem
theorem frz_box {W0:World} {nt n n' e sz:Nat} {env env':Env} {τ:Sto} {rid kid:Id} {A es:List V} (hrk:rid≠kid) (hτ:lk τ kid=none) (hok:∀y∈es,y.ok=true) (henv:∀s,get env' s=get env s\/get env' s = .any) (hn:n<=n') :
  StLe W0 nt ⟨env,(rid,.box (.agg (A++[.arr kid])))::(kid,.arr e sz es)::τ,n⟩ ⟨env',(rid,.box (.agg (A++[.sl es])))::τ,n'⟩:=by
 refine StLe.weak (fun i=>if i=kid then some es else none) (fun i es' h=>?_) (fun s=>?_) (fun i e' h=>?_) hn
 ·split at h
  ·rename_i hi;subst hi;cases h
   simp only [lk,if_neg hrk]
   exact ⟨⟨e,sz,by simp⟩,hτ⟩
  ·cases h
 ·rcases henv s with h|h
  ·rw [h];exact .refl _
  ·rw [h];exact .any _
 ·simp only [lk] at h⊢
  by_cases hi:rid=i
  ·rw [if_pos hi] at h⊢
   cases h
   refine ⟨_,rfl,.box _ _ (.agg _ _ (by simp) fun k c c' h1 h2=>?_) (by simp [cells]) rfl rfl⟩
   by_cases hk:k<A.length
   ·rw [List.getElem?_append_left hk] at h1 h2
    rw [h1] at h2;cases h2;exact .refl _
   ·rw [List.getElem?_append_right (by omega)] at h1 h2
    cases hq:k-A.length with
    | zero=>
     rw [hq] at h1 h2
     simp at h1 h2
     subst h1 h2
     refine .arr kid es es (by simp) rfl (fun k c c' h1 h2=>?_) (fun k c c' h1 h2=>?_)
     ·rw [h1] at h2;cases h2;exact .refl _
     ·rw [h1] at h2;cases h2
      have:=hok c (List.mem_of_getElem? h1)
      exact ⟨rfl,this,this⟩
    | succ q=>rw [hq] at h1;simp at h1
  ·rw [if_neg hi] at h⊢
   have hne:kid≠i:=by rintro rfl;rw [hτ] at h;cases h
   rw [if_neg hne]
   exact ⟨_,h,.refl _⟩
abbrev FormP:=List Sel × List (List Part)
def vEnc (v:List Part):V:=.sl (v.map Part.enc)
def formV (f:FormP):V:=.agg [.sl (f.1.map Sel.enc),.sl (f.2.map vEnc)]
theorem okV (l:List (List Part)):∀y∈l.map vEnc,y.ok=true:=by
 intro y hy;obtain ⟨x,_,rfl⟩:=List.mem_map.1 hy;rfl
def varsOf (pkf:List Bytes->Pick) (L:List Sel) (ps:List Part) (n:Nat):List (List Part):=(List.range n).map fun i=>resPs (pkf (decK L i).1) [] ps []
def flatP (l:Loc) (ps:List Part):FormP × Int:=
 if !validP ps then (([],[]),1)
 else if decide ((combP 1 (selsP ps):Int)>400) then (([],[]),6)
 else if !rulesF [] l.card||!rulesF [] l.ord then (([],[]),18)
 else ((selsP ps,varsOf (pkP l (selsP ps)) (selsP ps) ps (combP 1 (selsP ps))),0)
theorem finForm {W0:World} {nt n:Nat} {env:Env} {σ:Sto} {id:Id} {u:V} {f:FormP} {e:Int} (h4:get env 4 = .ref id 0) (h5:get env 5 = .i .i64 e) (hu:lk σ id=some (.box u)) (φ:Id->Option (List V)) (hφ:∀i es,φ i=some es->(∃e sz,lk σ i=some (.arr e sz es))/\i≠id)
  (hv:VLe φ u (formV f)) (hl:(cells u).length=2) (ho:u.ok=true):FinW W0 nt [.c 4 2 true,.t 5] [formV f,.i .i64 e] [] .ret ⟨env,σ,n⟩:=by
 refine ⟨⟨[(4,.ref id 0),(5,.i .i64 e)],[(id,.box (formV f))],n⟩,StLe.weak φ (fun i es h=>?_) (fun t=>?_) (fun i e' h=>?_) (Nat.le_refl _),⟨⟨id,0,formV f,rfl,by simp [lk],rfl⟩,rfl,trivial⟩,fun _ _ h=>by cases h⟩
 ·obtain ⟨a,b⟩:=hφ i es h
  exact ⟨a,by simp only [lk];rw [if_neg (fun he=>b he.symm)]⟩
 ·by_cases ht:4=t
  ·subst ht;rw [h4];exact .refl _
  ·by_cases ht5:5=t
   ·subst ht5;rw [h5];exact .refl _
   ·simp only [get,if_neg ht,if_neg ht5];exact .any _
 ·simp only [lk] at h
  split at h
  ·rename_i he;subst he;cases h
   exact ⟨_,hu,.box _ _ hv (by rw [hl];rfl) ho rfl⟩
  ·cases h
theorem vle_err (φ:Id->Option (List V)):VLe φ (.agg [.nil,.nil]) (formV ([],[])):=by
 refine .agg _ _ rfl fun k c c' h1 h2=>?_
 match k with
 | 0=>simp at h1 h2;subst h1 h2;exact .nil
 | 1=>simp at h1 h2;subst h1 h2;exact .nil
 | k+2=>simp at h1
theorem vle_form {φ:Id->Option (List V)} (L:List Sel) (V0:List (List Part)) (vo:Option Id) (hn:vo=none->V0=[]) (hφ:∀id,vo=some id->φ id=some (V0.map vEnc)):VLe φ (.agg [.sl (L.map Sel.enc),sv vo]) (formV (L,V0)):=by
 refine .agg _ _ rfl fun k c c' h1 h2=>?_
 match k with
 | 0=>simp at h1 h2;subst h1 h2;exact .refl _
 | 1=>
  simp at h1 h2;subst h1 h2
  cases vo with
  | none=>rw [hn rfl];exact .nil
  | some id=>
   refine .arr id _ _ (hφ id rfl) rfl (fun k c c' h1 h2=>?_) (fun k c c' h1 h2=>?_)
   ·rw [h1] at h2;cases h2;exact .refl _
   ·rw [h1] at h2;cases h2
    have:=okV _ c (List.mem_of_getElem? h1)
    exact ⟨rfl,this,this⟩
 | k+2=>simp at h1
def TVs:Nat:=31
def vS (vo:Option Id) (V0:List (List Part)):Sto:=match vo with
 | none=>[]
 | some id=>[(id,.arr TVs 1 (V0.map vEnc))]
set_option maxHeartbeats 4000000 in
theorem c_Flat (l:Loc) (ps:List Part) (hr:(Loc.enc l).ok=true) (hrl:l.rest.length=11) (hb:wtRules l.card+wtRules l.ord<=2^24) (hw:wtPs ps<=2^24)
  (hL:(selsP ps).length<=2^26) (hk:∀s∈selsP ps,s.keys≠[]/\s.keys.length<=2^26) (hkl:∀s∈selsP ps,∀k∈s.keys,k.length<=2^30) (hok:validP ps=true->allPs (resOk (selsP ps)) ps) :
  RetS Tryz.prog W0 18 [l.enc,.sl (ps.map Part.enc)] [] (.tup [formV (flatP l ps).1,.i .i64 (flatP l ps).2]) []:=by
 have hva:=c_Valid W0 ps hw
 have hse:=c_selectors W0 ps hw
 generalize hS:flatP l ps=S
 obtain ⟨S1,S2⟩:=S
 unfold flatP at hS
 generalize hLL:selsP ps=L at *
 have hco:=c_comb W0 L (by omega) (fun s hs=>by have:=(hk s hs).2;omega)
 have hv1:=c_pValid W0 l.card (by omega)
 have hv2:=c_pValid W0 l.ord (by omega)
 obtain ⟨r1,r2,r3,r4,r5,r6,r7,r8,r9,r10,r11,hrest⟩:=rest11 hrl
 have hLV:l.enc = .agg [.s l.tag,.s l.parent,.s l.dir,.sl (l.card.map Rule.enc),.sl (l.ord.map Rule.enc),r1,r2,r3,r4,r5,r6,r7,r8,r9,r10,r11]:=by
  rw [Loc.enc_eq,hrest]
 have hRV:∀KS:List Bytes,rV l L KS = .agg [.s l.tag,.s l.parent,.s l.dir,.sl (l.card.map Rule.enc),.sl (l.ord.map Rule.enc),r1,r2,r3,r4,r5,r6,r7,r8,r9,r10,r11,.sl (L.map Sel.enc),.sl (KS.map V.s)]:=fun KS=>by unfold rV;rw [hrest];rfl
 rw [hLV]
 refine fn_retW (vs:=[formV S1,.i .i64 S2]) f18ok (by simp) (by simp) fun n0 hn0=>?_
 clear hn0
 generalize hVB:validP ps=VB at *
 cases VB with
 | false=>
  simp only [Bool.not_false,if_true] at hS
  cases hS
  simp only [push_cast,seval,reduceEqDiff]
  repeat' (first|(((first|apply condU_s|apply gdU_t|apply gdU_f)<;>intro _h)<;>simp only [push_cast,seval,reduceEqDiff,_h])|(refine c_call (by exact hva) ?_;simp only [push_cast,seval,reduceEqDiff])|intro _)
  exact finForm (u:=.agg [.nil,.nil]) (f:=([],[])) rfl rfl (by simp [lk]) (fun _=>none) (fun _ _ h=>by cases h) (vle_err _) rfl rfl
 | true=>
  simp only [Bool.not_true,if_false,Bool.false_eq_true] at hS
  have hok:=hok rfl
  generalize hNN:combP 1 L=NN at *
  by_cases h4:(NN:Int)>400
  ·have h4':decide ((NN:Int)>400)=true:=by simpa using h4
   rw [h4',if_pos rfl] at hS
   cases hS
   simp only [push_cast,seval,reduceEqDiff,h4']
   repeat' (first|(((first|apply condU_s|apply gdU_t|apply gdU_f)<;>intro _h)<;>simp only [push_cast,seval,reduceEqDiff,_h,h4'])|((first|refine c_call (by exact hva) ?_|refine c_call (by exact hse) ?_|refine c_call (by exact hco) ?_);simp only [push_cast,seval,reduceEqDiff,h4'])|intro _)
   exact finForm (u:=.agg [.nil,.nil]) (f:=([],[])) rfl rfl (by simp [lk]) (fun _=>none) (fun _ _ h=>by cases h) (vle_err _) rfl rfl
  ·have h4':decide ((NN:Int)>400)=false:=by simpa using h4
   rw [h4',if_neg (by simp)] at hS
   cases hq1:rulesF [] l.card with
   | false=>
    rw [hq1] at hv1 hS
    simp only [bq,if_true,if_false,Int.reduceBEq,reduceCtorEq] at hS
    cases hS
    simp only [push_cast,seval,reduceEqDiff,h4']
    repeat' (first|(((first|apply condU_s|apply gdU_t|apply gdU_f)<;>intro _h)<;>simp only [push_cast,seval,reduceEqDiff,_h,h4'])|((first|refine c_call (by exact hva) ?_|refine c_call (by exact hse) ?_|refine c_call (by exact hco) ?_|refine c_call (by exact hv1) ?_);simp only [push_cast,seval,reduceEqDiff,h4'])|intro _)
    exact finForm (u:=.agg [.nil,.nil]) (f:=([],[])) rfl rfl (by simp [lk]) (fun _=>none) (fun _ _ h=>by cases h) (vle_err _) rfl rfl
   | true=>
   cases hq2:rulesF [] l.ord with
   | false=>
    rw [hq1] at hv1
    rw [hq2] at hv2
    rw [hq1,hq2] at hS
    simp only [bq,if_true,if_false,Int.reduceBEq,reduceCtorEq] at hS
    cases hS
    simp only [push_cast,seval,reduceEqDiff,h4']
    repeat' (first|(((first|apply condU_s|apply gdU_t|apply gdU_f)<;>intro _h)<;>simp only [push_cast,seval,reduceEqDiff,_h,h4'])|((first|refine c_call (by exact hva) ?_|refine c_call (by exact hse) ?_|refine c_call (by exact hco) ?_|refine c_call (by exact hv1) ?_|refine c_call (by exact hv2) ?_);simp only [push_cast,seval,reduceEqDiff,h4'])|intro _)
    exact finForm (u:=.agg [.nil,.nil]) (f:=([],[])) rfl rfl (by simp [lk]) (fun _=>none) (fun _ _ h=>by cases h) (vle_err _) rfl rfl
   | true=>
    rw [hq1] at hv1
    rw [hq2] at hv2
    rw [hq1,hq2] at hS
    simp only [bq,if_true,if_false,Int.reduceBEq,reduceCtorEq] at hS
    cases hS
    simp only [push_cast,seval,reduceEqDiff,h4']
    repeat' (first|(((first|apply condU_s|apply gdU_t|apply gdU_f)<;>intro _h)<;>simp only [push_cast,seval,reduceEqDiff,_h,h4'])|((first|refine c_call (by exact hva) ?_|refine c_call (by exact hse) ?_|refine c_call (by exact hco) ?_|refine c_call (by exact hv1) ?_|refine c_call (by exact hv2) ?_);simp only [push_cast,seval,reduceEqDiff,h4'])|intro _)
    rename_i k1 k2 k3 k4 k5 k6 k7
    have hm1:n0<n0+1+k1+1+k2/\n0+1+k1+1+k2<n0+1+k1+1+k2+1+k3+1+k4+1+k5+1+k6+1+k7:=by omega
    generalize n0+1+k1+1+k2+1+k3+1+k4+1+k5+1+k6+1+k7=n1 at *
    generalize n0+1+k1+1+k2=m1 at *
    have hN4:NN<=400:=by omega
    generalize hLC:V.agg [.s l.tag,.s l.parent,.s l.dir,.sl (l.card.map Rule.enc),.sl (l.ord.map Rule.enc),r1,r2,r3,r4,r5,r6,r7,r8,r9,r10,r11]=LC
    have hi1:NN-0=NN:=by omega
    refine aWP_loopW NN (Inv:=fun m st=>∃i n vo,i<=NN/\m=NN-i/\(vo=none->i=0)/\(∀id,vo=some id->m1<id.1/\id.1<n)/\m1<n/\st=⟨[(1,.sl (ps.map Part.enc)),(2,.ref (n0,2) 0),(4,.ref (n0,4) 0),(6,.ref (m1,6) 0),(37,.i .i64 NN),(38,.i .i64 i)],((m1,6),.box (.agg [.sl (L.map Sel.enc),sv vo]))::(vS vo (varsOf (pkP l L) L ps i)++[((n0,4),.box (.agg [.nil,.nil])),((n0,2),.box LC)]),n⟩) ⟨_,StLe.refl,0,n1,none,Nat.zero_le _,hi1.symm,fun _=>rfl,(fun _ h=>by cases h),hm1.2,rfl⟩ ?_
    clear hi1
    rintro m _ ⟨i,n,vo,hi,rfl,hvo,hvi2,hmn,rfl⟩
    have f1:∀k j:Nat,((n+1+k,j)=(m1,6))=False:=fun k j=>eq_false fun he=>by injection he with h1 h2;omega
    have f2:∀k j q:Nat,((n+1+k,j)=(n0,q))=False:=fun k j q=>eq_false fun he=>by injection he with h1 h2;omega
    have f3:∀q:Nat,((m1,6)=(n0,q))=False:=fun q=>eq_false fun he=>by injection he with h1 h2;omega
    have f3':∀q:Nat,((n0,q)=(m1,6))=False:=fun q=>eq_false fun he=>of_eq_false (f3 q) he.symm
    have f1':∀k j:Nat,((m1,6)=(n+1+k,j))=False:=fun k j=>eq_false fun he=>of_eq_false (f1 k j) he.symm
    have f2':∀k j q:Nat,((n0,q)=(n+1+k,j))=False:=fun k j q=>eq_false fun he=>of_eq_false (f2 k j q) he.symm
    by_cases hlt:i<NN
    ·have hlt':decide ((i:Int)<(NN:Int))=true:=by simpa using hlt
     have hkeys:=decK_short (L:=L) (fun s hs=>(hk s hs).1) hkl i
     have hres:=fun rid=>c_resolve W0 l L (decK L i).1 rid hr hrl hb (by omega) (decK_len L i) hkeys _ ps [] (Nat.lt_succ_self _) hw hok
     have hvi:varsOf (pkP l L) L ps (i+1)=varsOf (pkP l L) L ps i++[resPs (pkP l L (decK L i).1) [] ps []]:=by
      unfold varsOf;rw [List.range_succ,List.map_append];rfl
     have hvl:(varsOf (pkP l L) L ps i).length=i:=by simp [varsOf]
     have hwi:IntKind.i64.wrap ((i:Int)+1)=((i+1:Nat):Int):=by rw [wrap64 (by omega) (by omega)];simp
     have hwL:IntKind.i64.wrap ((L.length:Int)-1)=(L.length:Int)-1:=by simp (disch:=omega) only [wrap64]
     have hLL1:((L.length:Int)<=(L.length:Int)/\(L.length:Int)<=(LLim:Int))=True:=eq_true ⟨Int.le_refl _,by unfold LLim;omega⟩
     have hrep:List.replicate L.length (V.s [])=(List.replicate L.length ([]:Bytes)).map V.s:=by simp
     have hVn:(varsOf (pkP l L) L ps i++[resPs (pkP l L (decK L i).1) [] ps []]).length<=LLim:=by rw [List.length_append,hvl];unfold LLim;simp;omega
     generalize resPs (pkP l L (decK L i).1) [] ps []=RV at *
     generalize hVSg:varsOf (pkP l L) L ps i=VS at *
     cases vo with
     | none=>
      have hi0:=hvo rfl
      have hvs:vS none VS=[]:=rfl
      have hsv:sv none = .nil:=rfl
      have hVS:VS=[]:=List.length_eq_zero_iff.1 (by omega)
      rw [hvs,List.nil_append,<-hLC]
      simp only [push_cast,seval,reduceEqDiff,hlt',f1,f2,f3,hsv,List.length_map,hwL,hLL1,hrep]
      intros
      rename_i b1 b2 b3 b4 b5
      have hx:n<n+1+b1+1+b2/\n+1+b1+1+b2<n+1+b1+1+b2+1+b3+1+b4+1+b5:=by omega
      generalize n+1+b1+1+b2+1+b3+1+b4+1+b5=n3 at *
      generalize n+1+b1+1+b2=x0 at *
      have g1:∀j:Nat,((x0,j)=(m1,6))=False:=fun j=>eq_false fun he=>by injection he with h1 h2;omega
      have g1':∀j:Nat,((m1,6)=(x0,j))=False:=fun j=>eq_false fun he=>of_eq_false (g1 j) he.symm
      have g2:∀j q:Nat,((x0,j)=(n0,q))=False:=fun j q=>eq_false fun he=>by injection he with h1 h2;omega
      have g2':∀j q:Nat,((n0,q)=(x0,j))=False:=fun j q=>eq_false fun he=>of_eq_false (g2 j q) he.symm
      refine keys_loop W0 L hL hk i (by omega) _ _ _ (by simp) (g1 _) (g1 _) [.s l.tag,.s l.parent,.s l.dir,.sl (l.card.map Rule.enc),.sl (l.ord.map Rule.enc),r1,r2,r3,r4,r5,r6,r7,r8,r9,r10,r11] rfl _ _ _ _ _ _ _ _ _ ?_
      intro n2 hn2
      have hrx:=hres (x0,49)
      rw [hRV] at hrx
      generalize (decK L i).1=KS at *
      generalize (decK L i).2=KR at *
      simp only [push_cast,seval,reduceEqDiff,hlt',f1,f2,f3,hsv,List.length_map,hwL,hLL1,hrep]
      refine wkW_i (frz_box (rid:=(x0,49)) (kid:=(x0,47)) (A:=[.s l.tag,.s l.parent,.s l.dir,.sl (l.card.map Rule.enc),.sl (l.ord.map Rule.enc),r1,r2,r3,r4,r5,r6,r7,r8,r9,r10,r11,.sl (L.map Sel.enc)]) (by simp) (by simp [lk,g1',g2']) (fun y hy=>by obtain ⟨z,_,rfl⟩:=List.mem_map.1 hy;rfl) (fun s=>.inl rfl) (Nat.le_refl _)) ?_
      have e1:∀k j:Nat,((n2+1+k,j)=(m1,6))=False:=fun k j=>eq_false fun he=>by injection he with h1 h2;omega
      have e1':∀k j:Nat,((m1,6)=(n2+1+k,j))=False:=fun k j=>eq_false fun he=>of_eq_false (e1 k j) he.symm
      have e2:∀k j q:Nat,((n2+1+k,j)=(n0,q))=False:=fun k j q=>eq_false fun he=>by injection he with h1 h2;omega
      have e0:∀j:Nat,((n2,j)=(m1,6))=False:=fun j=>eq_false fun he=>by injection he with h1 h2;omega
      have e0':∀j:Nat,((m1,6)=(n2,j))=False:=fun j=>eq_false fun he=>of_eq_false (e0 j) he.symm
      have e3:∀j q:Nat,((n2,j)=(n0,q))=False:=fun j q=>eq_false fun he=>by injection he with h1 h2;omega
      have e4:∀j q:Nat,((n2,j)=(x0,q))=False:=fun j q=>eq_false fun he=>by injection he with h1 h2;omega
      simp only [push_cast,seval,reduceEqDiff,g1,g1',g2,g2',f3,f3',e0,e0',e1,e1',e2,e3,e4,List.length_map,hwi,eq_true (show 1<=LLim by decide)]
      refine c_callr hrx (fun i e h=>lk_app_left (τ:=[_,_,_]) h) ?_
      simp only [push_cast,seval,reduceEqDiff,g1,g1',g2,g2',f3,f3',e0,e0',e1,e1',e2,e3,e4,List.length_map,hwi,eq_true (show 1<=LLim by decide)]
      intros
      have hvs':vS (some (n2,88)) (varsOf (pkP l L) L ps (i+1))=[((n2,88),.arr TVs 1 [V.sl (RV.map Part.enc)])]:=by rw [hvi,hVS];rfl
      refine ⟨NN-(i+1),⟨_,[((m1,6),.box (.agg [.sl (L.map Sel.enc),.arr (n2,88)])),((n2,88),.arr TVs 1 [V.sl (RV.map Part.enc)]),((n0,4),.box (.agg [.nil,.nil])),((n0,2),.box (.agg [.s l.tag,.s l.parent,.s l.dir,.sl (l.card.map Rule.enc),.sl (l.ord.map Rule.enc),r1,r2,r3,r4,r5,r6,r7,r8,r9,r10,r11]))],_⟩,by omega,StLe.sub ?_ ?_ (Nat.le_refl _),i+1,_,some (n2,88),by omega,rfl,(fun h=>by cases h),?_,?_,by rw [hvs'];rfl⟩
      ·simp [g1,g2,e0,e3,e4,f3]
      ·intro p hp
       simp at hp⊢
       rcases hp with h|h|h|h<;>simp [h,TVs]
      ·intro id h;cases h;exact ⟨by simp only;omega,by simp only;omega⟩
      ·omega
     | some vid=>
      obtain ⟨hv1,hv2⟩:=hvi2 vid rfl
      have hsv:sv (some vid) = .arr vid:=rfl
      have hvs:vS (some vid) VS=[(vid,.arr TVs 1 (VS.map vEnc))]:=rfl
      have d1:∀k j:Nat,((n+1+k,j)=vid)=False:=fun k j=>eq_false fun he=>by rw [<-he] at hv2;simp at hv2;omega
      have d1':∀k j:Nat,(vid=(n+1+k,j))=False:=fun k j=>eq_false fun he=>of_eq_false (d1 k j) he.symm
      have d2:((m1,6)=vid)=False:=eq_false fun he=>by rw [<-he] at hv1;simp at hv1
      have d2':(vid=(m1,6))=False:=eq_false fun he=>of_eq_false d2 he.symm
      have d3:∀q:Nat,(vid=(n0,q))=False:=fun q=>eq_false fun he=>by rw [he] at hv1;simp at hv1;omega
      have d3':∀q:Nat,((n0,q)=vid)=False:=fun q=>eq_false fun he=>of_eq_false (d3 q) he.symm
      rw [hvs,<-hLC]
      simp only [push_cast,seval,reduceEqDiff,hlt',f1,f2,f3,hsv,List.length_map,hwL,hLL1,hrep,List.cons_append,List.nil_append,d1,d1',d2,d2',d3,d3']
      intros
      rename_i b1 b2 b3 b4 b5
      have hx:n<n+1+b1+1+b2/\n+1+b1+1+b2<n+1+b1+1+b2+1+b3+1+b4+1+b5:=by omega
      generalize n+1+b1+1+b2+1+b3+1+b4+1+b5=n3 at *
      generalize n+1+b1+1+b2=x0 at *
      have g1:∀j:Nat,((x0,j)=(m1,6))=False:=fun j=>eq_false fun he=>by injection he with h1 h2;omega
      have g1':∀j:Nat,((m1,6)=(x0,j))=False:=fun j=>eq_false fun he=>of_eq_false (g1 j) he.symm
      have g2:∀j q:Nat,((x0,j)=(n0,q))=False:=fun j q=>eq_false fun he=>by injection he with h1 h2;omega
      have g2':∀j q:Nat,((n0,q)=(x0,j))=False:=fun j q=>eq_false fun he=>of_eq_false (g2 j q) he.symm
      have g3:∀j:Nat,((x0,j)=vid)=False:=fun j=>eq_false fun he=>by rw [<-he] at hv2;simp at hv2;omega
      have g3':∀j:Nat,(vid=(x0,j))=False:=fun j=>eq_false fun he=>of_eq_false (g3 j) he.symm
      refine keys_loop W0 L hL hk i (by omega) _ _ _ (by simp) (g1 _) (g1 _) [.s l.tag,.s l.parent,.s l.dir,.sl (l.card.map Rule.enc),.sl (l.ord.map Rule.enc),r1,r2,r3,r4,r5,r6,r7,r8,r9,r10,r11] rfl _ _ _ _ _ _ _ _ _ ?_
      intro n2 hn2
      have hrx:=hres (x0,49)
      rw [hRV] at hrx
      generalize (decK L i).1=KS at *
      generalize (decK L i).2=KR at *
      simp only [push_cast,seval,reduceEqDiff,hlt',f1,f2,f3,hsv,List.length_map,hwL,hLL1,hrep,List.cons_append,List.nil_append,d1,d1',d2,d2',d3,d3']
      refine wkW_i (frz_box (rid:=(x0,49)) (kid:=(x0,47)) (A:=[.s l.tag,.s l.parent,.s l.dir,.sl (l.card.map Rule.enc),.sl (l.ord.map Rule.enc),r1,r2,r3,r4,r5,r6,r7,r8,r9,r10,r11,.sl (L.map Sel.enc)]) (by simp) (by simp [lk,g1',g2',g3']) (fun y hy=>by obtain ⟨z,_,rfl⟩:=List.mem_map.1 hy;rfl) (fun s=>.inl rfl) (Nat.le_refl _)) ?_
      have e0:∀j:Nat,((n2,j)=(m1,6))=False:=fun j=>eq_false fun he=>by injection he with h1 h2;omega
      have e0':∀j:Nat,((m1,6)=(n2,j))=False:=fun j=>eq_false fun he=>of_eq_false (e0 j) he.symm
      have e3:∀j q:Nat,((n2,j)=(n0,q))=False:=fun j q=>eq_false fun he=>by injection he with h1 h2;omega
      have e4:∀j q:Nat,((n2,j)=(x0,q))=False:=fun j q=>eq_false fun he=>by injection he with h1 h2;omega
      have e5:∀j:Nat,((n2,j)=vid)=False:=fun j=>eq_false fun he=>by rw [<-he] at hv2;simp at hv2;omega
      have hap:List.map vEnc VS++[V.sl (RV.map Part.enc)]=(VS++[RV]).map vEnc:=by simp [vEnc]
      rw [List.length_append,List.length_cons,List.length_nil] at hVn
      simp only [push_cast,seval,reduceEqDiff,g1,g1',g2,g2',g3,g3',f3,f3',d2,d2',d3,d3',e0,e0',e3,e4,e5,List.length_map,hwi,eq_true hVn,TVs,hap]
      refine c_callr hrx (fun i e h=>lk_app_left (τ:=[_,_,_,_]) h) ?_
      simp only [push_cast,seval,reduceEqDiff,g1,g1',g2,g2',g3,g3',f3,f3',d2,d2',d3,d3',e0,e0',e3,e4,e5,List.length_map,hwi,eq_true hVn,TVs,hap]
      intros
      have hvs':vS (some (n2,88)) (varsOf (pkP l L) L ps (i+1))=[((n2,88),.arr TVs 1 ((VS++[RV]).map vEnc))]:=by rw [hvi];rfl
      refine ⟨NN-(i+1),⟨_,[((m1,6),.box (.agg [.sl (L.map Sel.enc),.arr (n2,88)])),((n2,88),.arr TVs 1 ((VS++[RV]).map vEnc)),((n0,4),.box (.agg [.nil,.nil])),((n0,2),.box (.agg [.s l.tag,.s l.parent,.s l.dir,.sl (l.card.map Rule.enc),.sl (l.ord.map Rule.enc),r1,r2,r3,r4,r5,r6,r7,r8,r9,r10,r11]))],_⟩,by omega,StLe.sub ?_ ?_ (Nat.le_refl _),i+1,_,some (n2,88),by omega,rfl,(fun h=>by cases h),?_,?_,by rw [hvs'];rfl⟩
      ·simp [g1,g2,e0,e3,e4,f3]
      ·intro p hp
       simp at hp⊢
       rcases hp with h|h|h|h<;>simp [h,TVs]
      ·intro id h;cases h;exact ⟨by simp only;omega,by simp only;omega⟩
      ·omega
    ·have hie:i=NN:=by omega
     have hlt':decide ((i:Int)<(NN:Int))=false:=by simpa using hlt
     cases vo with
     | none=>
      have hi0:=hvo rfl
      have hV0:varsOf (pkP l L) L ps i=[]:=by rw [hi0];rfl
      have hvs:vS none (varsOf (pkP l L) L ps i)=[]:=rfl
      have hsv:sv none = .nil:=rfl
      rw [hvs,List.nil_append]
      simp only [push_cast,seval,reduceEqDiff,hlt',f3,f3',hsv]
      intros
      rw [<-hie,hV0]
      exact finForm (u:=.agg [.sl (L.map Sel.enc),.nil]) (f:=(L,[])) rfl rfl (by simp [lk,f3]) (fun _=>none) (fun _ _ h=>by cases h) (vle_form L [] none (fun _=>rfl) (fun _ h=>by cases h)) rfl rfl
     | some vid=>
      obtain ⟨hv1,hv2⟩:=hvi2 vid rfl
      have hsv:sv (some vid) = .arr vid:=rfl
      have hvs:vS (some vid) (varsOf (pkP l L) L ps i)=[(vid,.arr TVs 1 ((varsOf (pkP l L) L ps i).map vEnc))]:=rfl
      have d2:((m1,6)=vid)=False:=eq_false fun he=>by rw [<-he] at hv1;simp at hv1
      have d2':(vid=(m1,6))=False:=eq_false fun he=>of_eq_false d2 he.symm
      have d3:∀q:Nat,(vid=(n0,q))=False:=fun q=>eq_false fun he=>by rw [he] at hv1;simp at hv1;omega
      have d3':∀q:Nat,((n0,q)=vid)=False:=fun q=>eq_false fun he=>of_eq_false (d3 q) he.symm
      rw [hvs]
      simp only [push_cast,seval,reduceEqDiff,hlt',f3,f3',hsv,d2,d2',d3,d3',List.cons_append,List.nil_append]
      intros
      rw [<-hie]
      generalize varsOf (pkP l L) L ps i=VS at *
      refine finForm (u:=.agg [.sl (L.map Sel.enc),.arr vid]) (f:=(L,VS)) rfl rfl (by simp [lk,f3,d3]) (fun j=>if j=vid then some (VS.map vEnc) else none) (fun j es h=>?_) (vle_form L VS (some vid) (fun h=>by cases h) (fun id h=>by cases h;simp)) rfl rfl
      split at h
      ·rename_i he;subst he;cases h
       exact ⟨⟨TVs,1,by simp [lk,d2]⟩,fun he=>of_eq_false (d3 _) he⟩
      ·cases h
end Go.Ir
namespace Go.Ir
open Go.Proofs
variable {P : Program} {W0 : World} {nt n : Nat} {Q : Exit → St → Prop} {env : Env} {σ : Sto}
def f41_8:IC:=.seq (.ops [m1 7 0,o1 8 (.calln 83 [(.c .nil),.t 7,(.c (.s []))]),m1 2 8,o1 3 (.mv (ci 0))] [2,3] []) .ret
def f41_2:IC:=.seq (.seq (.ops [m1 4 0,o1 5 (.call 37 [.t 4]),o1 6 (.not (.t 5))] [0,6] []) (.cond (.t 6) (.seq (.ops [o1 2 (.mv (.c .nil)),o1 3 (.mv (ci 1))] [2,3] []) .ret) .skip)) f41_8
def f41_0:IC:=.seq (.ops [o1 2 (.mv (.c .nil)),o1 3 (.mv (ci 0))] [0] []) f41_2
@[push_cast]def f41R:List R:=[.t 2,.t 3]
@[push_cast]def f41e:=aWv f41_8.eq_1<|aWv f41_2.eq_1<|aWu f41_0.eq_1
theorem f41ok:okFn Tryz.prog 41 9 f41_0 f41R=true:=by kernel_rfl
def f83_23:IC:=.seq (.ops [m1 19 7,o1 20 (.load (.t 10) 6 true),o1 21 (.msl false 43 6 [.t 20]),o1 22 (.app (.t 19) (.t 21) 43 6),m1 7 22] [2,3,7,8,11,12,13] []) (.exit 1)
def f83_27:IC:=.ops [o1 23 (.load (.t 3) 1 false),m1 24 2,m1 25 8,o1 26 (.call 75 [.t 25]),o1 27 (.bin .add (.t 24) (.t 26)),m1 28 7,o1 29 (.call 127 [.t 28]),o1 30 (.build [(.s []),.nil] [(0,1,(.t 27)),(1,1,(.t 29))]),o1 31 (.msl false 110 2 [.t 30]),o1 32 (.app (.t 23) (.t 31) 110 2),o0 (.store (.t 3) (.t 32) 1)] [2,3,8,10,11,12,13] [[2,3],[1,4],[3,4],[5,6],[4,7],[6,7],[7,8],[0,9],[8,9],[0,10],[9,10]]
def f83_32:IC:=.opxd [o1 35 (.load (.t 10) 6 true),m1 36 2,m1 37 8,o1 38 (.call 75 [.t 37]),o1 39 (.bin .add (.t 36) (.t 38)),o1 40 (.bin .add (.t 39) (.c (.s [47]))),o1 41 (.mkfn 129 [] [.t 3])] [2,3,7,8,11,12,13,35,40,41] 42 128 [(.t 35),(.t 40),(.t 41)] [2,3,7,8,11,12,13] [[2,3],[1,4],[3,4],[4,5],[0,7],[1,4,5,7],[2,3,7],[3,7],[4,5,7],[5,7],[6,7]]
def f83_30:IC:=.seq (.ops [m1 33 8,o1 34 (.bin .add (.t 33) (ci 1)),m1 8 34] [2,3,7,8,10,11,12,13] []) f83_32
def f83_19:IC:=.seq (.seq (.ops [o1 17 (.load (.t 10) 6 true),o1 18 (.call 89 [.t 17])] [2,3,7,8,10,11,12,13,18] []) (.cond (.t 18) f83_23 .skip)) (.seq (.wk f83_27) (.seq (.ops [o1 7 (.mv (.c .nil))] [2,3,7,8,10,11,12,13] []) f83_30))
def f83_15:IC:=.seq (.block 1 (.seq (.ops [o1 15 (.iaddr (.t 11) (.t 13) 43 6),o1 16 (.load (.t 15) 6 true),o1 10 (.alloc (.agg [(.i .i64 0),(.s []),(.s []),(.s []),.nil,.nil])),o0 (.store (.t 10) (.t 16) 6)] [2,3,7,8,10,11,12,13] []) f83_19)) (.ops [o1 43 (.bin .add (.t 13) (ci 1)),m1 13 43] [2,3,7,8,11,12,13] [])
def f83_11:IC:=.seq (.ops [o1 14 (.bin .lss (.t 13) (.t 12))] [2,3,7,8,11,12,13,14] []) (.seq (.cond (.t 14) .skip (.exit 0)) f83_15)
def f83_36:IC:=.ops [o1 44 (.load (.t 3) 1 false),m1 45 2,m1 46 8,o1 47 (.call 75 [.t 46]),o1 48 (.bin .add (.t 45) (.t 47)),m1 49 7,o1 50 (.call 127 [.t 49]),o1 51 (.build [(.s []),.nil] [(0,1,(.t 48)),(1,1,(.t 50))]),o1 52 (.msl false 110 2 [.t 51]),o1 53 (.app (.t 44) (.t 52) 110 2),m1 6 53] [6] [[2,3],[1,4],[3,4],[5,6],[4,7],[6,7],[7,8],[0,9],[8,9],[9,10]]
def f83_6:IC:=.seq (.seq (.ops [m1 11 1,o1 12 (.lenL (.t 11)),o1 13 (.mv (ci 0))] [2,3,7,8,11,12,13] []) (.block 0 (.loop f83_11))) (.seq (.wk f83_36) .ret)
def f83_2:IC:=.seq (.ops [o1 7 (.mv (.c .nil))] [1,2,3,7] []) (.seq (.ops [o1 8 (.mv (ci 0))] [1,2,3,7,8] []) f83_6)
def f83_0:IC:=.seq (.ops [o1 3 (.box (.t 0)),o1 6 (.mv (.c .nil))] [1,2,3] []) f83_2
@[push_cast]def f83R:List R:=[.t 6]
@[push_cast]def f83e:=aWv f83_23.eq_1<|aWv f83_27.eq_1<|aWv f83_32.eq_1<|aWv f83_30.eq_1<|aWv f83_19.eq_1<|aWv f83_15.eq_1<|aWv f83_11.eq_1<|aWv f83_36.eq_1<|aWv f83_6.eq_1<|aWv f83_2.eq_1<|aWu f83_0.eq_1
theorem f83ok:okFn Tryz.prog 83 54 f83_0 f83R=true:=by kernel_rfl
def f129_0:IC:=.ops [o1 5 (.load (.t 2) 1 false),m1 6 0,m1 7 1,o1 8 (.calln 83 [.t 5,.t 6,.t 7]),o0 (.store (.t 2) (.t 8) 1)] [] []
@[push_cast]def f129R:List R:=[]
@[push_cast]def f129e:=aWu f129_0.eq_1
theorem f129ok:okFn Tryz.prog 129 9 f129_0 f129R=true:=by kernel_rfl
def f128_6:IC:=.seq (.opxv [m1 12 2,o1 13 (.faddr (.t 3) 5),o1 14 (.load (.t 13) 1 false),m1 15 1] [12,14,15] 16 (.t 12) [(.t 14),(.t 15)] [] []) .ret
def f128_20:IC:=.opxv [m1 24 2,o1 25 (.faddr (.t 7) 1),o1 26 (.load (.t 25) 1 false),m1 27 1,o1 28 (.faddr (.t 7) 0),o1 29 (.load (.t 28) 1 false),o1 30 (.bin .add (.t 27) (.t 29)),o1 31 (.bin .add (.t 30) (.c (.s [47])))] [1,2,18,19,20,24,26,31] 32 (.t 24) [(.t 26),(.t 31)] [] [1,2,18,19,20]
def f128_16:IC:=.seq (.block 1 (.seq (.ops [o1 22 (.iaddr (.t 18) (.t 20) 78 2),o1 23 (.load (.t 22) 2 true),o1 7 (.alloc (.agg [(.s []),.nil])),o0 (.store (.t 7) (.t 23) 2)] [1,2,7,18,19,20] []) f128_20)) (.ops [o1 33 (.bin .add (.t 20) (ci 1)),m1 20 33] [1,2,18,19,20] [])
def f128_12:IC:=.seq (.ops [o1 21 (.bin .lss (.t 20) (.t 19))] [1,2,18,19,20,21] []) (.seq (.cond (.t 21) .skip (.exit 0)) f128_16)
def f128_8:IC:=.seq (.ops [o1 17 (.faddr (.t 3) 4),o1 18 (.load (.t 17) 1 false),o1 19 (.lenL (.t 18)),o1 20 (.mv (ci 0))] [1,2,18,19,20] []) (.block 0 (.loop f128_12))
def f128_2:IC:=.seq (.seq (.ops [o1 8 (.faddr (.t 3) 0),o1 9 (.load (.t 8) 1 false),o1 10 (.call 76 [.t 9]),o1 11 (.not (.t 10))] [1,2,3,11] []) (.cond (.t 11) f128_6 .skip)) f128_8
def f128_0:IC:=.seq (.ops [o1 3 (.box (.t 0))] [1,2,3] []) f128_2
@[push_cast]def f128R:List R:=[]
@[push_cast]def f128e:=aWv f128_6.eq_1<|aWv f128_20.eq_1<|aWv f128_16.eq_1<|aWv f128_12.eq_1<|aWv f128_8.eq_1<|aWv f128_2.eq_1<|aWu f128_0.eq_1
theorem f128ok:okFn Tryz.prog 128 34 f128_0 f128R=true:=by kernel_rfl
def f127_34:IC:=.ops [o1 27 (.faddr (.t 5) 4),o1 28 (.load (.t 27) 1 false),m1 29 6,o1 30 (.faddr (.t 5) 4),o1 31 (.load (.t 30) 1 false),m1 32 6,o1 33 (.iaddr (.t 31) (.t 32) 78 2),o1 34 (.faddr (.t 33) 1),o1 35 (.load (.t 34) 1 false),o1 36 (.call 127 [.t 35]),o1 37 (.iaddr (.t 28) (.t 29) 78 2),o1 38 (.faddr (.t 37) 1),o0 (.store (.t 38) (.t 36) 1)] [3,5,7,8,9,23,24] [[0,1],[3,4],[4,6],[5,6],[6,7],[7,8],[8,9],[1,10],[2,10],[10,11],[1,12],[4,12],[6,12],[8,12],[9,12],[10,11,12],[11,12]]
def f127_30:IC:=.seq (.block 3 (.seq (.ops [m1 26 24,m1 6 26] [3,5,6,7,8,9,23,24] []) f127_34)) (.ops [o1 39 (.bin .add (.t 24) (ci 1)),m1 24 39] [3,5,7,8,9,23,24] [])
def f127_26:IC:=.seq (.ops [o1 25 (.bin .lss (.t 24) (.t 23))] [3,5,7,8,9,23,24,25] []) (.seq (.cond (.t 25) .skip (.exit 2)) f127_30)
def f127_37:IC:=.ops [m1 40 3,o1 41 (.load (.t 5) 6 true),o1 42 (.msl false 43 6 [.t 41]),o1 43 (.app (.t 40) (.t 42) 43 6),m1 3 43] [3,7,8,9] []
def f127_21:IC:=.seq (.seq (.ops [o1 21 (.faddr (.t 5) 4),o1 22 (.load (.t 21) 1 false),o1 23 (.lenL (.t 22)),o1 24 (.mv (ci 0))] [3,5,7,8,9,23,24] []) (.block 2 (.loop f127_26))) (.wk f127_37)
def f127_19:IC:=.seq (.ops [o1 17 (.faddr (.t 5) 4),o1 18 (.load (.t 17) 1 false),o1 19 (.calln 162 [.t 18]),o1 20 (.faddr (.t 5) 4),o0 (.store (.t 20) (.t 19) 1)] [3,5,7,8,9] []) f127_21
def f127_17:IC:=.seq (.ops [o1 13 (.faddr (.t 5) 5),o1 14 (.load (.t 13) 1 false),o1 15 (.call 127 [.t 14]),o1 16 (.faddr (.t 5) 5),o0 (.store (.t 16) (.t 15) 1)] [3,5,7,8,9] []) f127_19
def f127_13:IC:=.seq (.block 1 (.seq (.ops [o1 11 (.iaddr (.t 7) (.t 9) 43 6),o1 12 (.load (.t 11) 6 true),o1 5 (.alloc (.agg [(.i .i64 0),(.s []),(.s []),(.s []),.nil,.nil])),o0 (.store (.t 5) (.t 12) 6)] [3,5,7,8,9] []) f127_17)) (.ops [o1 44 (.bin .add (.t 9) (ci 1)),m1 9 44] [3,7,8,9] [])
def f127_9:IC:=.seq (.ops [o1 10 (.bin .lss (.t 9) (.t 8))] [3,7,8,9,10] []) (.seq (.cond (.t 10) .skip (.exit 0)) f127_13)
def f127_4:IC:=.seq (.seq (.ops [m1 7 0,o1 8 (.lenL (.t 7)),o1 9 (.mv (ci 0))] [3,7,8,9] []) (.block 0 (.loop f127_9))) (.seq (.ops [m1 45 3,m1 2 45] [2] []) .ret)
def f127_0:IC:=.seq (.ops [o1 2 (.mv (.c .nil))] [0] []) (.seq (.ops [o1 3 (.mv (.c .nil))] [0,3] []) f127_4)
@[push_cast]def f127R:List R:=[.t 2]
@[push_cast]def f127e:=aWv f127_34.eq_1<|aWv f127_30.eq_1<|aWv f127_26.eq_1<|aWv f127_37.eq_1<|aWv f127_21.eq_1<|aWv f127_19.eq_1<|aWv f127_17.eq_1<|aWv f127_13.eq_1<|aWv f127_9.eq_1<|aWv f127_4.eq_1<|aWu f127_0.eq_1
theorem f127ok:okFn Tryz.prog 127 46 f127_0 f127R=true:=by kernel_rfl
def f42_34:IC:=.seq (.ops [o1 51 (.faddr (.t 4) 2),o1 52 (.load (.t 51) 1 false),m1 53 5,o1 54 (.slL (.t 52) none (some (.t 53)) 1),m1 55 6,o1 56 (.call 69 [.t 54,.t 55])] [1,3,4,9,10,11,44,45,46,56] []) (.cond (.t 56) (.seq (.ops [o1 2 (.mv (.c (.b false)))] [2] []) .ret) .skip)
def f42_30:IC:=.seq (.block 3 (.seq (.ops [m1 48 46,o1 49 (.iaddr (.t 44) (.t 46) 9 1),o1 50 (.load (.t 49) 1 false),m1 5 48,m1 6 50] [1,3,4,5,6,9,10,11,44,45,46] []) f42_34)) (.ops [o1 57 (.bin .add (.t 46) (ci 1)),m1 46 57] [1,3,4,9,10,11,44,45,46] [])
def f42_26:IC:=.seq (.ops [o1 47 (.bin .lss (.t 46) (.t 45))] [1,3,4,9,10,11,44,45,46,47] []) (.seq (.cond (.t 47) .skip (.exit 2)) f42_30)
def f42_40:IC:=.seq (.ops [o1 58 (.faddr (.t 1) 0),o1 59 (.load (.t 58) 1 false),m1 60 3,o1 61 (.slL (.t 59) none (some (.t 60)) 3),o1 62 (.mkfn 86 [] [.t 4]),o1 63 (.callr 85 [.t 61,.t 62])] [1,9,10,11,63] []) (.cond (.t 63) (.seq (.ops [o1 2 (.mv (.c (.b false)))] [2] []) .ret) .skip)
def f42_21:IC:=.seq (.seq (.ops [o1 43 (.faddr (.t 4) 2),o1 44 (.load (.t 43) 1 false),o1 45 (.lenL (.t 44)),o1 46 (.mv (ci 0))] [1,3,4,9,10,11,44,45,46] []) (.block 2 (.loop f42_26))) f42_40
def f42_15:IC:=.seq (.seq (.ops [o1 16 (.faddr (.t 4) 0),o1 17 (.load (.t 16) 1 false),o1 18 (.call 76 [.t 17]),o1 19 (.not (.t 18)),m1 20 19,⟨some 21,.faddr (.t 4) 1,some (20,false),[]⟩,⟨some 22,.load (.t 21) 1 false,some (20,false),[]⟩,⟨some 23,.call 84 [.t 22],some (20,false),[]⟩,⟨some 24,.not (.t 23),some (20,false),[]⟩,o1 25 (.pick (.t 20) (.c (.b true)) (.t 24)),m1 26 25,⟨some 27,.faddr (.t 4) 2,some (26,false),[]⟩,⟨some 28,.load (.t 27) 1 false,some (26,false),[]⟩,⟨some 29,.lenL (.t 28),some (26,false),[]⟩,⟨some 30,.bin .eql (.t 29) (ci 0),some (26,false),[]⟩,o1 31 (.pick (.t 26) (.c (.b true)) (.t 30)),m1 32 31,⟨some 33,.faddr (.t 4) 2,some (32,false),[]⟩,⟨some 34,.load (.t 33) 1 false,some (32,false),[]⟩,⟨some 35,.faddr (.t 4) 2,some (32,false),[]⟩,⟨some 36,.load (.t 35) 1 false,some (32,false),[]⟩,⟨some 37,.lenL (.t 36),some (32,false),[]⟩,⟨some 38,.bin .sub (.t 37) (ci 1),some (32,false),[]⟩,⟨some 39,.iaddr (.t 34) (.t 38) 9 1,some (32,false),[]⟩,⟨some 40,.load (.t 39) 1 false,some (32,false),[]⟩,⟨some 41,.bin .neq (.t 40) (.c (.s [111,116,104,101,114])),some (32,false),[]⟩,o1 42 (.pick (.t 32) (.c (.b true)) (.t 41))] [1,3,4,9,10,11,42] []) (.cond (.t 42) (.seq (.ops [o1 2 (.mv (.c (.b false)))] [2] []) .ret) .skip)) f42_21
def f42_11:IC:=.seq (.block 1 (.seq (.ops [m1 13 11,o1 14 (.iaddr (.t 9) (.t 11) 96 3),o1 15 (.load (.t 14) 3 true),o1 4 (.alloc (.agg [(.i .i64 0),(.s []),.nil])),m1 3 13,o0 (.store (.t 4) (.t 15) 3)] [1,3,4,9,10,11] []) f42_15)) (.ops [o1 64 (.bin .add (.t 11) (ci 1)),m1 11 64] [1,9,10,11] [])
def f42_7:IC:=.seq (.ops [o1 12 (.bin .lss (.t 11) (.t 10))] [1,9,10,11,12] []) (.seq (.cond (.t 12) .skip (.exit 0)) f42_11)
def f42_48:IC:=.seq (.ops [m1 68 7,o1 69 (.bin .leq (.t 68) (ci 400)),m1 70 69,⟨some 71,.faddr (.t 1) 1,some (70,true),[]⟩,⟨some 72,.load (.t 71) 1 false,some (70,true),[]⟩,⟨some 73,.lenL (.t 72),some (70,true),[]⟩,⟨some 74,.mv (.t 7),some (70,true),[]⟩,⟨some 75,.bin .eql (.t 73) (.t 74),some (70,true),[]⟩,o1 76 (.pick (.t 70) (.t 75) (.c (.b false))),m1 2 76] [2] []) .ret
def f42_46:IC:=.seq (.ops [o1 65 (.faddr (.t 1) 0),o1 66 (.load (.t 65) 1 false),o1 67 (.call 46 [.t 66]),m1 7 67] [1,7] []) f42_48
def f42_2:IC:=.seq (.seq (.ops [o1 8 (.faddr (.t 1) 0),o1 9 (.load (.t 8) 1 false),o1 10 (.lenL (.t 9)),o1 11 (.mv (ci 0))] [1,9,10,11] []) (.block 0 (.loop f42_7))) f42_46
def f42_0:IC:=.seq (.ops [o1 1 (.box (.t 0)),o1 2 (.mv (.c (.b false)))] [1] []) f42_2
@[push_cast]def f42R:List R:=[.t 2]
@[push_cast]def f42e:=aWv f42_34.eq_1<|aWv f42_30.eq_1<|aWv f42_26.eq_1<|aWv f42_40.eq_1<|aWv f42_21.eq_1<|aWv f42_15.eq_1<|aWv f42_11.eq_1<|aWv f42_7.eq_1<|aWv f42_48.eq_1<|aWv f42_46.eq_1<|aWv f42_2.eq_1<|aWu f42_0.eq_1
theorem f42ok:okFn Tryz.prog 42 77 f42_0 f42R=true:=by kernel_rfl
def f86_2:IC:=.seq (.ops [o1 4 (.faddr (.t 2) 0),o1 5 (.load (.t 4) 1 false),o1 6 (.faddr (.t 1) 0),o1 7 (.load (.t 6) 1 false),o1 8 (.bin .eql (.t 5) (.t 7)),m1 9 8,⟨some 10,.faddr (.t 2) 1,some (9,true),[]⟩,⟨some 11,.load (.t 10) 1 false,some (9,true),[]⟩,⟨some 12,.faddr (.t 1) 1,some (9,true),[]⟩,⟨some 13,.load (.t 12) 1 false,some (9,true),[]⟩,⟨some 14,.bin .eql (.t 11) (.t 13),some (9,true),[]⟩,o1 15 (.pick (.t 9) (.t 14) (.c (.b false))),m1 3 15] [3] []) .ret
def f86_0:IC:=.seq (.ops [o1 2 (.box (.t 0)),o1 3 (.mv (.c (.b false)))] [1,2] []) f86_2
@[push_cast]def f86R:List R:=[.t 3]
@[push_cast]def f86e:=aWv f86_2.eq_1<|aWu f86_0.eq_1
theorem f86ok:okFn Tryz.prog 86 16 f86_0 f86R=true:=by kernel_rfl
def f162_8:IC:=.seq (.ops [o1 5 (.msl true 78 2 []),m1 6 0,o1 7 (.app (.t 5) (.t 6) 78 2),m1 2 7] [2] []) .ret
def f162_2:IC:=.seq (.seq (.ops [m1 3 0,o1 4 (.pu (.isnil false) [.t 3])] [0,4] []) (.cond (.t 4) (.seq (.ops [o1 2 (.mv (.c .nil))] [2] []) .ret) .skip)) f162_8
def f162_0:IC:=.seq (.ops [o1 2 (.mv (.c .nil))] [0] []) f162_2
@[push_cast]def f162R:List R:=[.t 2]
@[push_cast]def f162e:=aWv f162_8.eq_1<|aWv f162_2.eq_1<|aWu f162_0.eq_1
theorem f162ok:okFn Tryz.prog 162 8 f162_0 f162R=true:=by kernel_rfl
def f15_8:IC:=.seq (.ops [m1 27 3,o1 28 (.bin .eql (.t 27) (ci 0)),m1 29 28,⟨some 30,.mv (.t 2),some (29,true),[]⟩,⟨some 31,.lenL (.t 30),some (29,true),[]⟩,⟨some 32,.bin .eql (.t 31) (ci 4),some (29,true),[]⟩,o1 33 (.pick (.t 29) (.t 32) (.c (.b false))),m1 34 33,⟨some 35,.mv (.t 2),some (34,true),[]⟩,⟨some 36,.iaddr (.t 35) (ci 1) 110 2,some (34,true),[]⟩,⟨some 37,.faddr (.t 36) 0,some (34,true),[]⟩,⟨some 38,.load (.t 37) 1 false,some (34,true),[]⟩,⟨some 39,.bin .eql (.t 38) (.c (.s [49,47,111,110,101,47,48])),some (34,true),[]⟩,o1 40 (.pick (.t 34) (.t 39) (.c (.b false))),m1 41 40,⟨some 42,.mv (.t 5),some (41,true),[]⟩,⟨some 43,.bin .eql (.t 42) (ci 0),some (41,true),[]⟩,o1 44 (.pick (.t 41) (.t 43) (.c (.b false))),m1 45 44,⟨some 46,.faddr (.t 4) 1,some (45,true),[]⟩,⟨some 47,.load (.t 46) 1 false,some (45,true),[]⟩,⟨some 48,.lenL (.t 47),some (45,true),[]⟩,⟨some 49,.bin .eql (.t 48) (ci 2),some (45,true),[]⟩,o1 50 (.pick (.t 45) (.t 49) (.c (.b false))),m1 51 50,⟨some 52,.faddr (.t 4) 1,some (51,true),[]⟩,⟨some 53,.load (.t 52) 1 false,some (51,true),[]⟩,⟨some 54,.iaddr (.t 53) (ci 0) 31 1,some (51,true),[]⟩,⟨some 55,.load (.t 54) 1 false,some (51,true),[]⟩,⟨some 56,.build [(.i .i64 0),(.s []),(.s []),(.s []),.nil,.nil] [(0,1,(ci 1)),(1,1,(.c (.s [97,120])))],some (51,true),[]⟩,⟨some 57,.msl false 43 6 [.t 56],some (51,true),[]⟩,⟨some 58,.call 14 [.t 55,.t 57],some (51,true),[]⟩,o1 59 (.pick (.t 51) (.t 58) (.c (.b false))),m1 60 59,⟨some 61,.load (.t 4) 2 true,some (60,true),[]⟩,⟨some 62,.call 42 [.t 61],some (60,true),[]⟩,o1 63 (.pick (.t 60) (.t 62) (.c (.b false))),m1 64 63,⟨some 65,.faddr (.t 4) 1,some (64,true),[]⟩,⟨some 66,.load (.t 65) 1 false,some (64,true),[]⟩,⟨some 67,.iaddr (.t 66) (ci 1) 31 1,some (64,true),[]⟩,⟨some 68,.load (.t 67) 1 false,some (64,true),[]⟩,⟨some 69,.call 43 [.t 68],some (64,true),[]⟩,o1 70 (.pick (.t 64) (.t 69) (.c (.b false))),m1 0 70] [0] []) .ret
def f15_6:IC:=.seq (.ops [o1 22 (.build [(.s []),(.s []),(.s []),.nil,.nil,(.s []),(.s []),(.s []),(.s []),(.i .i64 0),(.i .i64 0),.nil,.nil,.nil,.nil,.nil] []),m1 23 1,o1 24 (.call 18 [.t 22,.t 23]),m1 21 24,o1 25 (.ext (.t 21) 0),o1 26 (.ext (.t 21) 1),o1 4 (.alloc (.agg [.nil,.nil])),o0 (.store (.t 4) (.t 25) 2),m1 5 26] [2,3,4,5] []) f15_8
def f15_4:IC:=.seq (.ops [m1 17 1,o1 18 (.call 41 [.t 17]),m1 16 18,o1 19 (.ext (.t 16) 0),o1 20 (.ext (.t 16) 1),m1 2 19,m1 3 20] [1,2,3] []) f15_6
def f15_2:IC:=.seq (.ops [o1 6 (.build [(.i .i64 0),(.s []),(.s []),(.s []),.nil,.nil] [(0,1,(ci 1)),(1,1,(.c (.s [97])))]),o1 7 (.build [(.i .i64 0),(.s []),(.s []),(.s []),.nil,.nil] [(0,1,(ci 1)),(1,1,(.c (.s [120])))]),o1 8 (.msl false 43 6 [.t 7]),o1 9 (.build [(.s []),.nil] [(0,1,(.c (.s [111,110,101]))),(1,1,(.t 8))]),o1 10 (.build [(.i .i64 0),(.s []),(.s []),(.s []),.nil,.nil] [(0,1,(ci 10))]),o1 11 (.msl false 43 6 [.t 10]),o1 12 (.build [(.s []),.nil] [(0,1,(.c (.s [111,116,104,101,114]))),(1,1,(.t 11))]),o1 13 (.msl false 78 2 [.t 9,.t 12]),o1 14 (.build [(.i .i64 0),(.s []),(.s []),(.s []),.nil,.nil] [(0,1,(ci 7)),(2,1,(.c (.s [110]))),(4,1,(.t 13))]),o1 15 (.msl false 43 6 [.t 6,.t 14]),m1 1 15] [1] []) f15_4
def f15_0:IC:=.seq (.ops [o1 0 (.mv (.c (.b false)))] [] []) f15_2
@[push_cast]def f15R:List R:=[.t 0]
@[push_cast]def f15e:=aWv f15_8.eq_1<|aWv f15_6.eq_1<|aWv f15_4.eq_1<|aWv f15_2.eq_1<|aWu f15_0.eq_1
theorem f15ok:okFn Tryz.prog 15 71 f15_0 f15R=true:=by kernel_rfl
end Go.Ir
section
namespace Go.Ir
section tree
variable {P : Part → Prop} {Q : List Part → Prop} {R : List Case → Prop}
theorem tree_ind (hp:∀p:Part,R p.cases->Q p.parts->P p) (q0:Q []) (q1:∀p ps,P p->Q ps->Q (p::ps)) (r0:R []) (r1:∀(c:Case) (cs:List Case),Q c.2->R cs->R (c::cs)) :
  ∀N,(∀p:Part,p.wt<N->P p)/\(∀ps,wtPs ps<N->Q ps)/\(∀cs,wtCs cs<N->R cs):=by
 intro N
 induction N with
 | zero=>exact ⟨fun p h=>by omega,fun p h=>by omega,fun p h=>by omega⟩
 | succ N ih=>
  have h1:∀p:Part,p.wt<N+1->P p:=fun p h=>by
   rw [p.wt_eq] at h
   exact hp p (ih.2.2 _ (by omega)) (ih.2.1 _ (by omega))
  have h2:∀ps,wtPs ps<N+1->Q ps:=by
   intro ps
   induction ps with
   | nil=>intro _;exact q0
   | cons p ps ih2=>intro h;rw [wtPs_cons] at h;exact q1 p ps (h1 p (by omega)) (ih2 (by omega))
  refine ⟨h1,h2,fun cs=>?_⟩
  induction cs with
  | nil=>intro _;exact r0
  | cons c cs ih2=>intro h;rw [wtCs_cons] at h;exact r1 c cs (h2 c.2 (by omega)) (ih2 (by omega))
theorem tree_Q (hp:∀p:Part,R p.cases->Q p.parts->P p) (q0:Q []) (q1:∀p ps,P p->Q ps->Q (p::ps)) (r0:R []) (r1:∀(c:Case) (cs:List Case),Q c.2->R cs->R (c::cs)) (ps:List Part):Q ps:=
 (tree_ind hp q0 q1 r0 r1 _).2.1 ps (Nat.lt_succ_self _)
end tree
theorem nameB_ne {s:Bytes} (h:nameB s=true):s≠[]:=by rintro rfl;cases h
theorem selB_iff (k:Int):selB k=true↔k=7\/k=8\/k=9:=by unfold selB;simp;omega
theorem len0 {α:Type} {l:List α} (h:((l.length:Int) == 0)=true):l=[]:=by
 have:(l.length:Int)=0:=by simpa using h
 exact List.length_eq_zero_iff.1 (by omega)
theorem fields_plain (p:Part) (c:Bool) (h11:(p.kind == 11)=false) (hs:selB p.kind=false):plainB p c=(p.fieldsB&&!(p.kind == 10&&!c)):=by
 obtain ⟨k,t,nm,st,cs,ps⟩:=p
 simp only at h11 hs
 have h7:(k == 7)=false/\(k == 8)=false/\(k == 9)=false:=by
  have:¬(k=7\/k=8\/k=9):=fun h=>by rw [(selB_iff k).2 h] at hs;cases hs
  simp;omega
 obtain ⟨h7,h8,h9⟩:=h7
 unfold plainB plainK wT wN wS Part.fieldsB fieldsK
 simp only
 have ht:(t == t)=true:=by simp
 have hn:(nm == nm)=true:=by simp
 have hss:(st == st)=true:=by simp
 by_cases h1:k=1
 ·subst h1
  simp only [bq,if_true,if_false,Int.reduceBEq,reduceCtorEq,Int.reduceBEq,ht,hn,hss]
  generalize (t == [])=a1;generalize (nm == [])=a2;generalize (st == [])=a3;generalize ((cs.length:Int) == 0)=a4;generalize ((ps.length:Int) == 0)=a5
  cases a1<;>cases a2<;>cases a3<;>cases a4<;>cases a5<;>rfl
 by_cases h10:k=10
 ·subst h10
  simp only [bq,if_true,if_false,Int.reduceBEq,reduceCtorEq,Int.reduceBEq,ht,hn,hss]
  generalize (t == [])=a1;generalize (nm == [])=a2;generalize (st == [])=a3;generalize ((cs.length:Int) == 0)=a4;generalize ((ps.length:Int) == 0)=a5
  cases a1<;>cases a2<;>cases a3<;>cases a4<;>cases a5<;>cases c<;>rfl
 by_cases h2:k=2
 ·subst h2
  simp only [bq,if_true,if_false,Int.reduceBEq,reduceCtorEq,Int.reduceBEq,ht,hn,hss]
  generalize (t == [])=a1;generalize nameB nm=a2;generalize (st == [])=a3;generalize ((cs.length:Int) == 0)=a4;generalize ((ps.length:Int) == 0)=a5
  cases a1<;>cases a2<;>cases a3<;>cases a4<;>cases a5<;>rfl
 by_cases h3:k=3
 ·subst h3
  simp only [bq,if_true,if_false,Int.reduceBEq,reduceCtorEq,Int.reduceBEq,ht,hn,hss,numSt]
  generalize (t == [])=a1;generalize nameB nm=a2;generalize (st == [])=a3;generalize ((cs.length:Int) == 0)=a4;generalize ((ps.length:Int) == 0)=a5
  generalize (st == [105,110,116,101,103,101,114])=a6;generalize (st == [112,101,114,99,101,110,116])=a7
  cases a1<;>cases a2<;>cases a3<;>cases a4<;>cases a5<;>cases a6<;>cases a7<;>rfl
 by_cases h4:k=4
 ·subst h4
  simp only [bq,if_true,if_false,Int.reduceBEq,reduceCtorEq,Int.reduceBEq,ht,hn,hss]
  generalize (t == [])=a1;generalize nameB nm=a2;generalize nameB st=a3;generalize ((cs.length:Int) == 0)=a4;generalize ((ps.length:Int) == 0)=a5
  cases a1<;>cases a2<;>cases a3<;>cases a4<;>cases a5<;>rfl
 by_cases h5:k=5
 ·subst h5
  simp only [bq,if_true,if_false,Int.reduceBEq,reduceCtorEq,Int.reduceBEq,ht,hn,hss]
  generalize (t == [])=a1;generalize nameB nm=a2;generalize skeletonB st=a3;generalize ((cs.length:Int) == 0)=a4;generalize ((ps.length:Int) == 0)=a5
  cases a1<;>cases a2<;>cases a3<;>cases a4<;>cases a5<;>rfl
 by_cases h6:k=6
 ·subst h6
  simp only [bq,if_true,if_false,Int.reduceBEq,reduceCtorEq,Int.reduceBEq,ht,hn,hss]
  generalize (t == [])=a1;generalize nameB nm=a2;generalize nameB st=a3;generalize ((cs.length:Int) == 0)=a4;generalize ((ps.length:Int) == 0)=a5
  cases a1<;>cases a2<;>cases a3<;>cases a4<;>cases a5<;>rfl
 have e:∀j:Int,k≠j->(k == j)=false:=fun j h=>by simpa using h
 simp [e 1 h1,e 10 h10,e 2 h2,e 3 h3,e 4 h4,e 5 h5,e 6 h6,h7,h8,h9,h11]
theorem pos_dec (n:Nat):decide ((n:Int)>0) = !((n:Int) == 0):=by
 by_cases h:n=0
 ·subst h;rfl
 ·have h1:((n:Nat):Int)>0:=by omega
  have h2:¬((n:Int)=0):=by omega
  rw [decide_eq_true h1,beq_eq_false_iff_ne.2 h2];rfl
theorem cnt_sel {k:Int} (h:selB k=true):cntB k=(k != 9):=by
 rcases (selB_iff k).1 h with rfl|rfl|rfl<;>rfl
theorem chk_formed0 (ps:List Part):∀d c prev l,(chkPs ps d c prev l).1=formedPs ps (d+1) c prev:=by
 refine tree_Q (P:=fun p=>∀d c l,((p.fieldsB&&!(p.kind == 10&&!c))&&(p.chk d c l).1)=p.formedB (d+1) c)
  (Q:=fun ps=>∀d c prev l,(chkPs ps d c prev l).1=formedPs ps (d+1) c prev)
  (R:=fun cs=>∀k d c n seen l,selB k=true->(chkCs cs k d c n seen l).1=(decide ((n:Int)<=20)&&formedCs cs k d c seen)) ?_ ?_ ?_ ?_ ?_ ps
 ·intro p hr hq d c l
  rw [p.chk_eq,p.formedB_eq]
  by_cases h11:p.kind=11
  ·have hs:selB p.kind=false:=by rw [h11];rfl
   have h11':(p.kind == 11)=true:=by simpa using h11
   have h:=hq (d+1) c false l
   simp only [h11',hs,if_true,if_false,Bool.false_eq_true]
   have hf:p.fieldsB=(nameB p.name&&(p.text == []&&(p.style == []&&((p.cases.length:Int) == 0)))):=by
    unfold Part.fieldsB fieldsK;rw [h11];simp
   have h10:(p.kind == 10)=false:=by rw [h11];rfl
   have hd:decide (d+1>8)=decide (d>=8):=by simp;omega
   have hc:=pos_dec p.cases.length
   rw [hf,h10]
   unfold elHead
   rw [hd,hc,<-h]
   generalize nameB p.name=a1;generalize (p.text == [])=a2;generalize (p.style == [])=a3;generalize ((p.cases.length:Int) == 0)=a4
   cases decide (d>=8) with
   | true=>cases a1<;>cases a2<;>cases a3<;>cases a4<;>rfl
   | false=>
    simp only [Bool.false_eq_true,if_false]
    generalize chkPs p.parts (d+1) c false l=r
    obtain ⟨b,l1⟩:=r
    cases b<;>cases a1<;>cases a2<;>cases a3<;>cases a4<;>rfl
  ·have h11':(p.kind == 11)=false:=by simpa using h11
   simp only [h11',if_false,Bool.false_eq_true]
   cases hs:selB p.kind with
   | true=>
    have h:=hr p.kind (d+1) c p.cases.length [] l hs
    have hf:p.fieldsB=(nameB p.name&&(p.text == []&&(p.style == []&&((p.parts.length:Int) == 0)))):=by
     unfold Part.fieldsB fieldsK;rcases (selB_iff _).1 hs with e|e|e<;>(rw [e];simp)
    have h10:(p.kind == 10)=false:=by rcases (selB_iff _).1 hs with e|e|e<;>(rw [e];rfl)
    have hd:decide (d+1>8)=decide (d>=8):=by simp;omega
    have hc:=pos_dec p.parts.length
    have h20:decide ((p.cases.length:Int)>20) = !decide ((p.cases.length:Int)<=20):=by
     rw [Bool.eq_iff_iff];simp
    have h1:decide ((p.cases.length:Int)<1)=true->formedCs p.cases p.kind (d+1) c []=false:=by
     intro hh
     have:p.cases=[]:=List.length_eq_zero_iff.1 (by simp at hh;omega)
     rw [this];simp [formedCs]
    rw [hf,h10]
    unfold selHead
    rw [hd,hc,h20]
    simp only [if_true]
    generalize nameB p.name=a1;generalize (p.text == [])=a2;generalize (p.style == [])=a3;generalize ((p.parts.length:Int) == 0)=a4
    generalize decide ((p.cases.length:Int)<1)=a5 at *
    generalize formedCs p.cases p.kind (d+1) c []=F at *
    generalize decide ((p.cases.length:Int)<=20)=a6 at *
    cases decide (d>=8) with
    | true=>cases a1<;>cases a2<;>cases a3<;>cases a4<;>rfl
    | false=>
     simp only [Bool.false_eq_true,if_false]
     generalize chkCs p.cases p.kind (d+1) c p.cases.length [] l=r at *
     obtain ⟨b,l1⟩:=r
     simp only at h
     subst h
     cases a5 with
     | true=>rw [h1 rfl];cases a1<;>cases a2<;>cases a3<;>cases a4<;>cases a6<;>rfl
     | false=>cases F<;>cases a1<;>cases a2<;>cases a3<;>cases a4<;>cases a6<;>rfl
   | false=>
    simp only [if_false,Bool.false_eq_true]
    rw [fields_plain p c h11' hs];simp
 ·intro d c prev l;rfl
 ·intro p ps hp hq d c prev l
  rw [chkPs_cons,formedPs_cons,<-hp d c l]
  have hq2:=hq d c (p.kind == 1)
  generalize p.fieldsB=a1;generalize (p.kind == 10&&!c)=a2
  rw [Bool.and_comm (p.kind == 1) prev]
  generalize (prev&&p.kind == 1)=a3
  generalize p.chk d c l=r
  obtain ⟨b,l1⟩:=r
  simp only
  cases a1<;>cases a2<;>cases a3<;>cases b<;>simp [hq2]
 ·intro k d c n seen l _;simp [chkCs,formedCs]
 ·intro x cs hq hr k d c n seen l hs
  rw [chkCs_cons,formedCs_cons,cnt_sel hs,<-hq d (c||(k != 9)) false l]
  generalize (!keyB k x.1||seen.contains x.1)=a1
  generalize chkPs x.2 d (c||(k != 9)) false l=r
  obtain ⟨b,l1⟩:=r
  have:=hr k d c n (seen++[x.1]) l1 hs
  simp only
  cases a1<;>cases b<;>simp [this]
theorem text_len_eq (ps:List Part):∀d c prev,formedPs ps d c prev=true->lenPs ps=(textPs ps).length:=by
 refine tree_Q (P:=fun p=>∀d c,p.formedB d c=true->p.lenB=p.textB.length)
  (Q:=fun ps=>∀d c prev,formedPs ps d c prev=true->lenPs ps=(textPs ps).length)
  (R:=fun cs=>∀k d c keys,formedCs cs k d c keys=true->lenCs cs=(textCs cs).length) ?_ ?_ ?_ ?_ ?_ ps
 ·intro p hr hq d c h
  rw [p.formedB_eq] at h
  rw [p.lenB_eq,p.textB_eq]
  by_cases h11:p.kind=11
  ·have h1:(p.kind == 1)=false:=by rw [h11];rfl
   have h10:(p.kind == 10)=false:=by rw [h11];rfl
   have h11':(p.kind == 11)=true:=by simpa using h11
   rw [h11',if_pos rfl,Bool.and_eq_true] at h
   have h3:=hq _ _ _ h.2
   simp only [h1,h10,h11',if_true,if_false,Bool.false_eq_true]
   cases p.parts.isEmpty<;>simp [h3]<;>omega
  ·have h11':(p.kind == 11)=false:=by simpa using h11
   rw [h11',if_neg (by simp)] at h
   cases hs:selB p.kind with
   | true=>
    rw [hs,if_pos rfl,Bool.and_eq_true] at h
    have h3:=hr _ _ _ _ h.2
    have e1:(p.kind == 1)=false/\(p.kind == 10)=false/\(p.kind == 2)=false/\(decide (p.kind>=3)&&decide (p.kind<=9))=true:=by
     rcases (selB_iff _).1 hs with e|e|e<;>(rw [e];decide)
    obtain ⟨e1,e10,e2,e39⟩:=e1
    simp only [e1,e10,e2,h11',e39,if_true,if_false,Bool.false_eq_true]
    unfold useN useH useS useC
    rw [if_pos e39,hs]
    cases hst:(p.style == [])<;>simp [h3]<;>omega
   | false=>
    rw [hs,if_neg (by simp)] at h
    unfold plainB at h
    simp only [Bool.and_eq_true] at h
    obtain ⟨⟨⟨⟨⟨hk,hc⟩,hp⟩,ht⟩,hn⟩,hst⟩:=h
    have hc:=len0 hc
    rw [hc]
    by_cases k1:p.kind=1
    ·simp [k1]
    by_cases k10:p.kind=10
    ·simp [k10]
    have e:∀j:Int,p.kind≠j->(p.kind == j)=false:=fun j h=>by simpa using h
    by_cases k2:p.kind=2
    ·have hst2:p.style=[]:=by unfold wS at hst;rw [k2] at hst;simpa using hst
     rw [k2,hst2]
     simp [useN,selB,lenCs]<;>omega
    have k36:p.kind=3\/p.kind=4\/p.kind=5\/p.kind=6:=by
     unfold plainK at hk
     rw [e 1 k1,e 10 k10,e 2 k2] at hk
     simp only [Bool.false_eq_true,if_false] at hk
     split at hk
     ·rename_i hh;simp at hh;omega
     ·cases hk
    have e39:(decide (p.kind>=3)&&decide (p.kind<=9))=true:=by simp;omega
    simp only [e 1 k1,e 10 k10,e 2 k2,h11',e39,if_true,if_false,Bool.false_eq_true]
    unfold useN useH useS useC
    rw [if_pos e39,hs]
    cases hst:(p.style == [])<;>simp [lenCs,textCs]<;>omega
 ·intro d c prev _;simp [lenPs,textPs]
 ·intro p ps hp hq d c prev h
  rw [formedPs_cons,Bool.and_eq_true,Bool.and_eq_true] at h
  rw [lenPs_cons,textPs_cons,List.length_append,hp _ _ h.2.1,hq _ _ _ h.2.2]
 ·intro k d c keys _;simp [lenCs,textCs]
 ·intro x cs hq hr k d c keys h
  rw [formedCs_cons,Bool.and_eq_true,Bool.and_eq_true] at h
  rw [lenCs_cons,textCs_cons,hq _ _ _ h.2.1,hr _ _ _ _ h.2.2]
  simp<;>omega
mutual
def Part.nms:Part->List Bytes
 | ⟨k,_,n,_,cs,ps⟩=>(if decide (k>=2)&&decide (k<=9) then [n] else [])++(nmsPs ps++nmsCs cs)
def nmsPs:List Part->List Bytes
 | []=>[]
 | p::ps=>p.nms++nmsPs ps
def nmsCs:List (Bytes × List Part)->List Bytes
 | []=>[]
 | (_,ps)::cs=>nmsPs ps++nmsCs cs
end
theorem Part.nms_eq (p:Part):p.nms=(if decide (p.kind>=2)&&decide (p.kind<=9) then [p.name] else [])++(nmsPs p.parts++nmsCs p.cases):=by cases p;simp only [Part.nms]
theorem nmsPs_cons (p:Part) (ps:List Part):nmsPs (p::ps)=p.nms++nmsPs ps:=by simp only [nmsPs]
theorem nmsCs_cons (c:Case) (cs:List Case):nmsCs (c::cs)=nmsPs c.2++nmsCs cs:=by obtain ⟨k,q⟩:=c;simp only [nmsCs]
def Grew (l l' m:List Bytes):Prop:=(∀x,x∈l'↔x∈l\/x∈m)/\(l.Nodup->l'.Nodup)
theorem Grew.refl (l:List Bytes):Grew l l []:=⟨fun x=>by simp,fun h=>h⟩
theorem Grew.trans {a b c m n:List Bytes} (h:Grew a b m) (k:Grew b c n):Grew a c (m++n):=
 ⟨fun x=>by rw [k.1,h.1];simp [or_assoc],fun hn=>k.2 (h.2 hn)⟩
theorem Grew.same {a b m n:List Bytes} (h:Grew a b m) (hm:∀x,x∈m↔x∈n):Grew a b n:=⟨fun x=>by rw [h.1,hm],h.2⟩
theorem nodup_snoc {l:List Bytes} {x:Bytes} (h:l.Nodup) (hx:x ∉ l):(l++[x]).Nodup:=by
 rw [List.nodup_append]
 exact ⟨h,by simp,fun a ha b hb=>by simp at hb;subst hb;rintro rfl;exact hx ha⟩
theorem put_grew (x:Bytes) (l:List Bytes):Grew l (putN x l) [x]:=by
 unfold putN
 cases h:l.contains x with
 | true=>
  have hm:x∈l:=by simpa using h
  exact ⟨fun y=>by simp;rintro rfl;exact hm,fun h=>h⟩
 | false=>
  have hm:x ∉ l:=by simpa using h
  exact ⟨fun y=>by simp,fun h=>nodup_snoc h hm⟩
theorem add_grew (k:Int) (x:Bytes) (l:List Bytes):Grew l (addN k x l) (if decide (k>=2)&&decide (k<=9) then [x] else []):=by
 unfold addN
 cases hk:(decide (k>=2)&&decide (k<=9)) with
 | false=>simp only [Bool.false_and,Bool.false_eq_true,if_false];exact Grew.refl l
 | true=>
  have:=put_grew x l
  unfold putN at this
  cases h:l.contains x with
  | true=>rw [h] at this;simpa using this
  | false=>rw [h] at this;simpa using this
theorem names_grew (ps:List Part):∀l,Grew l (namesPs ps l) (nmsPs ps):=by
 refine tree_Q (P:=fun p=>∀l,Grew l (p.names l) p.nms) (Q:=fun ps=>∀l,Grew l (namesPs ps l) (nmsPs ps)) (R:=fun cs=>∀l,Grew l (namesCs cs l) (nmsCs cs)) ?_ ?_ ?_ ?_ ?_ ps
 ·intro p hr hq l
  rw [p.names_eq,p.nms_eq]
  exact (add_grew _ _ _).trans ((hq _).trans (hr _))
 ·intro l;simp only [namesPs,nmsPs];exact Grew.refl l
 ·intro p ps hp hq l;rw [namesPs_cons,nmsPs_cons];exact (hp l).trans (hq _)
 ·intro l;simp only [namesCs,nmsCs];exact Grew.refl l
 ·intro c cs hq hr l;rw [namesCs_cons,nmsCs_cons];exact (hq l).trans (hr _)
theorem fields_name {p:Part} (h:p.fieldsB=true):(if decide (p.kind>=2)&&decide (p.kind<=9) then [p.name] else [])=(if !(p.kind == 11)&&!(p.name == []) then [p.name] else []):=by
 obtain ⟨k,t,nm,st,cs,ps⟩:=p
 unfold Part.fieldsB fieldsK at h
 simp only at h⊢
 have e:∀j:Int,k≠j->(k == j)=false:=fun j h=>by simpa using h
 by_cases k1:k=1
 ·subst k1;simp at h;simp [h.2.1]
 by_cases k10:k=10
 ·subst k10;simp at h;simp [h.2.1]
 rw [e 1 k1,e 10 k10] at h
 simp only [Bool.false_eq_true,if_false,Bool.and_eq_true] at h
 have hn:=nameB_ne h.1
 have hn':(nm == [])=false:=by simpa using hn
 by_cases k11:k=11
 ·subst k11;rfl
 by_cases hk:2<=k/\k<=9
 ·have:(decide (k>=2)&&decide (k<=9))=true:=by simp;omega
  rw [this,e 11 k11,hn'];rfl
 ·have h2:=h.2.2
  rw [e 2 (by omega),e 11 k11,e 7 (by omega),e 8 (by omega),e 9 (by omega),e 3 (by omega),e 4 (by omega),e 6 (by omega),e 5 (by omega)] at h2
  simp at h2
theorem fields_cases {p:Part} (h:p.fieldsB=true):(selB p.kind=false->p.cases=[])/\((p.kind == 11)=false->p.parts=[])/\(p.kind == 11||selB p.kind->p.text=[]/\p.style=[]):=by
 obtain ⟨k,t,nm,st,cs,ps⟩:=p
 unfold Part.fieldsB fieldsK at h
 simp only at h⊢
 have e:∀j:Int,k≠j->(k == j)=false:=fun j h=>by simpa using h
 have nil:∀{α:Type} (l:List α),((l.length:Int) == 0)=true->l=[]:=fun l h=>len0 h
 by_cases k1:k=1
 ·subst k1;simp only [Int.reduceBEq,if_true,Bool.and_eq_true] at h
  exact ⟨fun _=>nil _ h.2.2.2.1,fun _=>nil _ h.2.2.2.2,fun hh=>by cases hh⟩
 by_cases k10:k=10
 ·subst k10;simp only [Int.reduceBEq,if_true,if_false,Bool.false_eq_true,Bool.and_eq_true] at h
  exact ⟨fun _=>nil _ h.2.2.2.1,fun _=>nil _ h.2.2.2.2,fun hh=>by cases hh⟩
 rw [e 1 k1,e 10 k10] at h
 simp only [Bool.false_eq_true,if_false,Bool.and_eq_true] at h
 obtain ⟨hn,ht,h⟩:=h
 by_cases k2:k=2
 ·subst k2;simp only [Int.reduceBEq,if_true,Bool.and_eq_true] at h
  exact ⟨fun _=>nil _ h.2.1,fun _=>nil _ h.2.2,fun hh=>by cases hh⟩
 by_cases k11:k=11
 ·subst k11;simp only [Int.reduceBEq,if_true,if_false,Bool.false_eq_true,Bool.and_eq_true] at h
  exact ⟨fun _=>nil _ h.2,fun hh=>(by cases hh),fun _=>⟨by simpa using ht,by simpa using h.1⟩⟩
 rw [e 2 k2,e 11 k11] at h
 simp only [Bool.false_eq_true,if_false] at h
 by_cases hs:selB k=true
 ·have h789:(k == 7||k == 8||k == 9)=true:=by rcases (selB_iff k).1 hs with rfl|rfl|rfl<;>rfl
  rw [h789,if_pos rfl,Bool.and_eq_true] at h
  exact ⟨fun hh=>(by rw [hs] at hh;cases hh),fun _=>nil _ h.2,fun _=>⟨by simpa using ht,by simpa using h.1⟩⟩
 ·have hs':selB k=false:=by simpa using hs
  have n7:k≠7/\k≠8/\k≠9:=⟨fun e=>hs ((selB_iff k).2 (.inl e)),fun e=>hs ((selB_iff k).2 (.inr (.inl e))),fun e=>hs ((selB_iff k).2 (.inr (.inr e)))⟩
  rw [e 7 n7.1,e 8 n7.2.1,e 9 n7.2.2] at h
  simp only [Bool.or_self,Bool.false_eq_true,if_false] at h
  have hx:((cs.length:Int) == 0)=true/\((ps.length:Int) == 0)=true:=by
   split at h
   ·simp only [Bool.and_eq_true] at h;exact h.2
   ·split at h
    ·simp only [Bool.and_eq_true] at h;exact h.2
    ·split at h
     ·simp only [Bool.and_eq_true] at h;exact h.2
     ·cases h
  refine ⟨fun _=>nil _ hx.1,fun _=>nil _ hx.2,fun hh=>?_⟩
  rw [e 11 k11,hs'] at hh;cases hh
theorem chk_grew (ps:List Part):∀d c prev l,(chkPs ps d c prev l).1=true->Grew l (chkPs ps d c prev l).2 (nmsPs ps):=by
 refine tree_Q (P:=fun p=>p.fieldsB=true->∀d c l,(p.chk d c l).1=true->Grew l (p.chk d c l).2 p.nms)
  (Q:=fun ps=>∀d c prev l,(chkPs ps d c prev l).1=true->Grew l (chkPs ps d c prev l).2 (nmsPs ps))
  (R:=fun cs=>∀k d c n seen l,(chkCs cs k d c n seen l).1=true->Grew l (chkCs cs k d c n seen l).2 (nmsCs cs)) ?_ ?_ ?_ ?_ ?_ ps
 ·intro p hr hq hf d c l h
  obtain ⟨hc,hp,_⟩:=fields_cases hf
  rw [p.chk_eq] at h⊢
  rw [p.nms_eq,fields_name hf]
  have hfin:∀l2 m,Grew l l2 m->Grew l (if !(p.kind == 11)&&!(p.name == []) then putN p.name l2 else l2) ((if !(p.kind == 11)&&!(p.name == []) then [p.name] else [])++m):=by
   intro l2 m hm
   cases (!(p.kind == 11)&&!(p.name == [])) with
   | true=>
    simp only [if_true]
    exact (hm.trans (put_grew p.name l2)).same fun x=>by simp;constructor<;>(intro h;rcases h with h|h<;>simp [h])
   | false=>simpa using hm
  by_cases h11:p.kind=11
  ·have hs:selB p.kind=false:=by rw [h11];rfl
   have h11':(p.kind == 11)=true:=by simpa using h11
   rw [hc hs]
   have h0:nmsCs []=[]:=by simp only [nmsCs]
   rw [h0,List.append_nil]
   have h2:=hq (d+1) c false l
   simp only [h11',hs,if_true,if_false,Bool.false_eq_true] at h hfin⊢
   by_cases hd:decide (d>=8)=true
   ·rw [hd] at h;simp at h
   ·have hd':decide (d>=8)=false:=by simpa using hd
    rw [hd'] at h⊢
    simp only [Bool.false_eq_true,if_false] at h⊢
    generalize chkPs p.parts (d+1) c false l=r at *
    obtain ⟨b,l1⟩:=r
    cases b with
    | false=>simp at h
    | true=>exact hfin l1 _ (h2 rfl)
  ·have h11':(p.kind == 11)=false:=by simpa using h11
   rw [hp h11']
   have h0:nmsPs []=[]:=by simp only [nmsPs]
   rw [h0,List.nil_append]
   simp only [h11',if_false,Bool.false_eq_true] at h hfin⊢
   cases hs:selB p.kind with
   | false=>
    rw [hs] at h
    rw [hc hs]
    have h0:nmsCs []=[]:=by simp only [nmsCs]
    rw [h0]
    simp only [if_false,Bool.false_eq_true] at h⊢
    exact hfin l [] (Grew.refl l)
   | true=>
    rw [hs] at h
    have h2:=hr p.kind (d+1) c p.cases.length [] l
    simp only [if_true] at h⊢
    by_cases hd:decide (d>=8)=true
    ·rw [hd] at h;simp at h
    ·have hd':decide (d>=8)=false:=by simpa using hd
     rw [hd'] at h⊢
     simp only [Bool.false_eq_true,if_false] at h⊢
     generalize chkCs p.cases p.kind (d+1) c p.cases.length [] l=r at *
     obtain ⟨b,l1⟩:=r
     cases b with
     | false=>simp at h
     | true=>exact hfin l1 _ (h2 rfl)
 ·intro d c prev l _;simp only [chkPs,nmsPs];exact Grew.refl l
 ·intro p ps hp hq d c prev l h
  rw [chkPs_cons] at h⊢
  rw [nmsPs_cons]
  split at h
  ·cases h
  ·rename_i hn
   rw [if_neg hn]
   have hf:p.fieldsB=true:=by
    cases hh:p.fieldsB with
    | true=>rfl
    | false=>exfalso;apply hn;rw [hh];simp
   have h1:=hp hf d c l
   generalize p.chk d c l=r at *
   obtain ⟨b,l1⟩:=r
   cases b with
   | false=>simp at h
   | true=>exact (h1 rfl).trans (hq _ _ _ _ h)
 ·intro k d c n seen l _;simp only [chkCs,nmsCs];exact Grew.refl l
 ·intro x cs hq hr k d c n seen l h
  rw [chkCs_cons] at h⊢
  rw [nmsCs_cons]
  split at h
  ·cases h
  ·rename_i hn
   rw [if_neg hn]
   have h1:=hq d (c||(k != 9)) false l
   generalize chkPs x.2 d (c||(k != 9)) false l=r at *
   obtain ⟨b,l1⟩:=r
   cases b with
   | false=>simp at h
   | true=>exact (h1 rfl).trans (hr _ _ _ _ _ _ h)
theorem nodup_sub {a b:List Bytes} (ha:a.Nodup) (h:∀x∈a,x∈b):a.length<=b.length:=by
 induction a generalizing b with
 | nil=>simp
 | cons x a ih=>
  rw [List.nodup_cons] at ha
  have hx:x∈b:=h x (by simp)
  have:=ih (b:=b.erase x) ha.2 fun y hy=>by
   have hne:y≠x:=fun e=>ha.1 (e ▸ hy)
   exact (List.mem_erase_of_ne hne).2 (h y (by simp [hy]))
  rw [List.length_erase_of_mem hx] at this
  have:0<b.length:=List.length_pos_of_mem hx
  simp;omega
theorem valid_same (ps:List Part):validP ps=validB ps:=by
 unfold validP validB
 rw [chk_formed0 ps 0 false false []]
 have h01:(0:Int)+1=1:=rfl
 rw [h01]
 cases hf:formedPs ps 1 false false with
 | false=>simp
 | true=>
  have h1:=chk_grew ps 0 false false [] (by rw [chk_formed0,h01,hf])
  have h2:=names_grew ps []
  have h3:=text_len_eq ps _ _ _ hf
  have ha:=nodup_sub (h1.2 List.nodup_nil) fun x hx=>(h2.1 x).2 ((h1.1 x).1 hx)
  have hb:=nodup_sub (h2.2 List.nodup_nil) fun x hx=>(h1.1 x).2 ((h2.1 x).1 hx)
  have:(chkPs ps 0 false false []).2.length=(namesPs ps []).length:=Nat.le_antisymm ha hb
  rw [this,h3]
end Go.Ir
end
namespace Go.Ir
structure WfP (p:Part):Prop where
 keys:selB p.kind=true->∀c∈p.cases,keyB p.kind c.1=true
 other:selB p.kind=true->∃c∈p.cases,c.1=kOtherS
 cases0:selB p.kind=false->p.cases=[]
 parts0:(p.kind == 11)=false->p.parts=[]
 elem:(p.kind == 11)=true->p.text=[]/\p.style=[]
 name:selB p.kind=true->p.name.length<=40
theorem nameB_len {s:Bytes} (h:nameB s=true):s.length<=40:=by
 cases s with
 | nil=>simp
 | cons c r=>
  unfold nameB at h
  simp only [Bool.and_eq_true,decide_eq_true_eq] at h
  omega
theorem plain_fields {p:Part} {c:Bool} (h11:(p.kind == 11)=false) (hs:selB p.kind=false) (h:plainB p c=true):p.fieldsB=true:=by
 rw [fields_plain p c h11 hs,Bool.and_eq_true] at h
 exact h.1
theorem formed_wf (ps:List Part):∀d c prev,formedPs ps d c prev=true->allPs WfP ps:=by
 refine tree_Q (P:=fun p=>∀d c,p.formedB d c=true->p.all WfP)
  (Q:=fun ps=>∀d c prev,formedPs ps d c prev=true->allPs WfP ps)
  (R:=fun cs=>∀k d c keys,formedCs cs k d c keys=true->allCs WfP cs/\(∀x∈cs,keyB k x.1=true)/\(keys.contains kOtherS=true\/∃x∈cs,x.1=kOtherS)) ?_ ?_ ?_ ?_ ?_ ps
 ·intro p hr hq d c h
  rw [p.formedB_eq] at h
  rw [p.all_eq]
  cases h11:p.kind == 11 with
  | true=>
   have hs:selB p.kind=false:=by
    have:p.kind=11:=by simpa using h11
    rw [this];rfl
   rw [h11,if_pos rfl,Bool.and_eq_true] at h
   obtain ⟨h1,h2⟩:=h
   unfold elHead at h1
   simp at h1
   have hc:p.cases=[]:=by simpa using h1.2
   refine ⟨⟨fun hh=>(by rw [hs] at hh;cases hh),fun hh=>(by rw [hs] at hh;cases hh),fun _=>hc,fun hh=>(by rw [h11] at hh;cases hh),fun _=>⟨h1.1.1.2,h1.1.2⟩,fun hh=>(by rw [hs] at hh;cases hh)⟩,?_,hq _ _ _ h2⟩
   rw [hc];simp only [allCs]
  | false=>
   rw [h11,if_neg (by simp)] at h
   cases hs:selB p.kind with
   | true=>
    rw [hs,if_pos rfl,Bool.and_eq_true] at h
    obtain ⟨h1,h2⟩:=h
    unfold selHead at h1
    simp at h1
    have hp:p.parts=[]:=by simpa using h1.1.1.2
    obtain ⟨a1,a2,a3⟩:=hr _ _ _ _ h2
    refine ⟨⟨fun _=>a2,fun _=>?_,fun hh=>(by rw [hs] at hh;cases hh),fun _=>hp,fun hh=>(by rw [h11] at hh;cases hh),fun _=>nameB_len h1.1.1.1.1.1.2⟩,a1,?_⟩
    ·rcases a3 with a3|a3
     ·cases a3
     ·exact a3
    ·rw [hp];simp only [allPs]
   | false=>
    rw [hs,if_neg (by simp)] at h
    obtain ⟨f1,f2,f3⟩:=fields_cases (plain_fields h11 hs h)
    refine ⟨⟨fun hh=>(by rw [hs] at hh;cases hh),fun hh=>(by rw [hs] at hh;cases hh),f1,f2,fun hh=>(by rw [h11] at hh;cases hh),fun hh=>(by rw [hs] at hh;cases hh)⟩,?_,?_⟩
    ·rw [f1 hs];simp only [allCs]
    ·rw [f2 h11];simp only [allPs]
 ·intro d c prev _;simp only [allPs]
 ·intro p ps hp hq d c prev h
  rw [formedPs_cons,Bool.and_eq_true,Bool.and_eq_true] at h
  rw [allPs_cons]
  exact ⟨hp _ _ h.2.1,hq _ _ _ h.2.2⟩
 ·intro k d c keys h
  refine ⟨by simp only [allCs],fun x hx=>(by cases hx),.inl ?_⟩
  simpa only [formedCs] using h
 ·intro x cs hq hr k d c keys h
  rw [formedCs_cons,Bool.and_eq_true,Bool.and_eq_true] at h
  obtain ⟨h0,h1,h2⟩:=h
  obtain ⟨a1,a2,a3⟩:=hr _ _ _ _ h2
  have hk:keyB k x.1=true:=by
   cases hh:keyB k x.1 with
   | true=>rfl
   | false=>rw [hh] at h0;simp at h0
  rw [allCs_cons]
  refine ⟨⟨hq _ _ _ h1,a1⟩,fun y hy=>?_,?_⟩
  ·rcases List.mem_cons.1 hy with rfl|hy
   ·exact hk
   ·exact a2 y hy
  ·rcases a3 with a3|⟨y,hy,hy2⟩
   ·have:kOtherS∈keys\/kOtherS=x.1:=by simpa using a3
    rcases this with h|h
    ·left;simpa using h
    ·right;exact ⟨x,by simp,h.symm⟩
   ·right;exact ⟨y,by simp [hy],hy2⟩
theorem valid_wf {ps:List Part} (h:validB ps=true):allPs WfP ps:=by
 unfold validB at h
 rw [Bool.and_eq_true,Bool.and_eq_true] at h
 exact formed_wf ps _ _ _ h.1.1
theorem all_imp {f g:Part->Prop} (hfg:∀p,f p->g p) (ps:List Part):allPs f ps->allPs g ps:=by
 refine tree_Q (P:=fun p=>p.all f->p.all g) (Q:=fun ps=>allPs f ps->allPs g ps) (R:=fun cs=>allCs f cs->allCs g cs) ?_ ?_ ?_ ?_ ?_ ps
 ·intro p hr hq;rw [p.all_eq,p.all_eq];exact fun h=>⟨hfg p h.1,hr h.2.1,hq h.2.2⟩
 ·intro _;simp only [allPs]
 ·intro p ps hp hq;rw [allPs_cons,allPs_cons];exact fun h=>⟨hp h.1,hq h.2⟩
 ·intro _;simp only [allCs]
 ·intro c cs hq hr;rw [allCs_cons,allCs_cons];exact fun h=>⟨hq h.1,hr h.2⟩
theorem all_and {f g:Part->Prop} (ps:List Part):allPs f ps->allPs g ps->allPs (fun p=>f p/\g p) ps:=by
 refine tree_Q (P:=fun p=>p.all f->p.all g->p.all (fun p=>f p/\g p)) (Q:=fun ps=>allPs f ps->allPs g ps->allPs (fun p=>f p/\g p) ps) (R:=fun cs=>allCs f cs->allCs g cs->allCs (fun p=>f p/\g p) cs) ?_ ?_ ?_ ?_ ?_ ps
 ·intro p hr hq;rw [p.all_eq,p.all_eq,p.all_eq];exact fun h k=>⟨⟨h.1,k.1⟩,hr h.2.1 k.2.1,hq h.2.2 k.2.2⟩
 ·intro _ _;simp only [allPs]
 ·intro p ps hp hq;rw [allPs_cons,allPs_cons,allPs_cons];exact fun h k=>⟨hp h.1 k.1,hq h.2 k.2⟩
 ·intro _ _;simp only [allCs]
 ·intro c cs hq hr;rw [allCs_cons,allCs_cons,allCs_cons];exact fun h k=>⟨hq h.1 k.1,hr h.2 k.2⟩
theorem all_short (ps:List Part):∀M,wtPs ps<=M->allPs (fun p=>∀c∈p.cases,c.1.length<=M) ps:=by
 refine tree_Q (P:=fun p=>∀M,p.wt<=M->p.all (fun p=>∀c∈p.cases,c.1.length<=M)) (Q:=fun ps=>∀M,wtPs ps<=M->allPs (fun p=>∀c∈p.cases,c.1.length<=M) ps) (R:=fun cs=>∀M,wtCs cs<=M->allCs (fun p=>∀c∈p.cases,c.1.length<=M) cs) ?_ ?_ ?_ ?_ ?_ ps
 ·intro p hr hq M h
  rw [p.wt_eq] at h
  rw [p.all_eq]
  exact ⟨fun c hc=>by have:=wtCs_mem hc;omega,hr M (by omega),hq M (by omega)⟩
 ·intro M _;simp only [allPs]
 ·intro p ps hp hq M h;rw [wtPs_cons] at h;rw [allPs_cons];exact ⟨hp M (by omega),hq M (by omega)⟩
 ·intro M _;simp only [allCs]
 ·intro c cs hq hr M h;rw [wtCs_cons] at h;rw [allCs_cons];exact ⟨hq M (by omega),hr M (by omega)⟩
theorem collPs_ext (ps:List Part) (l:List Sel):SelExt l (collPs ps l):=(coll_same _ ps (Nat.lt_succ_self _) l).2
theorem collCs_ext (cs:List Case):∀j l,SelExt l (collCs cs j l):=by
 induction cs with
 | nil=>intro j l;simp only [collCs];exact SelExt.refl l
 | cons c cs ih=>intro j l;rw [collCs_cons];exact ((SelExt.mod l j c.1).trans (collPs_ext c.2 _)).trans (ih _ _)
theorem selAdd_ext (l:List Sel) (k:Int) (n:Bytes):SelExt l (selAdd l k n):=by
 unfold selAdd
 split
 ·exact SelExt.app _ _
 ·exact SelExt.refl _
def FoundP (L:List Sel) (p:Part):Prop:=selB p.kind=true->¬findI L p.kind p.name<0
theorem FoundP.mono {L L':List Sel} (h:SelExt L L') {p:Part} (hp:FoundP L p):FoundP L' p:=fun hs=>by
 have:=hp hs
 rw [findI_ext h _ _ this];exact this
theorem coll_found (ps:List Part):allPs WfP ps->∀l,allPs (FoundP (collPs ps l)) ps:=by
 refine tree_Q (P:=fun p=>p.all WfP->∀l,p.all (FoundP (p.coll l))) (Q:=fun ps=>allPs WfP ps->∀l,allPs (FoundP (collPs ps l)) ps) (R:=fun cs=>allCs WfP cs->∀j l,allCs (FoundP (collCs cs j l)) cs) ?_ ?_ ?_ ?_ ?_ ps
 ·intro p hr hq h l
  rw [p.all_eq] at h⊢
  obtain ⟨h1,h2,h3⟩:=h
  rw [p.coll_eq]
  have hp:=hq h3 l
  cases hs:selB p.kind with
  | true=>
   simp only [if_true]
   have e1:=selAdd_ext (collPs p.parts l) p.kind p.name
   have e2:=collCs_ext p.cases (selAt (collPs p.parts l) p.kind p.name) (selAdd (collPs p.parts l) p.kind p.name)
   refine ⟨fun _=>?_,hr h2 _ _,all_imp (fun q hq=>FoundP.mono (e1.trans e2) hq) _ hp⟩
   have:=(selAt_ge (collPs p.parts l) p.kind p.name).1
   rw [findI_ext e2 _ _ this];exact this
  | false=>
   simp only [if_false,Bool.false_eq_true]
   refine ⟨fun hh=>(by rw [hs] at hh;cases hh),?_,hp⟩
   rw [h1.cases0 hs];simp only [allCs]
 ·intro _ l;simp only [allPs]
 ·intro p ps hp hq h l
  rw [allPs_cons] at h⊢
  rw [collPs_cons]
  have e:=collPs_ext ps (p.coll l)
  refine ⟨?_,hq h.2 _⟩
  have h3:=hp h.1 l
  have:=all_imp (f:=FoundP (p.coll l)) (g:=FoundP (collPs ps (p.coll l))) (fun q hq=>FoundP.mono e hq) [p] (by rw [allPs_cons];exact ⟨h3,by simp only [allPs]⟩)
  rw [allPs_cons] at this
  exact this.1
 ·intro _ j l;simp only [allCs]
 ·intro c cs hq hr h j l
  rw [allCs_cons] at h⊢
  rw [collCs_cons]
  have e:=collCs_ext cs j (collPs c.2 (l.modify j (addKey c.1)))
  exact ⟨all_imp (fun q hq=>FoundP.mono e hq) _ (hq h.1 _),hr h.2 _ _⟩
def KS (G:Int->Bytes->Prop) (l:List Sel):Prop:=∀s∈l,∀k∈s.keys,G s.kind k
theorem KS.mod {G:Int->Bytes->Prop} {l:List Sel} (h:KS G l) {j:Nat} {key:Bytes} {s:Sel} (hs:l[j]? = some s) (hk:G s.kind key):KS G (l.modify j (addKey key)):=by
 intro t ht k hkt
 obtain ⟨i,hi⟩:=List.getElem?_of_mem ht
 rw [List.getElem?_modify] at hi
 by_cases hj:j=i
 ·subst hj
  rw [hs] at hi
  have h2:addKey key s=t:=by simpa using hi
  subst h2
  have hm:=List.mem_of_getElem? hs
  unfold addKey at hkt⊢
  split at hkt
  ·rename_i hc;rw [if_pos hc];exact h s hm k hkt
  ·rename_i hc;rw [if_neg hc]
   simp only [List.mem_append,List.mem_singleton] at hkt
   rcases hkt with hkt|rfl
   ·exact h s hm k hkt
   ·exact hk
 ·have:l[i]? = some t:=by
   cases hl:l[i]? with
   | none=>rw [hl] at hi;simp at hi
   | some u=>rw [hl] at hi;simp [hj] at hi;rw [hi]
  exact h t (List.mem_of_getElem? this) k hkt
theorem KS.add {G:Int->Bytes->Prop} {l:List Sel} (h:KS G l) (k:Int) (n:Bytes):KS G (selAdd l k n):=by
 unfold selAdd
 split
 ·intro s hs k hk
  rcases List.mem_append.1 hs with hs|hs
  ·exact h s hs k hk
  ·simp at hs;subst hs;cases hk
 ·exact h
def KeysG (G:Int->Bytes->Prop) (p:Part):Prop:=selB p.kind=true->∀c∈p.cases,G p.kind c.1
theorem selAdd_at (l:List Sel) (k:Int) (n:Bytes):∃s,(selAdd l k n)[selAt l k n]? = some s/\s.kind=k:=by
 unfold selAdd selAt
 by_cases h:findI l k n<0
 ·rw [if_pos h,if_pos h]
  exact ⟨⟨k,n,[]⟩,by simp,rfl⟩
 ·rw [if_neg h,if_neg h]
  unfold findI at h⊢
  induction l with
  | nil=>exact absurd (by simp [idxI]) h
  | cons s l ih=>
   simp only [idxI] at h⊢
   cases hs:selIs k n s with
   | true=>
    refine ⟨s,rfl,?_⟩
    unfold selIs at hs;simp at hs;exact hs.1
   | false=>
    simp only [hs,cond_false] at h⊢
    have h2:¬idxI (selIs k n) l<0:=by intro hlt;rw [if_pos hlt] at h;exact h (by decide)
    obtain ⟨t,h3,h4⟩:=ih h2
    rw [if_neg h2]
    refine ⟨t,?_,h4⟩
    have:(idxI (selIs k n) l+1).toNat=(idxI (selIs k n) l).toNat+1:=by omega
    rw [this];exact h3
theorem ext_at {l l':List Sel} (h:SelExt l l') {j:Nat} {k:Int} (hj:∃s,l[j]? = some s/\s.kind=k):∃s,l'[j]? = some s/\s.kind=k:=by
 obtain ⟨s,h1,h2⟩:=hj
 have hi:j<l'.length:=Nat.lt_of_lt_of_le (List.getElem?_eq_some_iff.1 h1).1 h.1
 exact ⟨l'[j],List.getElem?_eq_getElem hi,by rw [<-(h.2 j s _ h1 (List.getElem?_eq_getElem hi)).1];exact h2⟩
theorem coll_keys (G:Int->Bytes->Prop) (ps:List Part):allPs (KeysG G) ps->∀l,KS G l->KS G (collPs ps l):=by
 refine tree_Q (P:=fun p=>p.all (KeysG G)->∀l,KS G l->KS G (p.coll l)) (Q:=fun ps=>allPs (KeysG G) ps->∀l,KS G l->KS G (collPs ps l))
  (R:=fun cs=>allCs (KeysG G) cs->∀k,(∀c∈cs,G k c.1)->∀j l,(∃s,l[j]? = some s/\s.kind=k)->KS G l->KS G (collCs cs j l)) ?_ ?_ ?_ ?_ ?_ ps
 ·intro p hr hq h l hl
  rw [p.all_eq] at h
  rw [p.coll_eq]
  have h1:=hq h.2.2 l hl
  cases hs:selB p.kind with
  | true=>
   simp only [if_true]
   exact hr h.2.1 p.kind (h.1 hs) _ _ (selAdd_at _ _ _) (h1.add _ _)
  | false=>simpa using h1
 ·intro _ l hl;simpa only [collPs] using hl
 ·intro p ps hp hq h l hl
  rw [allPs_cons] at h
  rw [collPs_cons]
  exact hq h.2 _ (hp h.1 l hl)
 ·intro _ k _ j l _ hl;simpa only [collCs] using hl
 ·intro c cs hq hr h k hk j l hj hl
  rw [allCs_cons] at h
  rw [collCs_cons]
  obtain ⟨s,hs,hsk⟩:=hj
  have h2:=hq h.1 _ (hl.mod hs (by rw [hsk];exact hk c (by simp)))
  exact hr h.2 k (fun d hd=>hk d (by simp [hd])) j _ (ext_at ((SelExt.mod l j c.1).trans (collPs_ext c.2 _)) ⟨s,hs,hsk⟩) h2
theorem findI_ord (l:List Sel) (k:Int) (n:Bytes):findI (l.map Sel.ord) k n=findI l k n:=by
 unfold findI
 induction l with
 | nil=>rfl
 | cons s l ih=>
  have:selIs k n s.ord=selIs k n s:=rfl
  simp only [List.map_cons,idxI,this,ih]
theorem findC_ne {cs:List Case} {k:Bytes} (h:∃c∈cs,c.1=k):findC cs k≠none:=by
 obtain ⟨c,hc,hk⟩:=h
 intro hn
 have:(cs.find? fun c=>c.1 == k)=none:=by
  unfold findC at hn;simpa using hn
 have:=List.find?_eq_none.1 this c hc
 simp [hk] at this
theorem ord_mem {kind:Int} {keys:List Bytes} {k:Bytes} (h:k∈ordK kind keys):k∈keys\/k=kOtherS:=by
 unfold ordK at h
 simp only [List.mem_append,List.mem_singleton] at h
 rcases h with h|h|h
 ·left;exact (List.mem_filter.1 h).1
 ·unfold clsK at h
  split at h
  ·cases h
  ·left;have:=(List.mem_filter.1 h).2;simpa using this
 ·right;exact h
theorem ord_ne (kind:Int) (keys:List Bytes):ordK kind keys≠[]:=by unfold ordK;simp
theorem ord_len (kind:Int) (keys:List Bytes):(ordK kind keys).length<=keys.length+6:=by
 unfold ordK
 rw [List.length_append,List.length_append]
 have h1:=List.length_filter_le (keepK kind) keys
 have h2:(clsK kind keys).length<=5:=by
  unfold clsK
  split
  ·simp
  ·exact List.length_filter_le _ kFive
 simp;omega
theorem sels_len (ps:List Part):(selsP ps).length<=wtPs ps:=by
 unfold selsP
 rw [List.length_map]
 have:=collPs_w ps []
 have h2:=len_selW (collPs ps [])
 simp only [selW] at this;omega
theorem sels_keys (ps:List Part):∀s∈selsP ps,s.keys≠[]/\s.keys.length<=wtPs ps+6:=by
 intro s hs
 obtain ⟨t,ht,rfl⟩:=List.mem_map.1 hs
 refine ⟨ord_ne _ _,?_⟩
 have h1:=ord_len t.kind t.keys
 have h2:=keys_selW ht
 have h3:=collPs_w ps []
 simp only [selW] at h3
 show (ordK t.kind t.keys).length<=_
 omega
theorem KS.nil (G:Int->Bytes->Prop):KS G []:=fun s hs=>by cases hs
theorem sels_klen (ps:List Part):∀s∈selsP ps,∀k∈s.keys,k.length<=wtPs ps+5:=by
 intro s hs k hk
 obtain ⟨t,ht,rfl⟩:=List.mem_map.1 hs
 have h:=coll_keys (fun _ k=>k.length<=wtPs ps) ps (all_imp (fun p hp _ c hc=>hp c hc) ps (all_short ps _ (Nat.le_refl _))) [] (KS.nil _)
 rcases ord_mem (kind:=t.kind) (keys:=t.keys) hk with h1|rfl
 ·have:=h t ht k h1;omega
 ·show 5<=_;omega
theorem valid_ok {ps:List Part} (h:allPs WfP ps):allPs (resOk (selsP ps)) ps:=by
 refine all_imp (fun p hp=>?_) ps (all_and ps h (coll_found ps h []))
 intro hs
 refine ⟨?_,findC_ne (hp.1.other hs)⟩
 unfold selsP
 rw [findI_ord];exact hp.2 hs
def nj:List Part->Bool
 | x::y::t=>!(x.kind == 1&&y.kind == 1)&&nj (y::t)
 | _=>true
theorem nj_cons2 (x y:Part) (t:List Part):nj (x::y::t)=(!(x.kind == 1&&y.kind == 1)&&nj (y::t)):=rfl
theorem fold_app (t:List Part):∀(d:List Part) (y:Part),nj (y::t)=true->t.foldl addP (d++[y])=d++[y]++t:=by
 induction t with
 | nil=>intro d y _;simp
 | cons x t ih=>
  intro d y h
  rw [nj_cons2,Bool.and_eq_true] at h
  have h1:(x.kind == 1&&y.kind == 1)=false:=by rw [Bool.and_comm];have h0:=h.1;cases hb:(y.kind == 1&&x.kind == 1) with
   | false=>rfl
   | true=>rw [hb] at h0;cases h0
  rw [List.foldl_cons,addP_snoc,if_neg (by rw [h1];simp),ih (d++[y]) x h.2]
  simp
theorem wtPs_app (a b:List Part):wtPs (a++b)=wtPs a+wtPs b:=by
 induction a with
 | nil=>simp [wtPs_nil]
 | cons x a ih=>rw [List.cons_append,wtPs_cons,wtPs_cons,ih];omega
theorem escB_ge (s:Bytes):s.length<=(escB s).length:=by
 induction s with
 | nil=>simp
 | cons c s ih=>rw [escB];split<;>simp<;>omega
theorem wt_len (ps:List Part):∀d c prev,formedPs ps d c prev=true->wtPs ps<=2*lenPs ps:=by
 refine tree_Q (P:=fun p=>∀d c,p.formedB d c=true->p.wt<=2*p.lenB)
  (Q:=fun ps=>∀d c prev,formedPs ps d c prev=true->wtPs ps<=2*lenPs ps)
  (R:=fun cs=>∀k d c keys,formedCs cs k d c keys=true->wtCs cs<=2*lenCs cs) ?_ ?_ ?_ ?_ ?_ ps
 ·intro p hr hq d c h
  rw [p.formedB_eq] at h
  rw [p.lenB_eq,p.wt_eq]
  by_cases h11:p.kind=11
  ·have h1:(p.kind == 1)=false:=by rw [h11];rfl
   have h10:(p.kind == 10)=false:=by rw [h11];rfl
   have h11':(p.kind == 11)=true:=by simpa using h11
   rw [h11',if_pos rfl,Bool.and_eq_true] at h
   have h3:=hq _ _ _ h.2
   have h4:=h.1
   unfold elHead at h4
   simp at h4
   have hc:p.cases=[]:=by simpa using h4.2
   simp only [h1,h10,h11',if_true,if_false,Bool.false_eq_true]
   rw [h4.1.1.2,h4.1.2,hc,wtCs_nil]
   cases he:p.parts.isEmpty with
   | true=>
    have:p.parts=[]:=by simpa using he
    rw [this,wtPs_nil];simp<;>omega
   | false=>simp<;>omega
  ·have h11':(p.kind == 11)=false:=by simpa using h11
   rw [h11',if_neg (by simp)] at h
   cases hs:selB p.kind with
   | true=>
    rw [hs,if_pos rfl,Bool.and_eq_true] at h
    have h3:=hr _ _ _ _ h.2
    have h4:=h.1
    unfold selHead at h4
    simp at h4
    have hp:p.parts=[]:=by simpa using h4.1.1.2
    have e1:(p.kind == 1)=false/\(p.kind == 10)=false:=by
     rcases (selB_iff _).1 hs with e|e|e<;>(rw [e];decide)
    obtain ⟨e1,e10⟩:=e1
    simp only [e1,e10,h11',if_true,if_false,Bool.false_eq_true]
    rw [h4.1.1.1.1.2,h4.1.1.1.2,hp,wtPs_nil]
    simp<;>omega
   | false=>
    rw [hs,if_neg (by simp)] at h
    unfold plainB at h
    simp only [Bool.and_eq_true] at h
    obtain ⟨⟨⟨⟨⟨hk,hc⟩,hp⟩,ht⟩,hn⟩,hst⟩:=h
    have hc:=len0 hc
    have hp:=len0 hp
    rw [hc,hp,wtCs_nil,wtPs_nil]
    have e:∀j:Int,p.kind≠j->(p.kind == j)=false:=fun j h=>by simpa using h
    unfold wT at ht
    unfold wN at hn
    unfold wS at hst
    unfold plainK at hk
    by_cases k1:p.kind=1
    ·rw [k1] at ht hn hst hk
     simp at hn hst hk
     rw [k1,hn,hst]
     have:=escB_ge p.text
     have:0<p.text.length:=List.length_pos_iff.2 hk
     simp;omega
    by_cases k10:p.kind=10
    ·rw [k10] at ht hn hst hk
     simp at ht hn hst
     rw [k10,ht,hn,hst];simp
    rw [e 1 k1] at ht hn hst hk
    rw [e 10 k10] at hn hst hk
    simp only [Bool.false_eq_true,if_false] at ht hn hst hk
    have ht2:p.text=[]:=by simpa using ht
    rw [e 1 k1,e 10 k10,h11',ht2]
    simp only [Bool.false_eq_true,if_false]
    cases hse:(p.style == []) with
    | true=>
     have:p.style=[]:=by simpa using hse
     rw [this];simp<;>omega
    | false=>simp<;>omega
 ·intro d c prev _;simp [lenPs,wtPs]
 ·intro p ps hp hq d c prev h
  rw [formedPs_cons,Bool.and_eq_true,Bool.and_eq_true] at h
  rw [lenPs_cons,wtPs_cons]
  have:=hp _ _ h.2.1;have:=hq _ _ _ h.2.2
  omega
 ·intro k d c keys _;simp [lenCs,wtCs]
 ·intro x cs hq hr k d c keys h
  rw [formedCs_cons,Bool.and_eq_true,Bool.and_eq_true] at h
  rw [lenCs_cons,wtCs_cons]
  have:=hq _ _ _ h.2.1;have:=hr _ _ _ _ h.2.2
  omega
theorem wt_addP (o:List Part) (x:Part):wtPs (addP o x)<=wtPs o+x.wt:=by
 rcases List.eq_nil_or_concat o with rfl|⟨d,y,rfl⟩
 ·rw [addP_nil,wtPs_cons,wtPs_nil];omega
 ·rw [List.concat_eq_append,addP_snoc]
  split
  ·rw [wtPs_app,wtPs_app,wtPs_cons,wtPs_cons,wtPs_nil,Part.wt_eq,x.wt_eq,y.wt_eq]
   simp only [List.length_append];omega
  ·simp only [wtPs_app,wtPs_cons,wtPs_nil];omega
theorem wt_adds (l:List Part):∀o,wtPs (l.foldl addP o)<=wtPs o+wtPs l:=by
 induction l with
 | nil=>intro o;simp
 | cons x l ih=>intro o;rw [List.foldl_cons,wtPs_cons];have h1:=ih (addP o x);have h2:=wt_addP o x;omega
theorem res_wt (pk:Pick) (hpk:Picks pk) (K:Nat) (hK:1<=K) (ps:List Part):∀count:Bytes,1+count.length<=K->allPs (fun p=>selB p.kind=true->1+p.name.length<=K) ps->∀out,wtPs (resPs pk count ps out)<=wtPs out+K*wtPs ps:=by
 have hm:∀a,a<=K*a:=fun a=>Nat.le_mul_of_pos_left a hK
 refine tree_Q (P:=fun p=>∀count:Bytes,1+count.length<=K->p.all (fun p=>selB p.kind=true->1+p.name.length<=K)->∀out,wtPs (p.res pk count out)<=wtPs out+K*p.wt)
  (Q:=fun ps=>∀count:Bytes,1+count.length<=K->allPs (fun p=>selB p.kind=true->1+p.name.length<=K) ps->∀out,wtPs (resPs pk count ps out)<=wtPs out+K*wtPs ps)
  (R:=fun cs=>∀count:Bytes,1+count.length<=K->allCs (fun p=>selB p.kind=true->1+p.name.length<=K) cs->∀c∈resCs pk count cs,wtPs c.2<=K*wtCs cs) ?_ ?_ ?_ ?_ ?_ ps
 ·intro p hr hq count hc ha out
  rw [p.all_eq] at ha
  obtain ⟨h1,h2,h3⟩:=ha
  have hw:K*p.wt=K+K*p.text.length+K*p.name.length+K*p.style.length+K*wtCs p.cases+K*wtPs p.parts:=by
   rw [p.wt_eq];simp only [Nat.mul_add,Nat.mul_one]
  have t1:=hm p.text.length;have t2:=hm p.name.length;have t3:=hm p.style.length;have t4:=hm (wtCs p.cases);have t5:=hm (wtPs p.parts)
  rw [p.res_eq]
  split
  ·rename_i hs
   have hcnt:1+(if p.kind == 9 then count else p.name).length<=K:=by
    split
    ·exact hc
    ·exact h1 hs
   have h5:=wt_adds (pk p.kind p.name (resCs pk (if p.kind == 9 then count else p.name) p.cases)) out
   rcases hpk p.kind p.name (resCs pk (if p.kind == 9 then count else p.name) p.cases) with h|⟨key,h⟩
   ·rw [h,wtPs_nil] at h5;rw [h];omega
   ·have:=hr _ hcnt h2 _ h
    simp only at this;omega
  ·split
   ·rw [wtPs_app,wtPs_cons,wtPs_nil,Part.wt_eq]
    simp only [List.length_nil,wtCs_nil,wtPs_nil];omega
   ·split
    ·have:=hq count hc h3 []
     rw [wtPs_nil] at this
     rw [wtPs_app,wtPs_cons,wtPs_nil,Part.wt_eq]
     simp only;omega
    ·have:=wt_addP out p
     have:=p.wt_eq
     omega
 ·intro count _ _ out;simp [resPs]
 ·intro p ps hp hq count hc ha out
  rw [allPs_cons] at ha
  rw [resPs_cons,wtPs_cons,Nat.mul_add]
  have h1:=hp count hc ha.1 out
  have h2:=hq count hc ha.2 (p.res pk count out)
  omega
 ·intro count _ _ c hc;simp [resCs] at hc
 ·intro c cs hq hr count hc ha x hx
  rw [allCs_cons] at ha
  obtain ⟨k,q⟩:=c
  simp only [resCs] at hx
  rw [wtCs_cons,Nat.mul_add,Nat.mul_add]
  rcases List.mem_cons.1 hx with rfl|hx
  ·have:=hq count hc ha.1 []
   rw [wtPs_nil] at this
   simp only at this⊢;omega
  ·have:=hr count hc ha.2 x hx
   omega
theorem vars_wt (l:Loc) {ps:List Part} (h:validB ps=true) (L:List Sel) (keys:List Bytes):wtPs (resPs (pkP l L keys) [] ps [])<=2^19:=by
 have hw:=valid_wf h
 have h0:=h
 unfold validB at h
 simp only [Bool.and_eq_true,decide_eq_true_eq] at h
 have h1:=wt_len ps _ _ _ h.1.1
 have h2:=text_len_eq ps _ _ _ h.1.1
 have h3:=res_wt (pkP l L keys) (pkP_picks l L keys) 41 (by decide) ps [] (by simp) (all_imp (fun p hp hs=>by have:=hp.name hs;omega) ps hw) []
 rw [wtPs_nil] at h3
 have:41*wtPs ps<=41*8000:=Nat.mul_le_mul_left _ (by omega)
 omega

end Go.Ir
namespace Go.Ir
open Go.Proofs
variable (W0 : World)
theorem okCe (l:List Case):∀y∈l.map Case.enc,y.ok=true:=by
 intro y hy;obtain ⟨x,_,rfl⟩:=List.mem_map.1 hy;rfl
theorem celCe (l:List Case):∀y∈l.map Case.enc,(cells y).length=2:=by
 intro y hy;obtain ⟨x,_,rfl⟩:=List.mem_map.1 hy;rfl
def TCs:Nat:=78
theorem c_cloneC (cs:List Case) (hl:cs.length<=2^30):RetN Tryz.prog W0 162 [.sl (cs.map Case.enc)] [] (.arr TCs 2 (cs.map Case.enc)) []:=by
 refine fn_newW (s:=2) f162ok (by simp) (by simp [lk]) fun n0 hn0=>?_
 clear hn0
 have hll:cs.length<=LLim:=by unfold LLim;omega
 cases cs with
 | nil=>
  simp only [push_cast,seval,reduceEqDiff,List.map_nil,List.length_nil,eq_true (show 0<=LLim by decide),eq_true (celCe [])]
  intros
  refine ⟨?_,?_⟩
  ·intros
   exact ⟨_,StLe.own (s:=2) (e:=TCs) (sz:=2) (k:=0) rfl,_,rfl,by simp [lk],rfl,fun _ _ h=>by cases h⟩
  ·intros
   exact finNW_i rfl (by simp [lk,TCs])
 | cons c cs=>
  have hcel:=celCe (c::cs)
  rw [List.map_cons] at hcel
  rw [List.map_cons,Case.enc_eq] at *
  rw [List.length_cons] at hll
  simp only [push_cast,seval,reduceEqDiff,List.length_nil,eq_true (show 0<=LLim by decide),eq_true hcel,List.nil_append,eq_true hll]
  intros
  exact finNW_i rfl (by simp [lk,TCs,Case.enc_eq])
theorem frz_boxM {W0:World} {nt n n' e sz:Nat} {env env':Env} {σ τ:Sto} {rid kid:Id} {A B es:List V} (hrk:rid≠kid) (hr:lk σ rid=some (.box (.agg (A ++ .arr kid::B)))) (hk:lk σ kid=some (.arr e sz es)) (hτ:∀i e',lk τ i=some e'->lk σ i=some e'/\i≠kid) (hτr:lk τ rid=none) (hok:∀y∈es,y.ok=true) (henv:∀s,get env' s=get env s\/get env' s = .any) (hn:n<=n') :
  StLe W0 nt ⟨env,σ,n⟩ ⟨env',(rid,.box (.agg (A ++ .sl es::B)))::τ,n'⟩:=by
 refine StLe.weak (fun i=>if i=kid then some es else none) (fun i es' h=>?_) (fun s=>?_) (fun i e' h=>?_) hn
 ·split at h
  ·rename_i hi;subst hi;cases h
   refine ⟨⟨e,sz,hk⟩,?_⟩
   simp only [lk,if_neg hrk]
   cases hl:lk τ i with
   | none=>rfl
   | some x=>exact absurd rfl (hτ i x hl).2
  ·cases h
 ·rcases henv s with h|h
  ·rw [h];exact .refl _
  ·rw [h];exact .any _
 ·simp only [lk] at h
  by_cases hi:rid=i
  ·rw [if_pos hi] at h
   cases h
   subst hi
   refine ⟨_,hr,.box _ _ (.agg _ _ (by simp) fun k c c' h1 h2=>?_) (by simp [cells]) rfl rfl⟩
   by_cases hk:k<A.length
   ·rw [List.getElem?_append_left hk] at h1 h2
    rw [h1] at h2;cases h2;exact .refl _
   ·rw [List.getElem?_append_right (by omega)] at h1 h2
    cases hq:k-A.length with
    | zero=>
     rw [hq] at h1 h2
     simp at h1 h2
     subst h1 h2
     refine .arr kid es es (by simp) rfl (fun k c c' h1 h2=>?_) (fun k c c' h1 h2=>?_)
     ·rw [h1] at h2;cases h2;exact .refl _
     ·rw [h1] at h2;cases h2
      have:=hok c (List.mem_of_getElem? h1)
      exact ⟨rfl,this,this⟩
    | succ q=>
     rw [hq] at h1 h2
     simp only [List.getElem?_cons_succ] at h1 h2
     rw [h1] at h2;cases h2;exact .refl _
  ·rw [if_neg hi] at h
   exact ⟨_,(hτ i e' h).1,.refl _⟩
theorem retS_of_retN {P:Program} {W0:World} {f:FuncId} {args:List V} {σ σ':Sto} {e sz:Nat} {es:List V} (h:RetN P W0 f args σ (.arr e sz es) σ') (hok:∀y∈es,y.ok=true):RetS P W0 f args σ (.sl es) σ':=by
 refine ⟨h.callable,h.dom,fun n w μ H vals hp hv=>Calls.mono (h.run n w μ H vals hp hv) ?_⟩
 rintro e' w' ⟨val,μ',H',n',id,rfl,hm,h1,hn0,hl,hp',hn,hf,hold⟩
 have hat:=init_at (W0:=W0) (nt:=1) (args:=[.arr id]) (by simp) hp' (VRels.cons (.arr _ _ hm h1) VRels.nil_)
 obtain ⟨μ2,H2,hr,hp2,hf2,hold2,hbn⟩:=hat.weak (fun i=>if i=id then some es else none) (env':=[(0,.sl es)]) (σ':=σ') (fun i es' hi=>by
   split at hi
   ·rename_i h0;subst h0;cases hi;exact ⟨⟨e,sz,by simp [lk]⟩,hl⟩
   ·cases hi) (fun s=>by
   cases s with
   | zero=>
    simp only [params,get,if_true]
    refine .arr id es es (by simp) rfl (fun k c c' h1 h2=>?_) (fun k c c' h1 h2=>?_)
    ·rw [h1] at h2;cases h2;exact .refl _
    ·rw [h1] at h2;cases h2
     have:=hok c (List.mem_of_getElem? h1)
     exact ⟨rfl,this,this⟩
   | succ s=>exact .refl _) (fun i e2 hi=>⟨e2,by
   simp only [lk]
   rw [if_neg]
   ·exact hi
   ·rintro rfl;rw [hl] at hi;exact absurd hi (by simp),.refl _⟩) (Nat.le_refl _)
 refine ⟨val,μ2,H2,n',rfl,?_,hp2,hn,hf.trans hf2,fun i hi h0=>hold2 i (by simp only;omega) (hold i hi h0)⟩
 have:=hr.at_ 0
 simpa [get] using this
set_option maxHeartbeats 4000000 in
theorem c_clonedN:∀(N:Nat) (ps:List Part),wtPs ps<N->wtPs ps<=2^24->RetN Tryz.prog W0 127 [.sl (ps.map Part.enc)] [] (.arr TPt 6 (ps.map Part.enc)) []:=by
 intro N
 induction N with
 | zero=>intro ps h;omega
 | succ N ihN=>
 have ih:=fun ps h1 h2=>retS_of_retN (ihN ps h1 h2) (okPt _)
 intro ps hN hw0
 have hlen:=len_wtPs ps
 refine fn_newW (s:=2) f127ok (by simp) (by simp [lk]) fun n0 hn0=>?_
 clear hn0
 simp only [push_cast,seval,reduceEqDiff]
 intro k1 k2 k3
 refine aWP_loopW ps.length (Inv:=fun m st=>∃done rest n id,ps=done++rest/\m=rest.length/\id.1<n/\st=⟨[(3,.arr id),(7,.sl (ps.map Part.enc)),(8,.i .i64 ps.length),(9,.i .i64 done.length)],[(id,.arr TPt 6 (done.map Part.enc))],n⟩) ⟨_,(StLe.own (s:=3) (e:=TPt) (sz:=6) (k:=99) rfl).trans (StLe.envD (fun t=>?_) (Nat.le_refl _)),[],ps,_,_,rfl,rfl,?_,rfl⟩ ?_
 ·left
  by_cases h3:3=t
  ·subst h3;rfl
  ·simp [get,h3]
 ·simp
 rintro m _ ⟨done,rest,n,id,hz,rfl,hin,rfl⟩
 cases rest with
 | nil=>
  simp only [List.append_nil] at hz
  subst hz
  simp only [push_cast,seval,reduceEqDiff]
  intros
  exact finNW_i rfl (by simp [lk])
 | cons p rest=>
  have hbd:=zip_bd hz
  have hwp:=wtPs_mem (ps:=ps) (p:=p) (by rw [hz];simp)
  have hpw:=p.wt_eq
  have hre:=ih p.parts (by omega) (by omega)
  have hlc:=len_wtCs p.cases
  have hcl:=c_cloneC W0 p.cases (by omega)
  have fix:∀k j,(id=(n+1+k,j))=False:=fun k j=>eq_false fun he=>by rw [he] at hin;simp at hin;omega
  have fxi:∀k j,((n+1+k,j)=id)=False:=fun k j=>eq_false fun he=>of_eq_false (fix k j) he.symm
  have hll:done.length+1<=LLim:=by have:ps.length=done.length+(rest.length+1):=by rw [hz];simp
                                   unfold LLim;omega
  simp only [push_cast,seval,reduceEqDiff,hz,wrap_zip p (done:=done) (by omega),fix,fxi,List.length_map]
  repeat' (first|(((first|apply condU_s|apply gdU_t|apply gdU_f)<;>intro _h)<;>simp only [push_cast,seval,reduceEqDiff,_h,hz,wrap_zip p (done:=done) (by omega),fix,fxi,List.length_map])|(refine c_call (by exact hre) ?_;simp only [push_cast,seval,reduceEqDiff,hz,wrap_zip p (done:=done) (by omega),fix,fxi,List.length_map])|intro _)
  refine c_calln hcl (fun i e h=>by simp [lk] at h) ?_
  rw [over_nil]
  have hTC:TCs=78:=rfl
  simp only [push_cast,seval,reduceEqDiff,hz,wrap_zip p (done:=done) (by omega),fix,fxi,List.length_map]
  intros
  rename_i a1 a2 a3 a4 a5
  have hlt:n<n+1+a1/\n+1+a1<n+1+a1+1+a2+1+a3/\n+1+a1+1+a2+1+a3<n+1+a1+1+a2+1+a3+1+a4+1+a5:=by omega
  generalize n+1+a1+1+a2+1+a3+1+a4+1+a5=n3 at *
  generalize n+1+a1+1+a2+1+a3=c0 at *
  generalize n+1+a1=x0 at *
  obtain ⟨hx0,hc0,hn3⟩:=hlt
  have gic:(id=(c0,19))=False:=eq_false fun he=>by rw [he] at hin;simp at hin;omega
  have gci:((c0,19)=id)=False:=eq_false fun he=>of_eq_false gic he.symm
  have gix:(id=(x0,5))=False:=eq_false fun he=>by rw [he] at hin;simp at hin;omega
  have gxi:((x0,5)=id)=False:=eq_false fun he=>of_eq_false gix he.symm
  refine aWP_loopW p.cases.length (Inv:=fun m st=>∃cd cr n',p.cases=cd++cr/\m=cr.length/\c0<n'/\st=⟨[(3,.arr id),(5,.ref (x0,5) 0),(7,.sl ((done++p::rest).map Part.enc)),(8,.i .i64 (done++p::rest).length),(9,.i .i64 done.length),(23,.i .i64 p.cases.length),(24,.i .i64 cd.length)],[((c0,19),.arr TCs 2 (p.cases.map Case.enc)),((x0,5),.box (.agg [.i .i64 p.kind,.s p.text,.s p.name,.s p.style,.arr (c0,19),.sl (p.parts.map Part.enc)])),(id,.arr TPt 6 (done.map Part.enc))],n'⟩) ⟨_,StLe.refl,[],p.cases,_,rfl,rfl,hn3,rfl⟩ ?_
  clear hre hcl
  rintro m _ ⟨cd,cr,n',hcz,rfl,hn',rfl⟩
  cases cr with
  | nil=>
   have hlt0:decide ((cd.length:Int)<(p.cases.length:Int))=false:=by rw [hcz];simp
   simp only [push_cast,seval,reduceEqDiff,hlt0]
   intros
   refine wkW_i (frz_boxM (e:=TCs) (sz:=2) (rid:=(x0,5)) (kid:=(c0,19)) (A:=[.i .i64 p.kind,.s p.text,.s p.name,.s p.style]) (B:=[.sl (p.parts.map Part.enc)]) (es:=p.cases.map Case.enc) (τ:=[(id,.arr TPt 6 (done.map Part.enc))]) (by simp) (by simp [lk]) (by simp [lk]) (fun i e' h=>?_) (by simp [lk,gix]) (okCe _) (fun s=>.inl rfl) (Nat.le_refl _)) ?_
   ·simp only [lk] at h
    split at h
    ·rename_i he;subst he;cases h
     exact ⟨by simp [lk,gci,gxi],fun h=>of_eq_false gic h⟩
    ·cases h
   have hps:((done++[p]).map Part.enc)=done.map Part.enc++[.agg [.i .i64 p.kind,.s p.text,.s p.name,.s p.style,.sl (p.cases.map Case.enc),.sl (p.parts.map Part.enc)]]:=by simp [Part.enc_eq]
   have gxi2:=gxi
   simp only [push_cast,seval,reduceEqDiff,List.cons_append,List.nil_append,gxi,gix,eq_true hll,List.length_map,<-hps,TPt,wrap_zip p (done:=done) (by omega)]
   intros
   exact ⟨_,_,Nat.lt_succ_self _,StLe.drop (fun i e h=>lk_app_left (τ:=[_]) h) (Nat.le_refl _),done++[p],rest,_,_,by simp,rfl,by (try simp);omega,rfl⟩
  | cons c cr=>
   have hlt0:decide ((cd.length:Int)<(p.cases.length:Int))=true:=by rw [hcz];simp;omega
   have hcb:=zip_bd hcz
   have hcw:=wtCs_mem (cs:=p.cases) (c:=c) (by rw [hcz];simp)
   have hrc:=ih c.2 (by omega) (by omega)
   have hget:(p.cases.map Case.enc)[cd.length]? = some (.agg [.s c.1,.sl (c.2.map Part.enc)]):=by
    rw [hcz,List.getElem?_map,List.getElem?_append_right (by simp)];simp [Case.enc_eq]
   have hset:(p.cases.map Case.enc).set cd.length (.agg [.s c.1,.sl (c.2.map Part.enc)])=p.cases.map Case.enc:=by
    rw [hcz];simp [List.set_append,Case.enc_eq]
   simp only [push_cast,seval,reduceEqDiff,hlt0,hget,hset,if_pos hcb,wrap_zip c (done:=cd) (by omega),List.length_map,TCs]
   repeat' (first|(((first|apply condU_s|apply gdU_t|apply gdU_f)<;>intro _h)<;>simp only [push_cast,seval,reduceEqDiff,_h,hlt0,hget,hset,if_pos hcb,wrap_zip c (done:=cd) (by omega),List.length_map,TCs])|(refine c_call (by exact hrc) ?_;simp only [push_cast,seval,reduceEqDiff,hlt0,hget,hset,if_pos hcb,wrap_zip c (done:=cd) (by omega),List.length_map,TCs])|intro _)
   exact ⟨_,_,Nat.lt_succ_self _,StLe.refl,cd++[c],cr,_,by rw [hcz];simp,rfl,by omega,rfl⟩
theorem c_cloned (N:Nat) (ps:List Part) (h:wtPs ps<N) (hw:wtPs ps<=2^24):RetS Tryz.prog W0 127 [.sl (ps.map Part.enc)] [] (.sl (ps.map Part.enc)) []:=retS_of_retN (c_clonedN W0 N ps h hw) (okPt _)

end Go.Ir
section
namespace Go.Ir
open Go.RowKit Go.Proofs.YtgkmbjojkihbmaaGreatDoor
def mkEl (ag:Bool) (c:List V):V:=if ag then .agg c else c.headD .any
inductive WtV (P:Program):TypeId->List V->Prop where
 | bool (t:TypeId) (b:Bool) (h:P.underlying t=some .bool):WtV P t [.b b]
 | int (t:TypeId) (k:IntKind) (n:Int) (h:P.underlying t=some (.int k)) (hw:(Lit.int k n).wf=true):WtV P t [.i k n]
 | str (t:TypeId) (l:List UInt8) (h:P.underlying t=some .string):WtV P t [.s l]
 | sl (t e:TypeId) (es:List V) (h:P.underlying t=some (.slice e)) (he:∀el∈es,∃c,el=mkEl ((aggT P e).getD false) c/\cells el=c) (hc:∀el∈es,(cells el).length=P.cellsOf e) (hw:∀el∈es,WtV P e (cells el)):WtV P t [.sl es]
 | st (t:TypeId) (fs:Array Field) (vs:List V) (h:P.underlying t=some (.struct fs)) (hl:vs.length=P.cellsOf t) (hf:∀f∈fs.toList,WtV P f.type ((vs.drop f.offset).take (P.cellsOf f.type))):WtV P t vs
mutual
def bulkV:V->Nat
 | .s l=>l.length+1
 | .sl es=>bulkVs es+1
 | .agg cs=>bulkVs cs
 | _=>1
def bulkVs:List V->Nat
 | []=>0
 | v::vs=>bulkV v+bulkVs vs
end
theorem bulkVs_append (a b:List V):bulkVs (a++b)=bulkVs a+bulkVs b:=by
 induction a with
 | nil=>simp [bulkVs]
 | cons x a ih=>simp [bulkVs,ih];omega
def layB (P:Program):List Field->Nat->Option Nat
 | [],off=>some off
 | f::fs,off=>if f.offset=off then layB P fs (off+P.cellsOf f.type) else none
def plnB (P:Program) (T:List TypeId):Bool:=T.all fun t=>match P.underlying t with
 | some .bool|some (.int _)|some .string=>P.cellsOf t == 1
 | some (.slice e)=>P.cellsOf t == 1&&T.contains e&&decide (0<P.cellsOf e)
 | some (.struct fs)=>fs.toList.all (fun f=>T.contains f.type)&&layB P fs.toList 0 == some (P.cellsOf t)
 | _=>false
section
variable {H : Type} {enc : TypeId × Value → H} {P : Program} {w : World} {base : Nat} {spare : Nat → Bool} {held : Bool} {T : List TypeId}
theorem bulkAll_mem {d:DataW H} {ds:List (DataW H)} (h:d∈ds):Rows.uptoBulk d<=Rows.uptoBulkAll ds:=by
 induction ds with
 | nil=>cases h
 | cons x ds ih=>
  simp only [Rows.uptoBulkAll]
  rcases List.mem_cons.1 h with rfl|h
  ·omega
  ·have:=ih h;omega
theorem read_fields {μ:Id->Option Value} {Hc:Addr->Option Value} {cs:List Value} :
  ∀(fs:List Field) (off tot:Nat) (ds:List (DataW H)),layB P fs off=some tot->cs.length=tot->ds.length=fs.length->
   (∀(i:Nat) (f:Field) (d:DataW H),fs[i]? = some f->ds[i]? = some d->∃vs,CRel μ Hc vs ((cs.drop f.offset).take (P.cellsOf f.type))/\WtV P f.type vs/\bulkVs vs<=Rows.uptoBulk d)->
   off<=tot/\∃vs,CRel μ Hc vs (cs.drop off)/\(∀pre:List V,pre.length=off->∀f∈fs,WtV P f.type (((pre++vs).drop f.offset).take (P.cellsOf f.type)))/\bulkVs vs<=Rows.uptoBulkAll ds
 | [],off,tot,ds,hlay,hcs,hds,h=>by
  simp only [layB,Option.some.injEq] at hlay
  subst hlay
  refine ⟨Nat.le_refl _,[],?_,fun _ _ f hf=>(by cases hf),by simp [bulkVs]⟩
  rw [List.drop_of_length_le (by omega)]
  exact CRel.nil_
 | f::fs,off,tot,ds,hlay,hcs,hds,h=>by
  simp only [layB] at hlay
  split at hlay
  ·rename_i ho
   cases ds with
   | nil=>simp at hds
   | cons d ds=>
    obtain ⟨hle,vs,h1,h2,h3⟩:=read_fields fs _ tot ds hlay hcs (by simpa using hds) (fun i f' d' hf hd=>h (i+1) f' d' (by simpa using hf) (by simpa using hd))
    obtain ⟨us,g1,g2,g3⟩:=h 0 f d rfl rfl
    rw [ho] at g1
    have hul:us.length=P.cellsOf f.type:=by
     have:=g1.len
     rw [List.length_take,List.length_drop] at this
     omega
    refine ⟨by omega,us++vs,?_,?_,?_⟩
    ·have:=g1.append h1
     rw [<-List.drop_drop,List.take_append_drop] at this
     exact this
    ·intro pre hpre f' hf'
     rcases List.mem_cons.1 hf' with rfl|hf'
     ·rw [ho,<-hpre,List.drop_left,<-hul,List.take_left]
      exact g2
     ·have:=h2 (pre++us) (by simp [hpre,hul]) f' hf'
      rwa [List.append_assoc] at this
    ·rw [bulkVs_append]
     simp only [Rows.uptoBulkAll]
     omega
  ·cases hlay
theorem mkEl_cells {t:TypeId} {vs:List V} {ag:Bool} (hag:aggT P t=some ag) (h:WtV P t vs):cells (mkEl ag vs)=vs:=by
 cases ag with
 | true=>rfl
 | false=>
  cases h with
  | st t fs vs h hl hf=>simp [aggT,h,aggD] at hag
  | _=>rfl
theorem mkEl_bulk {t:TypeId} {vs:List V} {ag:Bool} (hag:aggT P t=some ag) (h:WtV P t vs):bulkV (mkEl ag vs)=bulkVs vs:=by
 cases ag with
 | true=>simp [mkEl,bulkV]
 | false=>
  cases h with
  | st t fs vs h hl hf=>simp [aggT,h,aggD] at hag
  | _=>simp [mkEl,bulkVs]
theorem read_plain {μ:Id->Option Value} (hT:plnB P T=true):∀(n:Nat) (t:TypeId) (cs:List Value) (x:DataW H × List MemPlace),t∈T->DataW.trod enc P w base spare held n t cs=some x->Rows.uptoBulk x.1<=1048576->
  ∃vs,CRel μ (fun ad=>w.cell? ad) vs cs/\WtV P t vs/\bulkVs vs<=Rows.uptoBulk x.1:=by
 intro n
 induction n with
 | zero=>intro t cs x _ h;simp [DataW.trod] at h
 | succ n ih=>
  intro t cs x ht h hb
  have hpl:=List.all_eq_true.1 hT t ht
  have one:∀{c:V} {v:Value},VRel μ (fun ad=>w.cell? ad) c v->v.oneCell'=true->CRel μ (fun ad=>w.cell? ad) [c] [v]:=fun hv h1=>
   ⟨VRels.cons hv VRels.nil_,fun v' hv'=>by rw [List.mem_singleton.1 hv'];exact h1⟩
  cases hu:P.underlying t with
  | none=>simp [hu] at hpl
  | some d=>
   cases d<;>simp only [hu] at hpl<;>(try (cases hpl;done))
   case bool=>
    unfold DataW.trod at h
    rw [hu] at h
    match cs,h with
    | [.bool b],h=>cases h;exact ⟨[.b b],one (.b b) rfl,.bool t b hu,by simp [bulkVs,bulkV,Rows.uptoBulk]⟩
   case int k=>
    unfold DataW.trod at h
    rw [hu] at h
    match cs,h with
    | [.int k' m],h=>
     simp only at h
     split at h
     ·rename_i hk
      obtain ⟨rfl,hw⟩:=hk
      cases h
      exact ⟨[.i k' m],one (.i k' m) rfl,.int t k' m hu hw,by simp [bulkVs,bulkV,Rows.uptoBulk]⟩
     ·cases h
   case string=>
    unfold DataW.trod at h
    rw [hu] at h
    match cs,h with
    | [.string s],h=>
     simp only at h
     split at h
     ·rename_i hs
      cases h
      simp only [Rows.uptoBulk] at hb
      refine ⟨[.s s.data.toList],one ?_ rfl,.str t _ hu,by simp [bulkVs,bulkV,Rows.uptoBulk]⟩
      have:=VRel.s (μ:=μ) (H:=fun ad=>w.cell? ad) s.data.toList (by unfold SLim;omega)
      simpa using this
     ·cases h
   case slice e=>
    simp only [Bool.and_eq_true,beq_iff_eq,List.contains_eq_mem,decide_eq_true_eq] at hpl
    obtain ⟨⟨hc1,heT⟩,hpos⟩:=hpl
    rcases DataW.trod_slice hu h with ⟨rfl,rfl⟩|⟨a,len,cap,elems,rest,m,hm,rfl,rfl,hbase,hlc,hcm,hel,helem,_,_⟩
    ·exact ⟨[.sl []],one (.slE none 0) rfl,.sl t e [] hu (fun _ h=>by cases h) (fun _ h=>by cases h) (fun _ h=>by cases h),by simp [bulkVs,bulkV,Rows.uptoBulk]⟩
    ·cases hm
     simp only [Rows.uptoBulk] at hb
     have hepl:=List.all_eq_true.1 hT e heT
     obtain ⟨ag,hag⟩:∃ag,aggT P e=some ag:=by
      unfold aggT
      cases hue:P.underlying e with
      | none=>simp [hue] at hepl
      | some d=>exact ⟨_,rfl⟩
     have each:∀i,i<len->∃(vs:List V) (seg:List Value) (y:DataW H × List MemPlace),elems[i]? = some y/\seg.length=P.cellsOf e/\(∀k,k<P.cellsOf e->w.cell? (a.add (i*P.cellsOf e+k))=seg[k]?)/\CRel μ (fun ad=>w.cell? ad) vs seg/\WtV P e vs/\bulkVs vs<=Rows.uptoBulk y.1:=by
      intro i hi
      have h1:=helem i hi
      have hlt:i<elems.length:=by omega
      rw [List.getElem?_eq_getElem hlt] at h1
      cases hcs:w.cells? base (a.add (i*P.cellsOf e)) (P.cellsOf e) with
      | none=>rw [hcs] at h1;cases h1
      | some seg=>
       rw [hcs] at h1
       obtain ⟨_,hl,hcell⟩:=World.cells?_some hcs
       have hmem:elems[i].1∈elems.map (·.1):=List.mem_map.2 ⟨_,List.getElem_mem hlt,rfl⟩
       have:=bulkAll_mem hmem
       obtain ⟨vs,r1,r2,r3⟩:=ih e seg elems[i] heT h1 (by omega)
       refine ⟨vs,seg,elems[i],List.getElem?_eq_getElem hlt,hl,fun k hk=>?_,r1,r2,r3⟩
       have:=hcell k hk
       rwa [show (a.add (i*P.cellsOf e)).add k=a.add (i*P.cellsOf e+k) from by
        unfold Addr.add
        by_cases hi:i*P.cellsOf e=0<;>by_cases hj:k=0<;>simp [hi,hj,Nat.add_assoc]] at this
     have all:∀j,j<=len->∃(es:List V) (vals:List Value),es.length=j/\vals.length=j*P.cellsOf e/\(∀el∈es,(∃c,el=mkEl ag c/\cells el=c)/\(cells el).length=P.cellsOf e/\WtV P e (cells el))/\CRel μ (fun ad=>w.cell? ad) (flat es) vals/\
       (∀(k:Nat) (v:Value),vals[k]? = some v->w.cell? (a.add k)=some v)/\bulkVs es<=Rows.uptoBulkAll ((elems.map (·.1)).take j):=by
      intro j
      induction j with
      | zero=>intro _;exact ⟨[],[],rfl,by simp,fun _ h=>(by cases h),CRel.nil_,fun k v h=>(by simp at h),by simp [bulkVs]⟩
      | succ j ihj=>
       intro hj
       obtain ⟨es,vals,g1,g2,g3,g4,g5,g6⟩:=ihj (by omega)
       obtain ⟨vs,seg,y,e1,e2,e3,e4,e5,e6⟩:=each j (by omega)
       have hcl:cells (mkEl ag vs)=vs:=mkEl_cells hag e5
       refine ⟨es++[mkEl ag vs],vals++seg,by simp [g1],by rw [List.length_append,g2,e2,Nat.succ_mul],?_,?_,?_,?_⟩
       ·intro el hel'
        rcases List.mem_append.1 hel' with h'|h'
        ·exact g3 el h'
        ·rw [List.mem_singleton.1 h',hcl]
         exact ⟨⟨vs,rfl,rfl⟩,by rw [e4.len,e2],e5⟩
       ·rw [flat_append]
        refine g4.append ?_
        have:flat [mkEl ag vs]=vs:=by simp [flat,hcl]
        rw [this];exact e4
       ·intro k v hk
        rcases Nat.lt_or_ge k vals.length with hlt|hge
        ·rw [List.getElem?_append_left hlt] at hk;exact g5 k v hk
        ·rw [List.getElem?_append_right hge] at hk
         have hklt:k-vals.length<seg.length:=(List.getElem?_eq_some_iff.1 hk).1
         have:=e3 (k-vals.length) (by omega)
         rw [hk,g2,show j*P.cellsOf e+(k-j*P.cellsOf e)=k by omega] at this
         exact this
       ·rw [bulkVs_append]
        have ht:(elems.map (·.1)).take (j+1)=(elems.map (·.1)).take j++[y.1]:=by
         rw [List.take_add_one,List.getElem?_map,e1];rfl
        have hba:∀(a b:List (DataW H)),Rows.uptoBulkAll (a++b)=Rows.uptoBulkAll a+Rows.uptoBulkAll b:=by
         intro a b
         induction a with
         | nil=>simp [Rows.uptoBulkAll]
         | cons x a ih=>simp [Rows.uptoBulkAll,ih];omega
        rw [ht,hba]
        have:=mkEl_bulk hag e5
        simp only [bulkVs,Rows.uptoBulkAll]
        omega
     obtain ⟨es,vals,g1,g2,g3,g4,g5,g6⟩:=all len (Nat.le_refl _)
     have hlen:∀(ds:List (DataW H)),ds.length<=Rows.uptoBulkAll ds:=by
      intro ds
      induction ds with
      | nil=>simp [Rows.uptoBulkAll]
      | cons d ds ih=>
       have:1<=Rows.uptoBulk d:=by
        cases d<;>(try simp only [Rows.uptoBulk])<;>(try omega)
        rename_i l;cases l<;>simp [Rows.uptoBulk]
       simp only [Rows.uptoBulkAll,List.length_cons]
       omega
     have hl1:=hlen (elems.map (·.1))
     rw [List.length_map,hel] at hl1
     refine ⟨[.sl es],one ?_ rfl,.sl t e es hu (by rw [hag];exact fun el h=>(g3 el h).1) (fun el h=>(g3 el h).2.1) (fun el h=>(g3 el h).2.2),?_⟩
     ·have:=VRel.slC (μ:=μ) (H:=fun ad=>w.cell? ad) es a cap (P.cellsOf e) vals (by omega) (by unfold LLim;omega) (fun el hel'=>(g3 el hel').2.1) g4.len g4.one g5 g4.at_
      rw [g1] at this
      exact this
     ·rw [List.take_of_length_le (by simp;omega)] at g6
      simp only [bulkVs,bulkV,Rows.uptoBulk]
      omega
   case struct fs=>
    simp only [Bool.and_eq_true,beq_iff_eq] at hpl
    obtain ⟨hfT,hlay⟩:=hpl
    obtain ⟨xs,m,hm,rfl,hcs,hxl,hf⟩:=DataW.trod_struct hu h
    cases hm
    simp only [Rows.uptoBulk] at hb
    obtain ⟨_,vs,r1,r2,r3⟩:=read_fields (P:=P) (μ:=μ) (Hc:=fun ad=>w.cell? ad) (cs:=cs) fs.toList 0 (P.cellsOf t) (xs.map (·.1)) hlay hcs (by simp [hxl]) (fun i f d hfi hdi=>by
     have hfi':fs[i]? = some f:=by rw [<-Array.getElem?_toList];exact hfi
     have h1:=hf i f hfi'
     rw [List.getElem?_map] at hdi
     cases hx:xs[i]? with
     | none=>rw [hx] at hdi;cases hdi
     | some y=>
      rw [hx] at hdi h1
      cases hdi
      have hmem:y.1∈xs.map (·.1):=List.mem_map.2 ⟨y,List.mem_of_getElem? hx,rfl⟩
      have:=bulkAll_mem hmem
      have hft:f.type∈T:=by
       have:=List.all_eq_true.1 hfT f (List.mem_of_getElem? hfi)
       simpa using this
      exact ih f.type _ y hft h1 (by omega))
    rw [List.drop_zero] at r1
    refine ⟨vs,r1,.st t fs vs hu (by rw [r1.len,hcs]) (fun f hf'=>by simpa using r2 [] rfl f hf'),?_⟩
    simp only [Rows.uptoBulk]
    omega
end
end Go.Ir
end
section
namespace Go.Ir
open Go.RowKit Go.ChangeShapes Go.WideShapes
section
variable {H : Type} {enc : TypeId × Value → H} {P : Program} {W W' : World}
theorem trodAll_stays (hl:laidOutB P=true) (hb:Below W.heap.size W W') {sp:Nat->Bool}:∀(ts:List TypeId) (vs:List Value) (ds:List (DataW H)) (ps:List MemPlace),(∀t∈ts,P.readableRec t=true/\t<P.types.size)->
  DataW.TrodAll enc P W 0 (fun _=>true) true ts vs ds ps->(∀x∈ps,x.block<W.heap.size)->(∀x∈ps,sp x.block=true)->DataW.TrodAll enc P W' 0 sp true ts vs ds ps
 | [],vs,ds,ps,_,h,_,_=>by
  obtain ⟨rfl,rfl,rfl⟩:=trodAll_nil h
  exact trodAll_mk0
 | t::ts,vs,ds,ps,hts,h,hlt,hsp=>by
  obtain ⟨v,vs',d,ds',p,q,rfl,rfl,rfl,h1,h2⟩:=trodAll_cons h
  obtain ⟨hr,hrow⟩:=hts t (by simp)
  refine trodAll_cons_mk (WideElems.Trod_stays hl hr hrow h1 (fun x hx=>hb.same (hlt x (by simp [hx]))) (fun x hx=>hsp x (by simp [hx]))) (trodAll_stays hl hb ts vs' ds' q (fun t' ht'=>hts t' (by simp [ht'])) h2 (fun x hx=>hlt x (by simp [hx])) (fun x hx=>hsp x (by simp [hx])))
theorem post_true {f:Func} {s:ChangeSpec} {apart fresh handsOn again:Bool} {args:Array Value} {ds gs:List (DataW H)} {before:List MemPlace} {tb:TypeId}
  (hl:laidOutB P=true) (hts:∀t∈f.params.toList,P.readableRec t=true/\t<P.types.size) (hrt:f.resultTypes = #[tb]) (htb:P.underlying tb=some .bool) (hv:s.vars=[])
  (hfn:s.fn H (ds++gs)={ results:=[.lit (.bool true)],args:=ds })
  (hW:DataW.Whole enc P f.params.toList s.vars apart W args.toList ds gs before) (hb:Below W.heap.size W W'):s.post enc P f apart fresh handsOn again W args (.bool true) W':=by
 have hlt:∀p∈before,p.block<W.heap.size:=fun p hp=>hW.lt p hp
 have hW':=hW
 obtain ⟨p,q,hA,hV,rfl,hz,hn⟩:=hW
 rw [hv] at hV
 obtain ⟨rfl,rfl⟩:=trodVars_none hV
 simp only [List.append_nil] at *
 have hold:∀x∈p,(fun b=>decide (b<W.heap.size)) x.block=true:=fun x hx=>by simpa using hlt x hx
 have hargs:∀sp:Nat->Bool,(∀x∈p,sp x.block=true)->DataW.TrodAll enc P W' 0 sp true f.params.toList args.toList ds p:=fun sp hsp=>trodAll_stays hl hb _ _ _ _ hts hA hlt hsp
 have hres:∀(b:Nat) (sp:Nat->Bool) (hd:Bool),DataW.TrodAll enc P W' b sp hd f.resultTypes.toList ((Value.bool true).resultList f.resultTypes.size) [.lit (.bool true)] []:=by
  intro b sp hd
  rw [hrt]
  exact trodAll_cons_mk (p:=[]) (p':=[]) (shut_bool htb _) trodAll_mk0
 refine ⟨ds,[],p,[],p,[],hW',?_,?_,?_,World.keptBut_mono (fun x hx=>⟨hx,.inr (.inl hx)⟩) (hb.frame _),fun _=>?_⟩
 ·rw [List.append_nil,hfn];exact hres _ _ _
 ·rw [List.append_nil,hfn];exact hargs _ hold
 ·rw [hv,List.append_nil,hfn];rfl
 ·refine ⟨ok_one hrt rfl (okWide_bool_mk htb _),.lit (.bool true)::ds,[],p,⟨p,[],?_,by rw [hv];rfl,by simp,?_,?_⟩,fun x hx _=>hx⟩
  ·rw [hrt]
   exact trodAll_cons_mk (p:=[]) (shut_bool htb _) (hargs _ (fun _ _=>rfl))
  ·intro b off hp
   have:=hlt _ hp
   have hfz:=hb.frozen (p:=⟨b,off,none⟩) this
   rw [hfz]
   exact hz b off (by simpa using hp)
  ·intro ha;exact hn ha
theorem Hp.start (W:World) (n:Nat):Hp W [] n (fun _=>none) (fun ad=>W.cell? ad) W where
 base:=Below.refl _ _
 pins _ _ h:=h
 ents _ _ h:=by simp [lk] at h
 unp bk ho:=by obtain ⟨id,e,h,_⟩:=ho;simp [lk] at h
 sep _ _ _ _ _ h:=by simp [lk] at h
 bd _ _:=rfl
theorem calls_true {f:FuncId} {args:List V} {vals:List Value} (h:RetS P W f args [] (.b true) []) (hv:VRels (fun _=>none) (fun ad=>W.cell? ad) args vals) :
  Calls P f vals.toArray W fun e W'=>e = .returned (.bool true)/\Below W.heap.size W W':=
 (h.run 0 W _ _ vals (Hp.start W 0) hv).mono fun e W' ⟨val,μ',H',n',he,hr,hp,_⟩=>⟨by rw [he,hr.b_inv],hp.base⟩
end
end Go.Ir
end
section
namespace Go.Ir
open Go.Proofs
section
variable {P : Program}
theorem WtV.int_inv {t:TypeId} {k:IntKind} {v:V} (h:WtV P t [v]) (ht:P.underlying t=some (.int k)):∃n,v = .i k n/\(Lit.int k n).wf=true:=by
 cases h with
 | int _ k' n h hw=>rw [ht] at h;cases h;exact ⟨n,rfl,hw⟩
 | bool _ b h=>rw [ht] at h;cases h
 | str _ l h=>rw [ht] at h;cases h
 | sl _ e es h _ _ _=>rw [ht] at h;cases h
 | st _ fs vs h _ _=>rw [ht] at h;cases h
theorem WtV.str_inv {t:TypeId} {v:V} (h:WtV P t [v]) (ht:P.underlying t=some .string):∃l,v = .s l:=by
 cases h with
 | int _ k' n h hw=>rw [ht] at h;cases h
 | bool _ b h=>rw [ht] at h;cases h
 | str _ l h=>exact ⟨l,rfl⟩
 | sl _ e es h _ _ _=>rw [ht] at h;cases h
 | st _ fs vs h _ _=>rw [ht] at h;cases h
theorem WtV.sl_inv {t e:TypeId} {v:V} (h:WtV P t [v]) (ht:P.underlying t=some (.slice e)):∃es,v = .sl es/\(∀el∈es,∃c,el=mkEl ((aggT P e).getD false) c/\cells el=c)/\(∀el∈es,(cells el).length=P.cellsOf e)/\(∀el∈es,WtV P e (cells el)):=by
 cases h with
 | int _ k' n h hw=>rw [ht] at h;cases h
 | bool _ b h=>rw [ht] at h;cases h
 | str _ l h=>rw [ht] at h;cases h
 | sl _ e' es h h1 h2 h3=>rw [ht] at h;cases h;exact ⟨es,rfl,h1,h2,h3⟩
 | st _ fs vs h _ _=>rw [ht] at h;cases h
theorem WtV.st_inv {t:TypeId} {fs:Array Field} {vs:List V} (h:WtV P t vs) (ht:P.underlying t=some (.struct fs)):vs.length=P.cellsOf t/\∀f∈fs.toList,WtV P f.type ((vs.drop f.offset).take (P.cellsOf f.type)):=by
 cases h with
 | int _ k' n h hw=>rw [ht] at h;cases h
 | bool _ b h=>rw [ht] at h;cases h
 | str _ l h=>rw [ht] at h;cases h
 | sl _ e' es h h1 h2 h3=>rw [ht] at h;cases h
 | st _ fs' vs h h1 h2=>rw [ht] at h;cases h;exact ⟨h1,h2⟩
end
theorem len2 {l:List V} (h:l.length=2):∃a b,l=[a,b]:=by
 match l,h with
 | [a,b],_=>exact ⟨a,b,rfl⟩
theorem len6 {l:List V} (h:l.length=6):∃a b c d e f,l=[a,b,c,d,e,f]:=by
 match l,h with
 | [a,b,c,d,e,f],_=>exact ⟨a,b,c,d,e,f,rfl⟩
theorem c9:Tryz.prog.cellsOf 9=1:=by kernel_rfl
theorem c3:Tryz.prog.cellsOf 3=1:=by kernel_rfl
theorem c31:Tryz.prog.cellsOf 31=1:=by kernel_rfl
theorem c50:Tryz.prog.cellsOf 41=1:=by kernel_rfl
theorem c52:Tryz.prog.cellsOf 43=6:=by kernel_rfl
theorem c54:Tryz.prog.cellsOf 78=2:=by kernel_rfl
theorem a52:aggT Tryz.prog 43=some true:=by kernel_rfl
theorem a54:aggT Tryz.prog 78=some true:=by kernel_rfl
theorem parts_of:∀(N:Nat) (v:V),bulkV v<=N->WtV Tryz.prog 31 [v]->∃ps,v = .sl (encPs ps)/\wtPs ps<=bulkV v:=by
 intro N
 induction N with
 | zero=>intro v h;cases v<;>simp [bulkV] at h<;>intro hw<;>obtain ⟨es,he,_⟩:=hw.sl_inv Tryz.underlying31<;>cases he
 | succ N ih=>
  intro v hN hw
  obtain ⟨es,rfl,h1,h2,h3⟩:=hw.sl_inv Tryz.underlying31
  rw [a52] at h1
  simp only [Option.getD_some] at h1
  simp only [bulkV] at hN⊢
  have hcs:∀v:V,bulkV v<=N->WtV Tryz.prog 41 [v]->∃cs,v = .sl (encCs cs)/\wtCs cs<=bulkV v:=by
   intro v hv hw
   obtain ⟨es,rfl,h1,h2,h3⟩:=hw.sl_inv Tryz.underlying41
   rw [a54] at h1
   simp only [Option.getD_some] at h1
   simp only [bulkV] at hv⊢
   have:∃cs,es=encCs cs/\wtCs cs<=bulkVs es:=by
    clear hw
    induction es with
    | nil=>exact ⟨[],by simp [encCs],by simp [wtCs]⟩
    | cons el es ihe=>
     simp only [bulkVs] at hv⊢
     obtain ⟨cs,hcs,hcw⟩:=ihe (by omega) (fun x hx=>h1 x (List.mem_cons_of_mem _ hx)) (fun x hx=>h2 x (List.mem_cons_of_mem _ hx)) (fun x hx=>h3 x (List.mem_cons_of_mem _ hx))
     obtain ⟨c,rfl,_⟩:=h1 el (by simp)
     have hst:=h3 (mkEl true c) (by simp)
     have hc:cells (mkEl true c)=c:=rfl
     rw [hc] at hst
     obtain ⟨hl,hf⟩:=hst.st_inv Tryz.underlying78
     rw [c54] at hl
     obtain ⟨x0,x1,rfl⟩:=len2 hl
     have f0:=hf _ (by exact List.mem_cons_self)
     have f1:=hf _ (by exact List.mem_cons_of_mem _ List.mem_cons_self)
     simp only [c9,c31,List.drop_zero,List.drop_succ_cons,List.take_succ_cons,List.take_zero] at f0 f1
     obtain ⟨k,rfl⟩:=f0.str_inv Tryz.underlying9
     have hb:bulkV (mkEl true [.s k,x1])=k.length+1+bulkV x1:=by simp [mkEl,bulkV,bulkVs]
     rw [hb] at hv⊢
     obtain ⟨ps,rfl,hpw⟩:=ih x1 (by omega) f1
     refine ⟨(k,ps)::cs,by rw [hcs];simp [encCs,mkEl],?_⟩
     rw [wtCs_cons]
     simp only
     omega
   obtain ⟨cs,rfl,hw⟩:=this
   exact ⟨cs,rfl,by omega⟩
  have:∃ps,es=encPs ps/\wtPs ps<=bulkVs es:=by
   clear hw
   induction es with
   | nil=>exact ⟨[],by simp [encPs],by simp [wtPs]⟩
   | cons el es ihe=>
    simp only [bulkVs] at hN⊢
    obtain ⟨ps,hps,hpw⟩:=ihe (by omega) (fun x hx=>h1 x (List.mem_cons_of_mem _ hx)) (fun x hx=>h2 x (List.mem_cons_of_mem _ hx)) (fun x hx=>h3 x (List.mem_cons_of_mem _ hx))
    obtain ⟨c,rfl,_⟩:=h1 el (by simp)
    have hst:=h3 (mkEl true c) (by simp)
    have hc:cells (mkEl true c)=c:=rfl
    rw [hc] at hst
    obtain ⟨hl,hf⟩:=hst.st_inv Tryz.underlying43
    rw [c52] at hl
    obtain ⟨x0,x1,x2,x3,x4,x5,rfl⟩:=len6 hl
    have f0:=hf _ (by exact List.mem_cons_self)
    have f1:=hf _ (by exact List.mem_cons_of_mem _ List.mem_cons_self)
    have f2:=hf _ (by exact List.mem_cons_of_mem _ (List.mem_cons_of_mem _ List.mem_cons_self))
    have f3:=hf _ (by exact List.mem_cons_of_mem _ (List.mem_cons_of_mem _ (List.mem_cons_of_mem _ List.mem_cons_self)))
    have f4:=hf _ (by exact List.mem_cons_of_mem _ (List.mem_cons_of_mem _ (List.mem_cons_of_mem _ (List.mem_cons_of_mem _ List.mem_cons_self))))
    have f5:=hf _ (by exact List.mem_cons_of_mem _ (List.mem_cons_of_mem _ (List.mem_cons_of_mem _ (List.mem_cons_of_mem _ (List.mem_cons_of_mem _ List.mem_cons_self)))))
    simp only [c9,c31,c3,c50,List.drop_zero,List.drop_succ_cons,List.take_succ_cons,List.take_zero] at f0 f1 f2 f3 f4 f5
    obtain ⟨k,rfl,hk⟩:=f0.int_inv Tryz.underlying3
    obtain ⟨t,rfl⟩:=f1.str_inv Tryz.underlying9
    obtain ⟨n,rfl⟩:=f2.str_inv Tryz.underlying9
    obtain ⟨s,rfl⟩:=f3.str_inv Tryz.underlying9
    have hb:bulkV (mkEl true [.i .i64 k,.s t,.s n,.s s,x4,x5])=1+(t.length+1)+(n.length+1)+(s.length+1)+bulkV x4+bulkV x5:=by simp [mkEl,bulkV,bulkVs];omega
    rw [hb] at hN⊢
    obtain ⟨cs,rfl,hcw⟩:=hcs x4 (by omega) f4
    obtain ⟨qs,rfl,hqw⟩:=ih x5 (by omega) f5
    refine ⟨⟨k,t,n,s,cs,qs⟩::ps,by rw [hps];simp [encPs,Part.enc,mkEl],?_⟩
    rw [wtPs_cons,Part.wt_eq]
    simp only
    omega
  obtain ⟨ps,rfl,hw'⟩:=this
  exact ⟨ps,rfl,by omega⟩
end Go.Ir
end
section
namespace Go.Ir
open Go.Proofs
def sumW {α:Type} (w:α->Nat):List α->Nat
 | []=>0
 | x::xs=>w x+sumW w xs
theorem list_of {α:Type} {G:V->Prop} (enc:α->V) (w:α->Nat) (hel:∀el,G el->∃x,el=enc x/\w x<=bulkV el):∀es,(∀el∈es,G el)->∃xs,es=xs.map enc/\sumW w xs<=bulkVs es:=by
 intro es
 induction es with
 | nil=>intro _;exact ⟨[],rfl,by simp [sumW]⟩
 | cons e es ih=>
  intro h
  obtain ⟨xs,h1,h2⟩:=ih fun x hx=>h x (by simp [hx])
  obtain ⟨x,h3,h4⟩:=hel e (h e (by simp))
  exact ⟨x::xs,by rw [h1,h3];rfl,by simp only [sumW,bulkVs];omega⟩
section
variable {P : Program}
theorem slice_of {α:Type} {t e:TypeId} {v:V} (h:WtV P t [v]) (ht:P.underlying t=some (.slice e)) (ha:aggT P e=some true) (enc:α->V) (w:α->Nat) (hel:∀c,WtV P e c->∃x,V.agg c=enc x/\w x<=bulkVs c) :
  ∃xs:List α,v = .sl (xs.map enc)/\sumW w xs+1<=bulkV v:=by
 obtain ⟨es,rfl,h1,h2,h3⟩:=h.sl_inv ht
 rw [ha] at h1
 obtain ⟨xs,hx,hw⟩:=list_of (G:=fun el=>∃c,el=V.agg c/\WtV P e c) enc w (fun el ⟨c,hc,hwt⟩=>by
  subst hc
  obtain ⟨x,hx,hwx⟩:=hel c hwt
  exact ⟨x,hx,by simpa [bulkV] using hwx⟩) es fun el hm=>by
  obtain ⟨c,hc,hcc⟩:=h1 el hm
  have:=h3 el hm
  rw [hcc] at this
  exact ⟨c,hc,this⟩
 exact ⟨xs,by rw [hx],by simp only [bulkV];omega⟩
theorem slice_of1 {α:Type} {t e e2:TypeId} {v:V} (h:WtV P t [v]) (ht:P.underlying t=some (.slice e)) (he:P.underlying e=some (.slice e2)) (ha:aggT P e=some false) (hc1:P.cellsOf e=1) (enc:α->V) (w:α->Nat) (hel:∀v,WtV P e [v]->∃x,v=enc x/\w x<=bulkV v) :
  ∃xs:List α,v = .sl (xs.map enc)/\sumW w xs+1<=bulkV v:=by
 obtain ⟨es,rfl,h1,h2,h3⟩:=h.sl_inv ht
 rw [ha] at h1
 obtain ⟨xs,hx,hw⟩:=list_of (G:=fun el=>WtV P e [el]) enc w hel es fun el hm=>by
  obtain ⟨c,hc,hcc⟩:=h1 el hm
  have h4:=h3 el hm
  have h5:=h2 el hm
  rw [hcc] at h4 h5
  rw [hc1] at h5
  match c,h5 with
  | [x],_=>
   have:el=x:=hc
   rw [this];exact h4
 exact ⟨xs,by rw [hx],by simp only [bulkV];omega⟩
theorem WtV.bool_inv {t:TypeId} {v:V} (h:WtV P t [v]) (ht:P.underlying t=some .bool):∃b,v = .b b:=by
 cases h with
 | int _ k' n h hw=>rw [ht] at h;cases h
 | bool _ b h=>exact ⟨b,rfl⟩
 | str _ l h=>rw [ht] at h;cases h
 | sl _ e es h _ _ _=>rw [ht] at h;cases h
 | st _ fs vs h _ _=>rw [ht] at h;cases h
end
theorem len4 {l:List V} (h:l.length=4):∃a b c d,l=[a,b,c,d]:=by
 match l,h with
 | [a,b,c,d],_=>exact ⟨a,b,c,d,rfl⟩
theorem len16 {l:List V} (h:l.length=16):∃a b c d e r,l=a::b::c::d::e::r/\r.length=11:=by
 match l,h with
 | a::b::c::d::e::r,h=>exact ⟨a,b,c,d,e,r,rfl,by simpa using h⟩
theorem sum1 {α:Type} (xs:List α):sumW (fun _=>1) xs=xs.length:=by
 induction xs with
 | nil=>rfl
 | cons x xs ih=>simp only [sumW,ih,List.length_cons];omega
theorem cSpan:Tryz.prog.cellsOf 68=2:=by kernel_rfl
theorem cRel:Tryz.prog.cellsOf 71=4:=by kernel_rfl
theorem cRule:Tryz.prog.cellsOf 76=2:=by kernel_rfl
theorem cRels:Tryz.prog.cellsOf 72=1:=by kernel_rfl
theorem cSpans:Tryz.prog.cellsOf 69=1:=by kernel_rfl
theorem cCond:Tryz.prog.cellsOf 74=1:=by kernel_rfl
theorem cRules:Tryz.prog.cellsOf 22=1:=by kernel_rfl
theorem cBool:Tryz.prog.cellsOf 4=1:=by kernel_rfl
theorem cLoc:Tryz.prog.cellsOf 30=16:=by kernel_rfl
theorem aSpan:aggT Tryz.prog 68=some true:=by kernel_rfl
theorem aRel:aggT Tryz.prog 71=some true:=by kernel_rfl
theorem aRels:aggT Tryz.prog 72=some false:=by kernel_rfl
theorem aRule:aggT Tryz.prog 76=some true:=by kernel_rfl
theorem span_of (c:List V) (h:WtV Tryz.prog 68 c):∃x:Span,V.agg c=x.enc/\1<=bulkVs c:=by
 obtain ⟨hl,hf⟩:=h.st_inv Tryz.underlying68
 rw [cSpan] at hl
 obtain ⟨x0,x1,rfl⟩:=len2 hl
 have f0:=hf _ (by exact List.mem_cons_self)
 have f1:=hf _ (by exact List.mem_cons_of_mem _ List.mem_cons_self)
 simp only [c3,List.drop_zero,List.drop_succ_cons,List.take_succ_cons,List.take_zero] at f0 f1
 obtain ⟨a,rfl,_⟩:=f0.int_inv Tryz.underlying3
 obtain ⟨b,rfl,_⟩:=f1.int_inv Tryz.underlying3
 exact ⟨⟨a,b⟩,rfl,by simp [bulkVs,bulkV]⟩
theorem rel_of (c:List V) (h:WtV Tryz.prog 71 c):∃x:Rel,V.agg c=x.enc/\x.wt<=bulkVs c:=by
 obtain ⟨hl,hf⟩:=h.st_inv Tryz.underlying71
 rw [cRel] at hl
 obtain ⟨x0,x1,x2,x3,rfl⟩:=len4 hl
 have f0:=hf _ (by exact List.mem_cons_self)
 have f1:=hf _ (by exact List.mem_cons_of_mem _ List.mem_cons_self)
 have f2:=hf _ (by exact List.mem_cons_of_mem _ (List.mem_cons_of_mem _ List.mem_cons_self))
 have f3:=hf _ (by exact List.mem_cons_of_mem _ (List.mem_cons_of_mem _ (List.mem_cons_of_mem _ List.mem_cons_self)))
 simp only [c3,cBool,cSpans,List.drop_zero,List.drop_succ_cons,List.take_succ_cons,List.take_zero] at f0 f1 f2 f3
 obtain ⟨a,rfl,_⟩:=f0.int_inv Tryz.underlying3
 obtain ⟨b,rfl,_⟩:=f1.int_inv Tryz.underlying3
 obtain ⟨n,rfl⟩:=f2.bool_inv Tryz.underlying4
 obtain ⟨xs,rfl,hw⟩:=slice_of f3 Tryz.underlying69 aSpan Span.enc (fun _=>1) span_of
 rw [sum1] at hw
 refine ⟨⟨a,b,n,xs⟩,rfl,?_⟩
 simp only [bulkVs,bulkV] at hw⊢
 unfold Rel.wt
 simp only;omega
theorem sum_rels (xs:List Rel):wtRels xs=sumW Rel.wt xs+1:=by
 induction xs with
 | nil=>rfl
 | cons x xs ih=>simp only [sumW,wtRels,ih];omega
theorem sum_cond (xs:List (List Rel)):wtCond xs=sumW wtRels xs:=by
 induction xs with
 | nil=>rfl
 | cons x xs ih=>simp only [sumW,wtCond,ih]
theorem sum_rules (xs:List Rule):wtRules xs=sumW Rule.wt xs:=by
 induction xs with
 | nil=>rfl
 | cons x xs ih=>simp only [sumW,wtRules,ih]
theorem rels_of (v:V) (h:WtV Tryz.prog 72 [v]):∃x:List Rel,v=relsV x/\wtRels x<=bulkV v:=by
 obtain ⟨xs,rfl,hw⟩:=slice_of h Tryz.underlying72 aRel Rel.enc Rel.wt rel_of
 exact ⟨xs,rfl,by rw [sum_rels];exact hw⟩
theorem rule_of (c:List V) (h:WtV Tryz.prog 76 c):∃x:Rule,V.agg c=x.enc/\x.wt<=bulkVs c:=by
 obtain ⟨hl,hf⟩:=h.st_inv Tryz.underlying76
 rw [cRule] at hl
 obtain ⟨x0,x1,rfl⟩:=len2 hl
 have f0:=hf _ (by exact List.mem_cons_self)
 have f1:=hf _ (by exact List.mem_cons_of_mem _ List.mem_cons_self)
 simp only [c9,cCond,List.drop_zero,List.drop_succ_cons,List.take_succ_cons,List.take_zero] at f0 f1
 obtain ⟨a,rfl⟩:=f0.str_inv Tryz.underlying9
 obtain ⟨xs,rfl,hw⟩:=slice_of1 f1 Tryz.underlying74 Tryz.underlying72 aRels cRels relsV wtRels rels_of
 refine ⟨⟨a,xs⟩,rfl,?_⟩
 unfold Rule.wt
 rw [sum_cond]
 simp only [bulkVs,bulkV] at hw⊢
 omega
theorem loc_of (c:List V) (h:WtV Tryz.prog 30 c):∃l:Loc,V.agg c=l.enc/\l.rest.length=11/\wtRules l.card+wtRules l.ord<=bulkVs c:=by
 obtain ⟨hl,hf⟩:=h.st_inv Tryz.underlying30
 rw [cLoc] at hl
 obtain ⟨x0,x1,x2,x3,x4,r,rfl,hr⟩:=len16 hl
 have f0:=hf _ (by exact List.mem_cons_self)
 have f1:=hf _ (by exact List.mem_cons_of_mem _ List.mem_cons_self)
 have f2:=hf _ (by exact List.mem_cons_of_mem _ (List.mem_cons_of_mem _ List.mem_cons_self))
 have f3:=hf _ (by exact List.mem_cons_of_mem _ (List.mem_cons_of_mem _ (List.mem_cons_of_mem _ List.mem_cons_self)))
 have f4:=hf _ (by exact List.mem_cons_of_mem _ (List.mem_cons_of_mem _ (List.mem_cons_of_mem _ (List.mem_cons_of_mem _ List.mem_cons_self))))
 simp only [c9,cRules,List.drop_zero,List.drop_succ_cons,List.take_succ_cons,List.take_zero] at f0 f1 f2 f3 f4
 obtain ⟨a,rfl⟩:=f0.str_inv Tryz.underlying9
 obtain ⟨b,rfl⟩:=f1.str_inv Tryz.underlying9
 obtain ⟨d,rfl⟩:=f2.str_inv Tryz.underlying9
 obtain ⟨xs,rfl,hw⟩:=slice_of f3 Tryz.underlying22 aRule Rule.enc Rule.wt rule_of
 obtain ⟨ys,rfl,hw2⟩:=slice_of f4 Tryz.underlying22 aRule Rule.enc Rule.wt rule_of
 refine ⟨⟨a,b,d,xs,ys,r⟩,rfl,hr,?_⟩
 simp only [sum_rules]
 simp only [bulkVs,bulkV] at hw hw2⊢
 omega
end Go.Ir
end
namespace Go.Ir
open Go.Proofs
variable (W0 : World)
theorem eqPs_self:∀(N:Nat),(∀ps,wtPs ps<N->eqPs ps ps=true)/\(∀cs,wtCs cs<N->eqCs cs cs=true):=by
 intro N
 induction N with
 | zero=>exact ⟨fun _ h=>by omega,fun _ h=>by omega⟩
 | succ N ih=>
  have h1:∀ps,wtPs ps<N+1->eqPs ps ps=true:=by
   intro ps
   induction ps with
   | nil=>intro _;simp [eqPs]
   | cons p ps ih2=>
    intro h;rw [wtPs_cons] at h
    have hp:=p.wt_eq
    rw [eqPs_cons,p.eqB_eq,ih2 (by omega),ih.1 p.parts (by omega),ih.2 p.cases (by omega)];simp
  refine ⟨h1,fun cs=>?_⟩
  induction cs with
  | nil=>intro _;simp [eqCs]
  | cons c cs ih2=>
   intro h;rw [wtCs_cons] at h
   rw [eqCs_cons,h1 c.2 (by omega),ih2 (by omega)];simp
theorem eqPs_refl (ps:List Part):eqPs ps ps=true:=(eqPs_self _).1 ps (Nat.lt_succ_self _)
end Go.Ir
section
namespace Go.Ir
open Go.Proofs
variable (W0 : World)
theorem retN_nil {P:Program} {W0:World} {f:FuncId} {args:List V} {x:Ent} {e sz:Nat} (h:∀id,RetN P W0 f (.arr id::args) [(id,.arr e sz [])] x []):RetN P W0 f (.nil::args) [] x [] where
 callable:=(h (0,0)).callable
 dom:=fun id h=>by simp [lk] at h
 run:=by
  intro n w μ H vals hp hv
  have hnone:μ (n,0)=none:=hp.bd _ (Nat.le_refl _)
  have hmono:=setμ_mono (v:=.slice none 0 0) hnone
  have hnew:=(hp.more (Nat.le_succ n)).new_ (n':=n+1) (w':=w) (R:=fun _=>False) ⟨rfl,rfl,rfl,Nat.le_refl _,fun _ _ _=>rfl⟩ (fun _ h=>h.elim) (σ1:=[]) (fun id e h=>⟨h,fun _ _ h=>h⟩) (id:=(n,0)) (e:=.arr e sz []) (val:=.slice none 0 0) hnone (Nat.lt_succ_self _) (Nat.le_refl _) (fun bk hb=>by simp [blk] at hb)
   ⟨.slice none 0 0,[],setμ_self _ _ _,rfl,World.ownsRow_nil w _ e sz,Nat.zero_le _,(fun x hx=>by cases hx),CRel.nil_⟩
  obtain ⟨v0,vs,rfl⟩:∃v0 vs,vals=v0::vs:=by
   cases vals with
   | nil=>have:=hv.len;simp at this
   | cons a b=>exact ⟨a,b,rfl⟩
  have h0:=hv.at_ 0 _ _ rfl rfl
  have hv':VRels (setμ μ (n,0) (.slice none 0 0)) H (.arr (n,0)::args) (v0::vs):=by
   refine VRels.cons ?_ ⟨by have:=hv.len;simpa using this,fun k c v h1 h2=>(hv.at_ (k+1) c v (by simpa using h1) (by simpa using h2)).mono hmono (fun _ _ h=>h)⟩
   rw [h0.nil_inv]
   exact .arr _ _ (setμ_self _ _ _) rfl
  refine Calls.mono ((h (n,0)).run (n+1) w _ H _ hnew.1 hv') ?_
  rintro e' w' ⟨val,μ',H',n',id,h1,h2,h3,h4,h5,h6,h7,h8,h9⟩
  refine ⟨val,μ',H',n',id,h1,h2,h3,?_,h5,h6,by omega,hnew.2.trans h8,fun i hi h0=>h9 i (by omega) ?_⟩
  ·cases hm:μ id with
   | none=>rfl
   | some y=>have:=hmono id y hm;rw [h4] at this;cases this
  ·rw [setμ_ne _ _ (by rintro rfl;simp at hi)];exact h0
theorem c_solid (p:Part) (hw:p.wt<=2^24):RetS Tryz.prog W0 89 [p.v] [] (.b p.solid) []:=by
 have hp:=p.wt_eq
 have hlc:=len_wtCs p.cases
 have case1:∀(c:Case),wtPs c.2<=2^24->RetS Tryz.prog W0 132 [Case.v c] [] (.b (!plainPs c.2)) []:=by
  intro c h2
  have:=c_plain W0 _ c.2 (Nat.lt_succ_self _) h2
  unfold Case.v
  refine fn_retW (vs:=[.b (!plainPs c.2)]) f132ok (by simp) (by simp) fun n0 hn0=>?_
  clear hn0
  simp only [push_cast,seval,reduceEqDiff]
  repeat' (first|(((first|apply condU_s|apply gdU_t|apply gdU_f)<;>intro _h)<;>simp only [push_cast,seval,reduceEqDiff,_h])|(refine c_call (by exact this) ?_;simp only [push_cast,seval,reduceEqDiff])|intro _)
  all_goals (first|(refine finW_ret ?_;simp [get]<;>(intros;omega);done)|(refine finW_rets ?_;simp [push_cast,get];done)|skip)
 have hany:RetS Tryz.prog W0 112 [.sl (p.cases.map Case.enc),.fn 132 [] []] [] (.b (p.cases.any fun c=>!plainPs c.2)) []:=
  anyCase W0 (by omega) (fun c hc=>by have:=wtCs_mem hc;exact case1 c (by omega))
 have hpl:=c_plain W0 _ p.parts (Nat.lt_succ_self _) (by omega)
 rw [Part.solid_eq,<-plainCs_any]
 generalize hS:(!selB p.kind&&plainPs p.parts&&!p.cases.any fun c=>!plainPs c.2)=S
 unfold Part.v
 refine fn_retW (vs:=[.b S]) f89ok (by simp) (by simp) fun n0 hn0=>?_
 clear hn0
 simp only [push_cast,seval,reduceEqDiff]
 repeat' (first|(((first|apply condU_s|apply gdU_t|apply gdU_f)<;>intro _h)<;>(simp only [push_cast,seval,reduceEqDiff,_h];try (have _g:=_h;simp at _g)))|((first|refine c_call (by exact c_sSel W0 _) ?_|refine c_call (by exact hpl) ?_);simp only [push_cast,seval,reduceEqDiff])|intro _)
 all_goals (try (refine c_callsq hany ?_;simp only [push_cast,seval,reduceEqDiff]))
 repeat' (first|(((first|apply condU_s|apply gdU_t|apply gdU_f)<;>intro _h)<;>(simp only [push_cast,seval,reduceEqDiff,_h];try (have _g:=_h;simp at _g)))|intro _)
 all_goals (first|(refine finW_ret ?_;simp [get,<-hS, *]<;>(intros;omega);done)|(refine finW_rets ?_;simp [push_cast,get,<-hS, *];done)|skip)
abbrev Leaf:=Bytes × List Part
def leafV (l:Leaf):V:=.agg [.s l.1,.sl (l.2.map Part.enc)]
theorem leafV_eq (l:Leaf):leafV l = .agg [.s l.1,.sl (l.2.map Part.enc)]:=rfl
def decN (n:Nat):Bytes:=Lib.decDigits n
mutual
def Part.lvs:Part->Bytes->List Leaf
 | ⟨k,_,_,_,cs,ps⟩,pa=>if selB k then lvsCs cs pa else lvsPs ps pa 0 []
def lvsPs:List Part->Bytes->Nat->List Part->List Leaf
 | [],pa,n,run=>[(pa++decN n,run)]
 | p::ps,pa,n,run=>if p.solid then lvsPs ps pa n (run++[p]) else (pa++decN n,run)::(p.lvs (pa++decN (n+1)++[47])++lvsPs ps pa (n+1) [])
def lvsCs:List (Bytes × List Part)->Bytes->List Leaf
 | [],_=>[]
 | (key,ps)::cs,pa=>lvsPs ps (pa++key++[47]) 0 []++lvsCs cs pa
end
theorem Part.lvs_eq (p:Part) (pa:Bytes):p.lvs pa=if selB p.kind then lvsCs p.cases pa else lvsPs p.parts pa 0 []:=by cases p;simp only [Part.lvs]
theorem lvsPs_nil (pa:Bytes) (n:Nat) (run:List Part):lvsPs [] pa n run=[(pa++decN n,run)]:=by simp only [lvsPs]
theorem lvsPs_cons (p:Part) (ps:List Part) (pa:Bytes) (n:Nat) (run:List Part):lvsPs (p::ps) pa n run=if p.solid then lvsPs ps pa n (run++[p]) else (pa++decN n,run)::(p.lvs (pa++decN (n+1)++[47])++lvsPs ps pa (n+1) []):=by simp only [lvsPs]
theorem lvsCs_cons (c:Case) (cs:List Case) (pa:Bytes):lvsCs (c::cs) pa=lvsPs c.2 (pa++c.1++[47]) 0 []++lvsCs cs pa:=by obtain ⟨k,q⟩:=c;simp only [lvsCs]
theorem lvs_len:∀(N:Nat) (ps:List Part),wtPs ps<N->∀pa n run,(lvsPs ps pa n run).length<=1+2*wtPs ps:=by
 intro N
 induction N with
 | zero=>intro ps h;omega
 | succ N ih=>
  have hcs:∀cs:List Case,wtCs cs<N->∀pa,(lvsCs cs pa).length<=2*wtCs cs:=by
   intro cs
   induction cs with
   | nil=>intro _ pa;simp [lvsCs]
   | cons c cs ih2=>
    intro h pa;rw [wtCs_cons] at h;rw [lvsCs_cons,wtCs_cons,List.length_append]
    have h1:=ih c.2 (by omega) (pa++c.1++[47]) 0 [];have h2:=ih2 (by omega) pa;omega
  intro ps
  induction ps with
  | nil=>intro _ pa n run;simp [lvsPs]
  | cons p ps ih2=>
   intro h pa n run;rw [wtPs_cons] at h;rw [lvsPs_cons,wtPs_cons]
   have hw:=p.wt_eq
   split
   ·have:=ih2 (by omega) pa n (run++[p]);omega
   ·have h3:=ih2 (by omega) pa (n+1) []
    have h4:(p.lvs (pa++decN (n+1)++[47])).length+1<=2*p.wt:=by
     rw [p.lvs_eq]
     split
     ·have:=hcs p.cases (by omega) (pa++decN (n+1)++[47]);omega
     ·have:=ih p.parts (by omega) (pa++decN (n+1)++[47]) 0 [];omega
    rw [List.length_cons,List.length_append];omega
theorem lvsPs_len (ps:List Part) (pa:Bytes) (n:Nat) (run:List Part):(lvsPs ps pa n run).length<=1+2*wtPs ps:=lvs_len _ ps (Nat.lt_succ_self _) pa n run
def TL:Nat:=110
def LvR (bid lid:Id) (o:List Leaf) (n n':Nat) (v:V) (σ':Sto):Prop:=v = .tup []/\∃id:Id,(id=lid\/n<=id.1)/\id.1<n'/\σ'=[(id,.arr TL 2 (o.map leafV)),(bid,.box (.arr id))]
theorem c_leavesFn (q:List Part) (pa:Bytes) (o:List Leaf) (bid lid:Id) (hne:lid≠bid)
  (h:RetN Tryz.prog W0 83 [.arr lid,.sl (q.map Part.enc),.s pa] [(lid,.arr TL 2 (o.map leafV))] (.arr TL 2 ((o++lvsPs q pa 0 []).map leafV)) []) :
  RetE Tryz.prog W0 129 [.sl (q.map Part.enc),.s pa,.ref bid 0] [(lid,.arr TL 2 (o.map leafV)),(bid,.box (.arr lid))] (LvR bid lid (o++lvsPs q pa 0 [])):=by
 refine fn_retEW f129ok (by simp) fun n0 hn0=>?_
 have hb:bid.1<n0:=hn0 bid (.box (.arr lid)) (by simp [lk,hne])
 clear hn0
 have h1:(lid=bid)=False:=eq_false hne
 have h3:∀j:Nat,((n0,j)=bid)=False:=fun j=>ne_idx hb
 have h4:∀a b:Id,(isA (V.arr a)=isA (V.arr b))=True:=fun _ _=>eq_true rfl
 have hov:over [(lid,Ent.arr TL 2 (o.map leafV))] [] [(lid,.arr TL 2 (o.map leafV)),(bid,.box (.arr lid))]=[(bid,.box (.arr lid))]:=by
  simp [over,lk,h1,List.filter]
 simp only [push_cast,seval,reduceEqDiff,h1,h3,h4]
 refine c_calln h (fun i e h=>lk_app_left (τ:=[_]) h) ?_
 rw [hov]
 simp only [push_cast,seval,reduceEqDiff,h1,h3,h4]
 intros
 exact ⟨_,StLe.refl,[],_,trivial,fun _ _ h=>h,rfl,_,.inr (Nat.le_refl _),by simp only;omega,rfl⟩
theorem over_x2 {x a b:Id} {X A B:Ent} {σo:Sto} (h1:x≠a) (h2:x≠b):over [(a,A),(b,B)] σo [(x,X),(a,A),(b,B)]=σo++[(x,X)]:=by
 by_cases hab:a=b
 ·subst hab;simp [over,lk,List.filter,h1,Ne.symm h1]
 ·simp [over,lk,List.filter,h1,h2,Ne.symm h1,Ne.symm h2,hab]
theorem lk_x2 {x a b:Id} {A B:Ent} (h1:x≠a) (h2:x≠b):lk [(a,A),(b,B)] x=none:=by
 simp [lk,Ne.symm h1,Ne.symm h2]
set_option maxHeartbeats 4000000 in
theorem c_lists (p:Part) (pa:Bytes) (bid:Id) (hw:p.wt<=2^24) (hpa:pa.length+32*p.wt<=2^32+32) (M:Nat)
  (hcl:∀(q:List Part) (pa':Bytes) (o:List Leaf) (lid:Id),wtPs q<p.wt->pa'.length+32*wtPs q<=2^32->lid≠bid->o.length+2*wtPs q+1<=M->
   RetE Tryz.prog W0 129 [.sl (q.map Part.enc),.s pa',.ref bid 0] [(lid,.arr TL 2 (o.map leafV)),(bid,.box (.arr lid))] (LvR bid lid (o++lvsPs q pa' 0 [])))
  (o:List Leaf) (lid:Id) (hne:lid≠bid) (ho:o.length+2*p.wt<=M) :
  RetE Tryz.prog W0 128 [p.v,.s pa,.fn 129 [] [.ref bid 0]] [(lid,.arr TL 2 (o.map leafV)),(bid,.box (.arr lid))] (LvR bid lid (o++p.lvs pa)):=by
 have hpw:=p.wt_eq
 have hlc:=len_wtCs p.cases
 have hsel:=c_sSel W0 p.kind
 generalize hS:o++p.lvs pa=S
 rw [p.lvs_eq] at hS
 unfold Part.v
 refine fn_retEW f128ok (by simp) fun n0 hn0=>?_
 have hb:bid.1<n0:=hn0 bid (.box (.arr lid)) (by simp [lk,hne])
 have hl:lid.1<n0:=hn0 lid (.arr TL 2 (o.map leafV)) (by simp [lk])
 clear hn0
 have h1:(lid=bid)=False:=eq_false hne
 have h2:∀j:Nat,((n0,j)=bid)=False:=fun j=>ne_idx hb
 have h3:∀j:Nat,((n0,j)=lid)=False:=fun j=>ne_idx hl
 cases hs:selB p.kind with
 | false=>
  rw [hs] at hsel hS
  simp only [bq,if_true,if_false,Int.reduceBEq,reduceCtorEq] at hS
  subst hS
  simp only [push_cast,seval,reduceEqDiff,h1,h2,h3]
  repeat' (first|(((first|apply condU_s|apply gdU_t|apply gdU_f)<;>intro _h)<;>simp only [push_cast,seval,reduceEqDiff,_h,h1,h2,h3])|(refine c_call (by exact hsel) ?_;simp only [push_cast,seval,reduceEqDiff,h1,h2,h3])|intro _)
  refine c_callx (hcl p.parts pa o lid (by omega) (by omega) hne (by omega)) (lk_drop1 (lk_x2 (fun he=>of_eq_false (h3 _) he) (fun he=>of_eq_false (h2 _) he))) (fun n2 v σo hle hR=>?_)
  obtain ⟨rfl,id,hi1,hi2,rfl⟩:=hR
  rw [over_x2 (fun he=>of_eq_false (h3 _) he) (fun he=>of_eq_false (h2 _) he)]
  simp only [push_cast,seval,reduceEqDiff,h1,h2,h3]
  intros
  exact ⟨_,StLe.refl,[],_,trivial,fun i e h=>lk_app_left (τ:=[_]) h,rfl,id,by rcases hi1 with h|h;exact .inl h;exact .inr (by omega),by simp only;omega,rfl⟩
 | true=>
  rw [hs] at hsel hS
  simp only [bq,if_true,if_false,Int.reduceBEq,reduceCtorEq] at hS
  simp only [push_cast,seval,reduceEqDiff,h1,h2,h3,List.length_map]
  repeat' (first|(((first|apply condU_s|apply gdU_t|apply gdU_f)<;>intro _h)<;>simp only [push_cast,seval,reduceEqDiff,_h,h1,h2,h3,List.length_map])|(refine c_call (by exact hsel) ?_;simp only [push_cast,seval,reduceEqDiff,h1,h2,h3,List.length_map])|intro _)
  refine aWP_loopW p.cases.length (Inv:=fun m st=>∃cd cr n lid' o',p.cases=cd++cr/\m=cr.length/\o'++lvsCs cr pa=S/\o'.length+2*wtCs cr<=M/\(lid'=lid\/n0<=lid'.1)/\lid'.1<n/\n0<=n/\st=⟨[(1,.s pa),(2,.fn 129 [] [.ref bid 0]),(18,.sl (p.cases.map Case.enc)),(19,.i .i64 p.cases.length),(20,.i .i64 cd.length)],[(lid',.arr TL 2 (o'.map leafV)),(bid,.box (.arr lid'))],n⟩) ⟨_,StLe.drop (lk_drop1 (lk_x2 (fun he=>of_eq_false (h3 _) he) (fun he=>of_eq_false (h2 _) he))) (Nat.le_refl _),[],p.cases,_,lid,o,rfl,rfl,hS,by omega,.inl rfl,by (try simp only);omega,by (try simp only);omega,rfl⟩ ?_
  clear hS
  rintro m _ ⟨cd,cr,n,lid',o',hcz,rfl,hd,hM,hl1,hl2,hn,rfl⟩
  have hne':lid'≠bid:=by
   rcases hl1 with rfl|h
   ·exact hne
   ·rintro rfl;omega
  cases cr with
  | nil=>
   have hlt0:decide ((cd.length:Int)<(p.cases.length:Int))=false:=by rw [hcz];simp
   simp only [lvsCs,List.append_nil] at hd
   subst hd
   simp only [push_cast,seval,reduceEqDiff,hlt0]
   intros
   exact ⟨_,StLe.refl,[],_,trivial,fun _ _ h=>h,rfl,lid',hl1,by simp only;omega,rfl⟩
  | cons c cr=>
   have hlt0:decide ((cd.length:Int)<(p.cases.length:Int))=true:=by rw [hcz];simp;omega
   have hcb:=zip_bd hcz
   have hcw:=wtCs_mem (cs:=p.cases) (c:=c) (by rw [hcz];simp)
   have hget:(p.cases.map Case.enc)[cd.length]? = some (.agg [.s c.1,.sl (c.2.map Part.enc)]):=by
    rw [hcz,List.getElem?_map,List.getElem?_append_right (by simp)];simp [Case.enc_eq]
   rw [lvsCs_cons] at hd
   rw [wtCs_cons] at hM
   have hlv:=lvsPs_len c.2 (pa++c.1++[47]) 0 []
   have g1:(lid'=bid)=False:=eq_false hne'
   have g2:∀k j:Nat,((n+1+k,j)=bid)=False:=fun k j=>ne_idx (by omega)
   have g3:∀k j:Nat,((n+1+k,j)=lid')=False:=fun k j=>ne_idx (by omega)
   simp only [push_cast,seval,reduceEqDiff,hlt0,hget,if_pos hcb,wrap_zip c (done:=cd) (by omega),List.length_map,g1,g2,g3]
   repeat' (first|(((first|apply condU_s|apply gdU_t|apply gdU_f)<;>intro _h)<;>simp only [push_cast,seval,reduceEqDiff,_h,hlt0,hget,if_pos hcb,wrap_zip c (done:=cd) (by omega),List.length_map,g1,g2,g3])|(refine jp_i (by simp only [List.length_append,List.length_cons,List.length_nil,SLim]<;>omega) ?_;simp only [push_cast,seval,reduceEqDiff,hlt0,hget,if_pos hcb,wrap_zip c (done:=cd) (by omega),List.length_map,g1,g2,g3])|intro _)
   refine c_callx (hcl c.2 (pa++c.1++[47]) o' lid' (by omega) (by simp only [List.length_append,List.length_cons,List.length_nil];omega) hne' (by omega)) (lk_drop1 (lk_x2 (fun he=>of_eq_false (g3 _ _) he) (fun he=>of_eq_false (g2 _ _) he))) (fun n2 v σo hle hR=>?_)
   obtain ⟨rfl,id,hi1,hi2,rfl⟩:=hR
   rw [over_x2 (fun he=>of_eq_false (g3 _ _) he) (fun he=>of_eq_false (g2 _ _) he)]
   rw [<-List.append_assoc] at hd
   simp only [push_cast,seval,reduceEqDiff,hlt0,hget,if_pos hcb,wrap_zip c (done:=cd) (by omega),List.length_map,g1,g2,g3]
   intros
   refine ⟨_,_,Nat.lt_succ_self _,StLe.drop (fun i e h=>lk_app_left (τ:=[_]) h) (Nat.le_refl _),cd++[c],cr,_,id,_,by rw [hcz];simp,rfl,hd,?_,?_,?_,?_,rfl⟩
   ·rw [List.length_append];omega
   ·rcases hi1 with rfl|h
    ·exact hl1
    ·exact .inr (by omega)
   ·rcases hi1 with rfl|h<;>omega
   ·omega
end Go.Ir
end
namespace Go.Ir
open Go.Proofs
variable (W0 : World)
theorem lvsCs_len (cs:List Case) (pa:Bytes):(lvsCs cs pa).length<=2*wtCs cs:=by
 induction cs with
 | nil=>simp [lvsCs]
 | cons c cs ih=>rw [lvsCs_cons,wtCs_cons,List.length_append];have:=lvsPs_len c.2 (pa++c.1++[47]) 0 [];omega
theorem lvs_part (p:Part) (pa:Bytes):(p.lvs pa).length+1<=2*p.wt:=by
 rw [p.lvs_eq,p.wt_eq]
 split
 ·have:=lvsCs_len p.cases pa;omega
 ·have:=lvsPs_len p.parts pa 0 [];omega
theorem frz_slot {W0:World} {nt n n' s e sz:Nat} {env:Env} {σ τ:Sto} {rid:Id} {es:List V} (hs:get env s = .arr rid) (hr:lk σ rid=some (.arr e sz es)) (hτ:∀i e',lk τ i=some e'->lk σ i=some e'/\i≠rid) (hok:∀y∈es,y.ok=true) (hn:n<=n') :
  StLe W0 nt ⟨env,σ,n⟩ ⟨(s,.sl es)::env,τ,n'⟩:=by
 refine StLe.weak (fun i=>if i=rid then some es else none) (fun i es' h=>?_) (fun t=>?_) (fun i e' h=>⟨e',(hτ i e' h).1,.refl _⟩) hn
 ·split at h
  ·rename_i hi;subst hi;cases h
   refine ⟨⟨e,sz,hr⟩,?_⟩
   cases hl:lk τ i with
   | none=>rfl
   | some x=>exact absurd rfl (hτ i x hl).2
  ·cases h
 ·by_cases ht:s=t
  ·subst ht
   rw [hs]
   simp only [get,if_true]
   refine .arr rid es es (by simp) rfl (fun k c c' h1 h2=>?_) (fun k c c' h1 h2=>?_)
   ·rw [h1] at h2;cases h2;exact .refl _
   ·rw [h1] at h2;cases h2
    have:=hok c (List.mem_of_getElem? h1)
    exact ⟨rfl,this,this⟩
  ·simp only [get,if_neg ht];exact .refl _
theorem over_m2 {x a b:Id} {X A B:Ent} {σo:Sto} (h1:x≠a) (h2:x≠b):over [(a,A),(b,B)] σo [(a,A),(x,X),(b,B)]=σo++[(x,X)]:=by
 by_cases hab:a=b
 ·subst hab;simp [over,lk,List.filter,h1,Ne.symm h1]
 ·simp [over,lk,List.filter,h1,h2,Ne.symm h1,Ne.symm h2,hab]
theorem lk_m2 {x a b:Id} {X A B:Ent} (h1:x≠a) (h2:x≠b):∀i e,lk [(a,A),(b,B)] i=some e->lk [(a,A),(x,X),(b,B)] i=some e:=by
 intro i e h
 simp only [lk] at h⊢
 split at h
 ·rename_i ha;rw [if_pos ha];exact h
 ·rename_i ha
  rw [if_neg ha]
  split at h
  ·rename_i hb;subst hb;rw [if_neg h2,if_pos rfl];exact h
  ·cases h
set_option maxHeartbeats 4000000 in
theorem c_leavesA (K:Nat) (hI:∀i:Nat,i<=K->RetS Tryz.prog W0 75 [.i .i64 i] [] (.s (decN i)) []/\(decN i).length<=20) :
  ∀(N:Nat) (ps:List Part) (pa:Bytes) (o:List Leaf) (lid:Id),wtPs ps<N->wtPs ps<=2^24->wtPs ps<=K->pa.length+32*wtPs ps<=2^32->o.length+2*wtPs ps+1<=2^30->
  RetN Tryz.prog W0 83 [.arr lid,.sl (ps.map Part.enc),.s pa] [(lid,.arr TL 2 (o.map leafV))] (.arr TL 2 ((o++lvsPs ps pa 0 []).map leafV)) []:=by
 intro N
 induction N with
 | zero=>intro ps pa o lid h;omega
 | succ N ih=>
 intro ps pa o0 lid0 hN hw0 hK0 hpa hM
 have hlen:=len_wtPs ps
 generalize hS:o0++lvsPs ps pa 0 []=S
 refine fn_newW (s:=6) f83ok (by simp) (by simp [lk]) fun n0 hn0=>?_
 have hl0:lid0.1<n0:=hn0 lid0 (.arr TL 2 (o0.map leafV)) (by simp [lk])
 clear hn0
 simp only [push_cast,seval,reduceEqDiff]
 intros
 rename_i a1 a2 a3 a4
 have hn1:n0<n0+1+a1+1+a2+1+a3+1+a4:=by omega
 generalize n0+1+a1+1+a2+1+a3+1+a4=n1 at *
 refine aWP_loopW ps.length (Inv:=fun m st=>∃done rest n lid rid o run k,ps=done++rest/\m=rest.length/\o++lvsPs rest pa k run=S/\o.length+2*wtPs rest+1<=2^30/\k<=done.length/\run.length<=done.length/\wtPs run+wtPs rest<=wtPs ps/\n0<n/\lid.1<n/\rid.1<n/\lid≠(n0,3)/\rid≠(n0,3)/\rid≠lid/\st=⟨[(2,.s pa),(3,.ref (n0,3) 0),(7,.arr rid),(8,.i .i64 k),(11,.sl (ps.map Part.enc)),(12,.i .i64 ps.length),(13,.i .i64 done.length)],[(rid,.arr TPt 6 (run.map Part.enc)),(lid,.arr TL 2 (o.map leafV)),((n0,3),.box (.arr lid))],n⟩) ⟨_,(StLe.own (s:=7) (e:=TPt) (sz:=6) (k:=99) rfl).trans ((StLe.envD (fun t=>?_) (Nat.le_refl _)).trans (StLe.sub (σ':=[((n1,99),.arr TPt 6 []),(lid0,.arr TL 2 (o0.map leafV)),((n0,3),.box (.arr lid0))]) ?_ ?_ (Nat.le_refl _))),[],ps,_,lid0,(n1,99),o0,[],0,rfl,rfl,hS,hM,by simp,by simp,by simp [wtPs_nil],?_,?_,?_,?_,?_,?_,rfl⟩ ?_
 ·left
  by_cases h3:7=t
  ·subst h3;rfl
  ·simp [get,h3]
 ·have e1:((n1,99):Id)≠lid0:=fun he=>by rw [<-he] at hl0;simp at hl0;omega
  have e2:lid0≠((n0,3):Id):=fun he=>by rw [he] at hl0;simp at hl0
  have e3:((n1,99):Id)≠(n0,3):=fun he=>by injection he with h1 h2;omega
  simp [e1,e2,Ne.symm e1,Ne.symm e2]
 ·intro p hp
  simp at hp⊢
  rcases hp with h|h|h<;>simp [h]
 ·(try simp only);omega
 ·(try simp only);omega
 ·(try simp only);omega
 ·intro he;rw [he] at hl0;simp at hl0
 ·intro he;injection he with h1 h2;omega
 ·intro he;rw [<-he] at hl0;simp at hl0;omega
 clear hS
 rintro m _ ⟨done,rest,n,lid,rid,o,run,k,hz,rfl,hd,hM,hk,hrl,hrw,hn,hl,hr,hlb,hrb,hrl2,rfl⟩
 have d1:∀i j:Nat,((n+1+i,j)=lid)=False:=fun i j=>ne_idx (by omega)
 have d1':∀i j:Nat,(lid=(n+1+i,j))=False:=fun i j=>eq_false fun he=>of_eq_false (d1 i j) he.symm
 have d2:∀i j:Nat,((n+1+i,j)=rid)=False:=fun i j=>ne_idx (by omega)
 have d2':∀i j:Nat,(rid=(n+1+i,j))=False:=fun i j=>eq_false fun he=>of_eq_false (d2 i j) he.symm
 have d3:∀i j q:Nat,((n+1+i,j)=(n0,q))=False:=fun i j q=>eq_false fun he=>by injection he with h1 h2;omega
 have d3':∀i j q:Nat,((n0,q)=(n+1+i,j))=False:=fun i j q=>eq_false fun he=>of_eq_false (d3 i j q) he.symm
 have c1:(lid=(n0,3))=False:=eq_false hlb
 have c1':((n0,3)=lid)=False:=eq_false (Ne.symm hlb)
 have c2:(rid=(n0,3))=False:=eq_false hrb
 have c2':((n0,3)=rid)=False:=eq_false (Ne.symm hrb)
 have c3:(rid=lid)=False:=eq_false hrl2
 have c3':(lid=rid)=False:=eq_false (Ne.symm hrl2)
 have hia:∀a b:Id,(isA (V.arr a)=isA (V.arr b))=True:=fun _ _=>eq_true rfl
 cases rest with
 | nil=>
  have hlt0:decide ((done.length:Int)<(ps.length:Int))=false:=by rw [hz];simp
  have hpl:ps.length=done.length:=by rw [hz];simp
  rw [lvsPs_nil] at hd
  subst hd
  obtain ⟨hIk,hIl⟩:=hI k (by omega)
  have hcl:=c_cloned W0 _ run (Nat.lt_succ_self _) (by omega)
  generalize hdk:decN k=DK at *
  have hap:List.map leafV o++[.agg [.s (pa++DK),.sl (run.map Part.enc)]]=(o++[(pa++DK,run)]).map leafV:=by simp [leafV]
  have hll:o.length+1<=LLim:=by unfold LLim;omega
  simp only [push_cast,seval,reduceEqDiff,hlt0]
  intro k1
  refine wkW_i (frz_slot (s:=7) (rid:=rid) (e:=TPt) (sz:=6) (es:=run.map Part.enc) (τ:=[(lid,.arr TL 2 (o.map leafV)),((n0,3),.box (.arr lid))]) rfl (by simp [lk]) (fun i e' h=>?_) (okPt _) (Nat.le_refl _)) ?_
  ·refine ⟨lk_drop1 (by simp [lk,c3',c2']) i e' h,?_⟩
   rintro rfl
   simp [lk,c3',c2'] at h
  simp only [push_cast,seval,reduceEqDiff,c1,c1',c2,c2',c3,c3',d1,d1',hia,TL,hap,eq_true hll,List.length_map]
  repeat' (first|(((first|apply condU_s|apply gdU_t|apply gdU_f)<;>intro _h)<;>simp only [push_cast,seval,reduceEqDiff,_h,c1,c1',c2,c2',c3,c3',d1,d1',hia,TL,hap,eq_true hll,List.length_map])|((first|refine c_call (by exact hIk) ?_|refine c_call (by exact hcl) ?_|refine jp_i (by simp only [List.length_append,List.length_cons,List.length_nil,SLim]<;>omega) ?_);simp only [push_cast,seval,reduceEqDiff,c1,c1',c2,c2',c3,c3',d1,d1',hia,TL,hap,eq_true hll,List.length_map])|intro _)
  exact finNW_i rfl (by simp [lk])
 | cons p rest=>
  have hbd:=zip_bd hz
  have hwp:=wtPs_mem (ps:=ps) (p:=p) (by rw [hz];simp)
  have hpl:ps.length=done.length+(rest.length+1):=by rw [hz];simp
  have hlt0:decide ((done.length:Int)<(ps.length:Int))=true:=by simp;omega
  have hget:(ps.map Part.enc)[done.length]? = some p.enc:=by rw [hz,List.getElem?_map,List.getElem?_append_right (by simp)];simp
  rw [lvsPs_cons] at hd
  rw [wtPs_cons] at hM hrw
  have hso:=c_solid W0 p (by omega)
  unfold Part.v at hso
  cases hsl:p.solid with
  | true=>
   rw [hsl] at hso hd
   simp only [bq,if_true,if_false,Int.reduceBEq,reduceCtorEq] at hd
   have hll:run.length+1<=LLim:=by unfold LLim;omega
   have hap:List.map Part.enc run++[.agg [.i .i64 p.kind,.s p.text,.s p.name,.s p.style,.sl (p.cases.map Case.enc),.sl (p.parts.map Part.enc)]]=(run++[p]).map Part.enc:=by simp [Part.enc_eq]
   simp only [push_cast,seval,reduceEqDiff,hlt0,hget,if_pos hbd,wrap_zip p (done:=done) (by omega),List.length_map,c1,c1',c2,c2',c3,c3',d1,d1',d2,d2',d3,d3',TPt,hap,eq_true hll]
   repeat' (first|(((first|apply condU_s|apply gdU_t|apply gdU_f)<;>intro _h)<;>simp only [push_cast,seval,reduceEqDiff,_h,hlt0,hget,if_pos hbd,wrap_zip p (done:=done) (by omega),List.length_map,c1,c1',c2,c2',c3,c3',d1,d1',d2,d2',d3,d3',TPt,hap,eq_true hll])|(refine c_call (by exact hso) ?_;simp only [push_cast,seval,reduceEqDiff,hlt0,hget,if_pos hbd,wrap_zip p (done:=done) (by omega),List.length_map,c1,c1',c2,c2',c3,c3',d1,d1',d2,d2',d3,d3',TPt,hap,eq_true hll])|intro _)
   rename_i b1 b2 b3 b4 b5
   refine ⟨_,_,Nat.lt_succ_self _,StLe.dropM (by simp [lk,d1',d3']) (Nat.le_refl _),done++[p],rest,_,lid,_,o,run++[p],k,by rw [hz];simp,rfl,hd,by omega,by simp;omega,by simp;omega,?_,?_,?_,?_,hlb,?_,?_,rfl⟩
   ·rw [wtPs_app,wtPs_cons,wtPs_nil];omega
   ·omega
   ·omega
   ·simp only;omega
   ·intro he;injection he with h1 h2;omega
   ·intro he;rw [<-he] at hl;simp at hl;omega
  | false=>
   rw [hsl] at hso hd
   simp only [bq,if_true,if_false,Int.reduceBEq,reduceCtorEq] at hd
   simp only [push_cast,seval,reduceEqDiff,hlt0,hget,if_pos hbd,wrap_zip p (done:=done) (by omega),List.length_map,c1,c1',c2,c2',c3,c3',d1,d1',d2,d2',d3,d3']
   repeat' (first|(((first|apply condU_s|apply gdU_t|apply gdU_f)<;>intro _h)<;>simp only [push_cast,seval,reduceEqDiff,_h,hlt0,hget,if_pos hbd,wrap_zip p (done:=done) (by omega),List.length_map,c1,c1',c2,c2',c3,c3',d1,d1',d2,d2',d3,d3'])|(refine c_call (by exact hso) ?_;simp only [push_cast,seval,reduceEqDiff,hlt0,hget,if_pos hbd,wrap_zip p (done:=done) (by omega),List.length_map,c1,c1',c2,c2',c3,c3',d1,d1',d2,d2',d3,d3'])|intro _)
   rename_i b1 b2 b3
   have hx:n<n+1+b1/\n+1+b1<n+1+b1+1+b2+1+b3:=by omega
   generalize n+1+b1+1+b2+1+b3=n2 at *
   have g1:∀j:Nat,((n+1+b1,j)=lid)=False:=fun j=>d1 b1 j
   have g1':∀j:Nat,(lid=(n+1+b1,j))=False:=fun j=>d1' b1 j
   have g2:∀j:Nat,((n+1+b1,j)=rid)=False:=fun j=>d2 b1 j
   have g3:∀j q:Nat,((n+1+b1,j)=(n0,q))=False:=fun j q=>d3 b1 j q
   have g3':∀j q:Nat,((n0,q)=(n+1+b1,j))=False:=fun j q=>d3' b1 j q
   generalize n+1+b1=x0 at *
   obtain ⟨hx1,hx2⟩:=hx
   have e1:∀i j:Nat,((n2+1+i,j)=lid)=False:=fun i j=>ne_idx (by omega)
   have e1':∀i j:Nat,(lid=(n2+1+i,j))=False:=fun i j=>eq_false fun he=>of_eq_false (e1 i j) he.symm
   have e3:∀i j q:Nat,((n2+1+i,j)=(n0,q))=False:=fun i j q=>eq_false fun he=>by injection he with h1 h2;omega
   have e3':∀i j q:Nat,((n0,q)=(n2+1+i,j))=False:=fun i j q=>eq_false fun he=>of_eq_false (e3 i j q) he.symm
   have e4:∀i j q:Nat,((n2+1+i,j)=(x0,q))=False:=fun i j q=>eq_false fun he=>by injection he with h1 h2;omega
   have e4':∀i j q:Nat,((x0,q)=(n2+1+i,j))=False:=fun i j q=>eq_false fun he=>of_eq_false (e4 i j q) he.symm
   have f1:∀j:Nat,((n2,j)=lid)=False:=fun j=>ne_idx (by omega)
   have f3:∀j q:Nat,((n2,j)=(n0,q))=False:=fun j q=>eq_false fun he=>by injection he with h1 h2;omega
   have f3':∀j q:Nat,((n0,q)=(n2,j))=False:=fun j q=>eq_false fun he=>of_eq_false (f3 j q) he.symm
   have f4:∀j q:Nat,((n2,j)=(x0,q))=False:=fun j q=>eq_false fun he=>by injection he with h1 h2;omega
   have f4':∀j q:Nat,((x0,q)=(n2,j))=False:=fun j q=>eq_false fun he=>of_eq_false (f4 j q) he.symm
   obtain ⟨hIk,hIl⟩:=hI k (by omega)
   obtain ⟨hIk2',hIl2⟩:=hI (k+1) (by omega)
   have hIk2:RetS Tryz.prog W0 75 [.i .i64 ((k:Int)+1)] [] (.s (decN (k+1))) []:=hIk2'
   have hcl:=c_cloned W0 _ run (Nat.lt_succ_self _) (by omega)
   generalize decN k=DK at *
   generalize decN (k+1)=DL at *
   have hap:List.map leafV o++[.agg [.s (pa++DK),.sl (run.map Part.enc)]]=(o++[(pa++DK,run)]).map leafV:=by simp [leafV]
   have hll:o.length+1<=LLim:=by unfold LLim;omega
   have hwk:IntKind.i64.wrap ((k:Int)+1)=((k+1:Nat):Int):=by rw [wrap64 (by omega) (by omega)];simp
   refine wkW_i (frz_slot (s:=7) (rid:=rid) (e:=TPt) (sz:=6) (es:=run.map Part.enc) (τ:=[((x0,10),.box (.agg [.i .i64 p.kind,.s p.text,.s p.name,.s p.style,.sl (p.cases.map Case.enc),.sl (p.parts.map Part.enc)])),(lid,.arr TL 2 (o.map leafV)),((n0,3),.box (.arr lid))]) rfl (by simp [lk,g2]) (fun i e' h=>?_) (okPt _) (Nat.le_refl _)) ?_
   ·have hne:i≠rid:=by
     rintro rfl
     simp [lk,g2,c3',c2'] at h
    refine ⟨?_,hne⟩
    simp only [lk] at h⊢
    by_cases hx:(x0,10)=i
    ·rw [if_pos hx] at h⊢;exact h
    ·rw [if_neg hx] at h⊢;rw [if_neg (Ne.symm hne)];exact h
   simp only [push_cast,seval,reduceEqDiff,c1,c1',c2,c2',c3,c3',g1,g1',g3,g3',e1,e1',e3,e3',e4,e4',f1,f3,f3',f4,f4',hia,TL,hap,eq_true hll,List.length_map,hwk,wrap_zip p (done:=done) (by omega)]
   repeat' (first|(((first|apply condU_s|apply gdU_t|apply gdU_f)<;>intro _h)<;>simp only [push_cast,seval,reduceEqDiff,_h,c1,c1',c2,c2',c3,c3',g1,g1',g3,g3',e1,e1',e3,e3',e4,e4',f1,f3,f3',f4,f4',hia,TL,hap,eq_true hll,List.length_map,hwk,wrap_zip p (done:=done) (by omega)])|((first|refine c_call (by exact hIk) ?_|refine c_call (by exact hcl) ?_|refine c_call (by exact hIk2) ?_|refine jp_i (by simp only [List.length_append,List.length_cons,List.length_nil,SLim]<;>omega) ?_);simp only [push_cast,seval,reduceEqDiff,c1,c1',c2,c2',c3,c3',g1,g1',g3,g3',e1,e1',e3,e3',e4,e4',f1,f3,f3',f4,f4',hia,TL,hap,eq_true hll,List.length_map,hwk,wrap_zip p (done:=done) (by omega)])|intro _)
   have hli:=c_lists W0 p (pa++DL++[47]) (n0,3) (by omega) (by simp only [List.length_append,List.length_cons,List.length_nil];omega) (2^30)
    (fun q pa' o' lid' h1 h2 h3 h4=>c_leavesFn W0 q pa' o' (n0,3) lid' h3 (ih q pa' o' lid' (by omega) (by omega) (by omega) h2 (by omega))) (o++[(pa++DK,run)]) (n2,32) (fun he=>of_eq_false (f3 _ _) he) (by simp only [List.length_append,List.length_cons,List.length_nil];omega)
   unfold Part.v at hli
   refine c_callx hli (lk_m2 (fun he=>of_eq_false (f4' _ _) he) (fun he=>of_eq_false (g3 _ _) he)) (fun n5 v σo hle hR=>?_)
   obtain ⟨rfl,id,hi1,hi2,rfl⟩:=hR
   have hlp:=lvs_part p (pa++DL++[47])
   simp only [TL]
   rw [over_m2 (fun he=>of_eq_false (f4' _ _) he) (fun he=>of_eq_false (g3 _ _) he)]
   generalize p.lvs (pa++DL++[47])=LV at *
   rw [show o++(pa++DK,run)::(LV++lvsPs rest pa (k+1) [])=(o++[(pa++DK,run)]++LV)++lvsPs rest pa (k+1) [] by simp] at hd
   simp only [push_cast,seval,reduceEqDiff,c1,c1',c2,c2',c3,c3',g1,g1',g3,g3',e1,e1',e3,e3',e4,e4',f1,f3,f3',f4,f4',hia,TL,hap,eq_true hll,List.length_map,hwk,wrap_zip p (done:=done) (by omega)]
   intros
   rename_i b4 b5
   have hx3:n5<n5+1+b4+1+b5:=by omega
   generalize n5+1+b4+1+b5=n6 at *
   have hid:id.1<n6:=by omega
   have hid2:id=(n2,32)\/n0<id.1:=by
    rcases hi1 with h|h
    ·exact .inl h
    ·exact .inr (by omega)
   refine ⟨_,⟨[(2,.s pa),(3,.ref (n0,3) 0),(7,.arr (n6,99)),(8,.i .i64 ((k+1:Nat):Int)),(11,.sl (ps.map Part.enc)),(12,.i .i64 ps.length),(13,.i .i64 (done++[p]).length)],[((n6,99),.arr TPt 6 []),(id,.arr TL 2 ((o++[(pa++DK,run)]++LV).map leafV)),((n0,3),.box (.arr id))],n6+1⟩,Nat.lt_succ_self _,(StLe.own (s:=7) (e:=TPt) (sz:=6) (k:=99) rfl).trans ((StLe.envD (fun t=>?_) (Nat.le_refl _)).trans (StLe.drop (fun i e h=>lk_app_left (τ:=[_]) h) (Nat.le_refl _))),done++[p],rest,_,id,(n6,99),_,[],k+1,by rw [hz];simp,rfl,hd,?_,?_,?_,?_,?_,?_,?_,?_,?_,?_,rfl⟩
   ·left
    by_cases h3:7=t
    ·subst h3;rfl
    ·simp [get,h3]
   ·simp only [List.length_append,List.length_cons,List.length_nil];omega
   ·simp;omega
   ·simp
   ·rw [wtPs_nil];omega
   ·omega
   ·omega
   ·simp only;omega
   ·rcases hid2 with rfl|h
    ·exact fun he=>of_eq_false (f3 _ _) he
    ·rintro rfl;simp at h
   ·intro he;injection he with h1 h2;omega
   ·rintro rfl;simp at hid
theorem c_Leaves (K:Nat) (hI:∀i:Nat,i<=K->RetS Tryz.prog W0 75 [.i .i64 i] [] (.s (decN i)) []/\(decN i).length<=20) (ps:List Part) (hw:wtPs ps<=2^24) (hK:wtPs ps<=K) (hv:validP ps=true) :
  RetS Tryz.prog W0 41 [.sl (ps.map Part.enc)] [] (.tup [.sl ((lvsPs ps [] 0 []).map leafV),.i .i64 0]) []:=by
 have hva:=c_Valid W0 ps hw
 rw [hv] at hva
 have hle:=retN_nil (e:=TL) (sz:=2) (fun id=>c_leavesA W0 K hI _ ps [] [] id (Nat.lt_succ_self _) hw hK (by simp;omega) (by simp;omega))
 rw [List.nil_append] at hle
 refine fn_retW (vs:=[.sl ((lvsPs ps [] 0 []).map leafV),.i .i64 0]) f41ok (by simp) (by simp) fun n0 hn0=>?_
 clear hn0
 simp only [push_cast,seval,reduceEqDiff]
 repeat' (first|(((first|apply condU_s|apply gdU_t|apply gdU_f)<;>intro _h)<;>simp only [push_cast,seval,reduceEqDiff,_h])|(refine c_call (by exact hva) ?_;simp only [push_cast,seval,reduceEqDiff])|intro _)
 refine c_calln hle (fun i e h=>by simp [lk] at h) ?_
 rw [over_nil]
 simp only [push_cast,seval,reduceEqDiff]
 intros
 exact ⟨⟨_,[],_⟩,frz_slot (s:=2) (e:=TL) (sz:=2) (es:=(lvsPs ps [] 0 []).map leafV) rfl (by simp [lk]) (fun _ _ h=>by cases h) (fun y hy=>by obtain ⟨x,_,rfl⟩:=List.mem_map.1 hy;rfl) (Nat.le_refl _),⟨by simp [ResOk,get],by simp [ResOk,get],trivial⟩,fun _ _ h=>by cases h⟩
end Go.Ir
