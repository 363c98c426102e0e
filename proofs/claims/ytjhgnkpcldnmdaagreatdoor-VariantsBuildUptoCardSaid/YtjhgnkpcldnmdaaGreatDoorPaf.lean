/-
  Contracts: At, filled of the reference.
  Contracts: lists of leaves
  Contracts: Build of both sides
  Contracts: values
  Inputs that are forms or values.
  Inputs that are lists of leaves.
-/
import Derived.Test.YtjhgnkpcldnmdaaGreatDoorPae
set_option linter.all false
set_option linter.unusedSimpArgs false
set_option linter.unusedVariables false
open Nat (reduceEqDiff)
namespace Go.Ir
open Go.Proofs
variable (W0 : World)
theorem c_rAt (l:List Leaf) (pa:Bytes) (hl:l.length<=2^40):RetS Tryz.prog W0 32 [.sl (l.map leafV),.s pa] [] (.sl ((atP l pa).map Part.enc)) []:=by
 generalize hS:atP l pa=S
 refine fn_retW (vs:=[.sl (S.map Part.enc)]) f32ok (by simp) (by simp) fun n0 hn0=>?_
 clear hn0
 simp only [push_cast,seval,reduceEqDiff]
 intros
 refine aWP_loopW l.length (Inv:=fun m st=>∃done rest n,l=done++rest/\m=rest.length/\atP rest pa=S/\st=⟨[(0,.sl (l.map leafV)),(1,.s pa),(5,.i .i64 done.length)],[],n⟩) ⟨_,StLe.refl,[],l,_,rfl,rfl,hS,rfl⟩ ?_
 clear hS
 rintro m _ ⟨done,rest,n,hz,rfl,hd,rfl⟩
 cases rest with
 | nil=>
  have hlt0:decide ((done.length:Int)<(l.length:Int))=false:=by rw [hz];simp
  rw [atP] at hd
  subst hd
  simp only [push_cast,seval,reduceEqDiff,hlt0,List.length_map]
  intros
  exact finW_nil rfl
 | cons x rest=>
  have hlt0:decide ((done.length:Int)<(l.length:Int))=true:=by rw [hz];simp;omega
  have hbd:=zip_bd hz
  have hget:(l.map leafV)[done.length]? = some (.agg [.s x.1,.sl (x.2.map Part.enc)]):=by rw [hz,List.getElem?_map,List.getElem?_append_right (by simp)];simp [leafV]
  rw [atP] at hd
  simp only [push_cast,seval,reduceEqDiff,hlt0,hget,if_pos hbd,List.length_map,wrap_zip x (done:=done) (by omega)]
  repeat' (first|(((first|apply condU_s|apply gdU_t|apply gdU_f)<;>intro _h)<;>simp only [push_cast,seval,reduceEqDiff,_h,hlt0,hget,if_pos hbd,List.length_map,wrap_zip x (done:=done) (by omega)])|intro _)
  ·have _g:=_h
   rw [if_pos _g] at hd
   subst hd
   exact finW_ret (by simp [get])
  ·have _g:=_h
   rw [if_neg (by simp [_g])] at hd
   exact ⟨_,_,Nat.lt_succ_self _,StLe.refl,done++[x],rest,_,by rw [hz];simp,rfl,hd,rfl⟩
theorem StLe.boxNil {W0:World} {nt n:Nat} {env:Env} {τ:Sto} {rid:Id} {A B:List V}:StLe W0 nt ⟨env,(rid,.box (.agg (A ++ .nil::B)))::τ,n⟩ ⟨env,(rid,.box (.agg (A ++ .sl []::B)))::τ,n⟩:=by
 refine StLe.weak (fun _=>none) (fun _ _ h=>by cases h) (fun _=>.refl _) (fun i e' h=>?_) (Nat.le_refl _)
 simp only [lk] at h⊢
 split at h
 ·rename_i hi
  rw [if_pos hi]
  cases h
  refine ⟨_,rfl,.box _ _ (.agg _ _ (by simp) fun k c c' h1 h2=>?_) (by simp [cells]) rfl rfl⟩
  by_cases hk:k<A.length
  ·rw [List.getElem?_append_left hk] at h1 h2
   rw [h1] at h2;cases h2;exact .refl _
  ·rw [List.getElem?_append_right (by omega)] at h1 h2
   cases hq:k-A.length with
   | zero=>
    rw [hq] at h1 h2
    simp at h1 h2
    subst h1 h2
    exact .nil
   | succ q=>
    rw [hq] at h1 h2
    simp only [List.getElem?_cons_succ] at h1 h2
    rw [h1] at h2;cases h2;exact .refl _
 ·rename_i hi
  rw [if_neg hi]
  exact ⟨_,h,.refl _⟩
set_option maxHeartbeats 4000000 in
theorem rfil_loop (l:List Leaf) (p:Part) (here:Bytes) (a0 a2 a7 a8:V) (x0 y0:Nat) (R:List Part) (X:V) (hX:X = .sl (R.map Part.enc)\/(X = .nil/\R=[])) (id:Id) (OE:Ent) (m0:Nat) (hi0:id.1<x0) (hxy:x0<y0) (hym:y0<m0) (hpw:wtCs p.cases<=2^24) (hin:here.length<=2^32)
  (hcall:∀c∈p.cases,RetS Tryz.prog W0 76 [.sl (c.2.map Part.enc),.sl (l.map leafV),.s (here++[47]++c.1++[47])] [] (.sl ((filL (atP l) c.2 (here++[47]++c.1++[47])).map Part.enc)) []) (Q:Exit->St->Prop)
  (hQ:∀yid n,y0<yid.1->yid.1<n->Q (.exit 2) ⟨[(0,a0),(1,.sl (l.map leafV)),(2,a2),(7,a7),(8,a8),(9,.ref (x0,9) 0),(10,.s here),(11,.ref (y0,11) 0),(12,.i .i64 p.cases.length),(53,.b false)],[(yid,.arr TCs 2 ((filCs (atP l) p.cases here).map Case.enc)),((y0,11),.box (.agg [.i .i64 p.kind,.s [],.s p.name,.s [],.arr yid,.sl (R.map Part.enc)])),((x0,9),.box p.v),(id,OE)],n⟩) :
  LoopW Tryz.prog W0 95 f76_31 Q ⟨[(0,a0),(1,.sl (l.map leafV)),(2,a2),(7,a7),(8,a8),(9,.ref (x0,9) 0),(10,.s here),(11,.ref (y0,11) 0),(12,.i .i64 0)],[((y0,11),.box (.agg [.i .i64 p.kind,.s [],.s p.name,.s [],.nil,X])),((x0,9),.box p.v),(id,OE)],m0⟩:=by
 generalize hS:filCs (atP l) p.cases here=S at hQ
 have hlc:=len_wtCs p.cases
 unfold Part.v at *
 have c1:∀j:Nat,((x0,j)=id)=False:=fun j=>eq_false fun he=>(by have:=congrArg Prod.fst he;(try simp only at this);omega)
 have c1':∀j:Nat,(id=(x0,j))=False:=fun j=>eq_false fun he=>of_eq_false (c1 j) he.symm
 have c2:∀j:Nat,((y0,j)=id)=False:=fun j=>eq_false fun he=>(by have:=congrArg Prod.fst he;(try simp only at this);omega)
 have c2':∀j:Nat,(id=(y0,j))=False:=fun j=>eq_false fun he=>of_eq_false (c2 j) he.symm
 have c3:∀j q:Nat,((x0,j)=(y0,q))=False:=fun j q=>eq_false fun he=>(by have:=congrArg Prod.fst he;(try simp only at this);omega)
 have c3':∀j q:Nat,((y0,q)=(x0,j))=False:=fun j q=>eq_false fun he=>of_eq_false (c3 j q) he.symm
 refine aWP_loopW p.cases.length (Inv:=fun m st=>∃cd cr n yid dl,p.cases=cd++cr/\m=cr.length/\dl++filCs (atP l) cr here=S/\dl.length=cd.length/\y0<yid.1/\yid.1<n/\st=⟨[(0,a0),(1,.sl (l.map leafV)),(2,a2),(7,a7),(8,a8),(9,.ref (x0,9) 0),(10,.s here),(11,.ref (y0,11) 0),(12,.i .i64 cd.length)],[(yid,.arr TCs 2 (dl.map Case.enc)),((y0,11),.box (.agg ([.i .i64 p.kind,.s [],.s p.name,.s []] ++ .arr yid::[.sl (R.map Part.enc)]))),((x0,9),.box (.agg [.i .i64 p.kind,.s p.text,.s p.name,.s p.style,.sl (p.cases.map Case.enc),.sl (p.parts.map Part.enc)])),(id,OE)],n⟩)
  ⟨_,?_,[],p.cases,m0+1,(m0,99),[],rfl,rfl,hS,rfl,by simp only;omega,by simp only;omega,rfl⟩ ?_
 ·rcases hX with rfl|⟨rfl,rfl⟩
  ·exact StLe.ownBox (A:=[.i .i64 p.kind,.s [],.s p.name,.s []]) TCs 2 99
  ·exact (StLe.boxNil (A:=[.i .i64 p.kind,.s [],.s p.name,.s [],.nil]) (B:=[])).trans (StLe.ownBox (A:=[.i .i64 p.kind,.s [],.s p.name,.s []]) (B:=[.sl []]) TCs 2 99)
 clear hS
 rintro m _ ⟨cd,cr,n,yid,dl,hcz,rfl,hdl,hll,hy1,hy2,rfl⟩
 have d1:∀j:Nat,((x0,j)=yid)=False:=fun j=>eq_false fun he=>(by have:=congrArg Prod.fst he;(try simp only at this);omega)
 have d1':∀j:Nat,(yid=(x0,j))=False:=fun j=>eq_false fun he=>of_eq_false (d1 j) he.symm
 have d2:∀j:Nat,((y0,j)=yid)=False:=fun j=>eq_false fun he=>(by have:=congrArg Prod.fst he;(try simp only at this);omega)
 have d2':∀j:Nat,(yid=(y0,j))=False:=fun j=>eq_false fun he=>of_eq_false (d2 j) he.symm
 have d3:(id=yid)=False:=eq_false fun he=>(by have:=congrArg Prod.fst he;(try simp only at this);omega)
 have d3':(yid=id)=False:=eq_false fun he=>of_eq_false (d3) he.symm
 cases cr with
 | nil=>
  have hlt1:decide ((cd.length:Int)<(p.cases.length:Int))=false:=by rw [hcz];simp
  have hcl:cd.length=p.cases.length:=by rw [hcz];simp
  rw [filCs_nil,List.append_nil] at hdl
  subst hdl
  simp only [push_cast,seval,reduceEqDiff,hlt1,List.length_map,List.cons_append,List.nil_append,c1,c1',c2,c2',c3,c3',d1,d1',d2,d2',d3,d3']
  intros
  rw [hcl]
  exact hQ _ _ hy1 (by omega)
 | cons c cr=>
  have hlt1:decide ((cd.length:Int)<(p.cases.length:Int))=true:=by rw [hcz];simp;omega
  have hcb:=zip_bd hcz
  have hcw:=wtCs_mem (cs:=p.cases) (c:=c) (by rw [hcz];simp)
  have hrc:=hcall c (by rw [hcz];simp)
  have hgc:(p.cases.map Case.enc)[cd.length]? = some (.agg [.s c.1,.sl (c.2.map Part.enc)]):=by
   rw [hcz,List.getElem?_map,List.getElem?_append_right (by simp)];simp [Case.enc_eq]
  rw [filCs_cons] at hdl
  generalize filL (atP l) c.2 (here++[47]++c.1++[47])=RC at *
  have hdc:dl.map Case.enc++[.agg [.s c.1,.sl (RC.map Part.enc)]]=(dl++[(c.1,RC)]).map Case.enc:=by simp [Case.enc_eq]
  have hll1:dl.length+1<=LLim:=by unfold LLim;omega
  have e1:∀k j q:Nat,((n+1+k,j)=(y0,q))=False:=fun k j q=>eq_false fun he=>(by have:=congrArg Prod.fst he;(try simp only at this);omega)
  have e1':∀k j q:Nat,((y0,q)=(n+1+k,j))=False:=fun k j q=>eq_false fun he=>of_eq_false (e1 k j q) he.symm
  have e2:∀k j:Nat,((n+1+k,j)=yid)=False:=fun k j=>eq_false fun he=>(by have:=congrArg Prod.fst he;(try simp only at this);omega)
  have e2':∀k j:Nat,(yid=(n+1+k,j))=False:=fun k j=>eq_false fun he=>of_eq_false (e2 k j) he.symm
  have e3:∀k j q:Nat,((n+1+k,j)=(x0,q))=False:=fun k j q=>eq_false fun he=>(by have:=congrArg Prod.fst he;(try simp only at this);omega)
  have e3':∀k j q:Nat,((x0,q)=(n+1+k,j))=False:=fun k j q=>eq_false fun he=>of_eq_false (e3 k j q) he.symm
  have e4:∀k j:Nat,((n+1+k,j)=id)=False:=fun k j=>eq_false fun he=>(by have:=congrArg Prod.fst he;(try simp only at this);omega)
  have e4':∀k j:Nat,(id=(n+1+k,j))=False:=fun k j=>eq_false fun he=>of_eq_false (e4 k j) he.symm
  simp only [push_cast,seval,reduceEqDiff,hlt1,hgc,if_pos hcb,List.length_map,List.cons_append,List.nil_append,c1,c1',c2,c2',c3,c3',d1,d1',d2,d2',d3,d3',e1,e1',e2,e2',e3,e3',e4,e4',hdc,eq_true hll1,TCs,wrap_zip c (done:=cd) (by omega)]
  repeat' (first|(((first|apply condU_s|apply gdU_t|apply gdU_f)<;>intro _h)<;>simp only [push_cast,seval,reduceEqDiff,_h,hlt1,hgc,if_pos hcb,List.length_map,List.cons_append,List.nil_append,c1,c1',c2,c2',c3,c3',d1,d1',d2,d2',d3,d3',e1,e1',e2,e2',e3,e3',e4,e4',hdc,eq_true hll1,TCs,wrap_zip c (done:=cd) (by omega)])|((first|refine c_call (by exact hrc) ?_|refine jp_i (by simp only [List.length_append,List.length_cons,List.length_nil,SLim]<;>omega) ?_);simp only [push_cast,seval,reduceEqDiff,hlt1,hgc,if_pos hcb,List.length_map,List.cons_append,List.nil_append,c1,c1',c2,c2',c3,c3',d1,d1',d2,d2',d3,d3',e1,e1',e2,e2',e3,e3',e4,e4',hdc,eq_true hll1,TCs,wrap_zip c (done:=cd) (by omega)])|intro _)
  exact ⟨_,_,Nat.lt_succ_self _,StLe.refl,cd++[c],cr,_,_,dl++[(c.1,RC)],by rw [hcz];simp,rfl,by rw [<-hdl];simp,by simp [hll],by (try simp only);omega,by (try simp only);omega,rfl⟩
theorem decN0:decN 0=[48]:=by rw [decN_eq];rfl
set_option maxHeartbeats 4000000 in
theorem c_rfilled (l:List Leaf) (hl:l.length<=2^30) (hM:∀pa,(atP l pa).length<=512):∀(N:Nat) (ps:List Part) (pa:Bytes),wtPs ps<N->wtPs ps<=2^21->pa.length+32*wtPs ps<=2^32->
  RetS Tryz.prog W0 76 [.sl (ps.map Part.enc),.sl (l.map leafV),.s pa] [] (.sl ((filL (atP l) ps pa).map Part.enc)) []:=by
 intro N
 induction N with
 | zero=>intro ps pa h;omega
 | succ N ih=>
 intro ps pa hN hw0 hpa
 have hlen:=len_wtPs ps
 have hat0:=c_rAt W0 l (pa++[48]) (by omega)
 have hm0:=hM (pa++[48])
 generalize hS:filL (atP l) ps pa=S
 unfold filL at hS
 rw [decN0] at hS
 generalize atP l (pa++[48])=A0 at *
 have hc0:=celPt A0
 have hll0:A0.length<=LLim:=by unfold LLim;omega
 refine fn_retW (vs:=[.sl (S.map Part.enc)]) f76ok (by simp) (by simp) fun n0 hn0=>?_
 clear hn0
 simp only [push_cast,seval,reduceEqDiff,List.length_map,List.length_nil,Nat.zero_add,eq_true hll0,eq_true hc0,List.nil_append]
 repeat' (first|(((first|apply condU_s|apply gdU_t|apply gdU_f)<;>intro _h)<;>simp only [push_cast,seval,reduceEqDiff,_h,List.length_map,List.length_nil,Nat.zero_add,eq_true hll0,eq_true hc0,List.nil_append])|((first|refine c_call (by exact hat0) ?_|refine jp_i (by simp only [List.length_append,List.length_cons,List.length_nil,SLim]<;>omega) ?_);simp only [push_cast,seval,reduceEqDiff,List.length_map,List.length_nil,Nat.zero_add,eq_true hll0,eq_true hc0,List.nil_append])|intro _)
 refine aWP_loopW ps.length (Inv:=fun m st=>∃done rest n id o,ps=done++rest/\m=rest.length/\o++filR (atP l) rest pa done.length=S/\o.length<=513*(done.length+1)/\id.1<n/\st=⟨[(0,.sl (ps.map Part.enc)),(1,.sl (l.map leafV)),(2,.s pa),(7,.arr id),(8,.i .i64 done.length)],[(id,.arr TPt 6 (o.map Part.enc))],n⟩) ⟨_,StLe.refl,[],ps,_,_,A0,rfl,rfl,hS,by simp;omega,by simp only;omega,rfl⟩ ?_
 clear hS
 rintro m _ ⟨done,rest,n,id,o,hz,rfl,hd,hol,hin,rfl⟩
 cases rest with
 | nil=>
  have hlt0:decide ((done.length:Int)<(ps.length:Int))=false:=by rw [hz];simp
  rw [filR_nil,List.append_nil] at hd
  subst hd
  simp only [push_cast,seval,reduceEqDiff,hlt0,List.length_map]
  intros
  exact finW_frz (e:=TPt) (sz:=6) rfl (okPt _) (by simp [lk])
 | cons p rest=>
  have hbd:=zip_bd hz
  have hwp:=wtPs_mem (ps:=ps) (p:=p) (by rw [hz];simp)
  have hpw:=p.wt_eq
  have hget:(ps.map Part.enc)[done.length]? = some p.enc:=by rw [hz,List.getElem?_map,List.getElem?_append_right (by simp)];simp
  have hlt0:decide ((done.length:Int)<(ps.length:Int))=true:=by rw [hz];simp;omega
  have fxi:∀k j:Nat,((n+1+k,j)=id)=False:=fun k j=>eq_false fun he=>(by have:=congrArg Prod.fst he;(try simp only at this);omega)
  have fxi':∀k j:Nat,(id=(n+1+k,j))=False:=fun k j=>eq_false fun he=>of_eq_false (fxi k j) he.symm
  rw [filR_cons,p.fil_eq] at hd
  have hnum:=c_rnumber W0 (done.length+1) (by omega)
  have hl1:=decN_len20 (done.length+1) (by omega)
  generalize hhere:pa++decN (done.length+1)=here at *
  generalize decN (done.length+1)=DN at *
  have hnum':RetS Tryz.prog W0 119 [.i .i64 ((done++[p]).length:Nat)] [] (.s DN) []:=by rw [List.length_append];exact hnum
  have hih:=ih p.parts (here++[47]) (by omega) (by omega) (by rw [<-hhere];simp only [List.length_append,List.length_cons,List.length_nil];omega)
  have hcall:∀c∈p.cases,RetS Tryz.prog W0 76 [.sl (c.2.map Part.enc),.sl (l.map leafV),.s (here++[47]++c.1++[47])] [] (.sl ((filL (atP l) c.2 (here++[47]++c.1++[47])).map Part.enc)) []:=fun c hc=>by
   have:=wtCs_mem hc
   exact ih c.2 _ (by omega) (by omega) (by rw [<-hhere];simp only [List.length_append,List.length_cons,List.length_nil];omega)
  have hhl:here.length<=2^32:=by rw [<-hhere];simp only [List.length_append];omega
  have hat:=c_rAt W0 l here (by omega)
  have hm1:=hM here
  generalize atP l here=A1 at *
  simp only [push_cast,seval,reduceEqDiff,hlt0,hget,if_pos hbd,wrap_zip p (done:=done) (by omega),fxi,fxi',List.length_map]
  repeat' (first|(((first|apply condU_s|apply gdU_t|apply gdU_f)<;>intro _h)<;>simp only [push_cast,seval,reduceEqDiff,_h,hlt0,hget,if_pos hbd,wrap_zip p (done:=done) (by omega),fxi,fxi',List.length_map])|((first|refine c_call (by exact hnum') ?_|refine jp_i (by simp only [List.length_append,List.length_cons,List.length_nil,SLim]<;>omega) ?_);simp only [push_cast,seval,reduceEqDiff,hlt0,hget,if_pos hbd,wrap_zip p (done:=done) (by omega),fxi,fxi',List.length_map])|intro _)
  ·have hk:=_h
   rw [hk,if_pos rfl] at hd
   rename_i b1 b2 b3 b4 b5
   simp only [hhere]
   generalize filL (atP l) p.parts (here++[47])=R at *
   refine c_call hih ?_
   simp only [push_cast,seval,reduceEqDiff,hhere]
   intro b6 b7
   have hx:id.1<n+1+b1/\n+1+b1<n+1+b1+1+b2+1+b3/\n+1+b1+1+b2+1+b3<n+1+b1+1+b2+1+b3+1+b4+1+b5+1+b6+1+b7:=by omega
   generalize n+1+b1+1+b2+1+b3+1+b4+1+b5+1+b6+1+b7=n2 at *
   generalize n+1+b1+1+b2+1+b3=y0 at *
   generalize n+1+b1=x0 at *
   obtain ⟨hx1,hx2,hx3⟩:=hx
   refine rfil_loop W0 l p here _ _ _ _ x0 y0 R _ (.inl rfl) id _ _ hx1 hx2 hx3 (by omega) hhl hcall _ (fun yid n' g1 g2=>?_)
   have c1:∀j:Nat,((x0,j)=id)=False:=fun j=>eq_false fun he=>(by have:=congrArg Prod.fst he;(try simp only at this);omega)
   have c1':∀j:Nat,(id=(x0,j))=False:=fun j=>eq_false fun he=>of_eq_false (c1 j) he.symm
   have c2:∀j:Nat,((y0,j)=id)=False:=fun j=>eq_false fun he=>(by have:=congrArg Prod.fst he;(try simp only at this);omega)
   have c2':∀j:Nat,(id=(y0,j))=False:=fun j=>eq_false fun he=>of_eq_false (c2 j) he.symm
   have c3:∀j q:Nat,((x0,j)=(y0,q))=False:=fun j q=>eq_false fun he=>(by have:=congrArg Prod.fst he;(try simp only at this);omega)
   have c3':∀j q:Nat,((y0,q)=(x0,j))=False:=fun j q=>eq_false fun he=>of_eq_false (c3 j q) he.symm
   have d1:∀j:Nat,((x0,j)=yid)=False:=fun j=>eq_false fun he=>(by have:=congrArg Prod.fst he;(try simp only at this);omega)
   have d1':∀j:Nat,(yid=(x0,j))=False:=fun j=>eq_false fun he=>of_eq_false (d1 j) he.symm
   have d2:∀j:Nat,((y0,j)=yid)=False:=fun j=>eq_false fun he=>(by have:=congrArg Prod.fst he;(try simp only at this);omega)
   have d2':∀j:Nat,(yid=(y0,j))=False:=fun j=>eq_false fun he=>of_eq_false (d2 j) he.symm
   have d3:(id=yid)=False:=eq_false fun he=>(by have:=congrArg Prod.fst he;(try simp only at this);omega)
   have d3':(yid=id)=False:=eq_false fun he=>of_eq_false (d3) he.symm
   unfold Part.v
   simp only [push_cast,seval,reduceEqDiff,hhere,List.length_map,c1,c1',c2,c2',c3,c3',d1,d1',d2,d2',d3,d3']
   intros
   refine wkW_i (frz_boxM (e:=TCs) (sz:=2) (rid:=(y0,11)) (kid:=yid) (A:=[.i .i64 p.kind,.s [],.s p.name,.s []]) (B:=[.sl ((R).map Part.enc)]) (es:=(filCs (atP l) p.cases here).map Case.enc) (τ:=[((x0,9),.box (.agg [.i .i64 p.kind,.s p.text,.s p.name,.s p.style,.sl (p.cases.map Case.enc),.sl (p.parts.map Part.enc)])),(id,.arr TPt 6 (o.map Part.enc))]) (fun he=>of_eq_false (d2 _) he) (by simp [lk,d2']) (by simp [lk]) (fun i e' h=>?_) (by simp [lk,c3,c2']) (okCe _) (fun s=>.inl rfl) (Nat.le_refl _)) ?_
   ·simp only [lk] at h
    split at h
    ·rename_i he;subst he;cases h
     exact ⟨by simp [lk,d1',c3'],fun h=>of_eq_false (d1 _) h⟩
    ·split at h
     ·rename_i he;subst he;cases h
      exact ⟨by simp [lk,d3',c1,c2],fun h=>of_eq_false d3 h⟩
     ·cases h
   have hps:o.map Part.enc++[.agg [.i .i64 p.kind,.s [],.s p.name,.s [],.sl ((filCs (atP l) p.cases here).map Case.enc),.sl ((R).map Part.enc)]]=(o++[(⟨p.kind,[],p.name,[],filCs (atP l) p.cases here,R⟩:Part)]).map Part.enc:=by simp [Part.enc_eq]
   have hll1:o.length+1<=LLim:=by unfold LLim;omega
   generalize (⟨p.kind,[],p.name,[],filCs (atP l) p.cases here,R⟩:Part)=Y at *
   have hll2:(o++[Y]).length+A1.length<=LLim:=by simp [LLim];omega
   have hca:=celPt A1
   have e1:∀k j:Nat,((n'+1+k,j)=id)=False:=fun k j=>eq_false fun he=>(by have:=congrArg Prod.fst he;(try simp only at this);omega)
   have e1':∀k j:Nat,(id=(n'+1+k,j))=False:=fun k j=>eq_false fun he=>of_eq_false (e1 k j) he.symm
   simp only [push_cast,seval,reduceEqDiff,List.length_map,List.cons_append,List.nil_append,c1,c1',c2,c2',c3,c3',hps,eq_true hll1,eq_true hll2,eq_true hca,e1,e1',<-List.map_append,TPt,wrap_zip p (done:=done) (by omega)]
   repeat' (first|(((first|apply condU_s|apply gdU_t|apply gdU_f)<;>intro _h)<;>simp only [push_cast,seval,reduceEqDiff,_h,List.length_map,List.cons_append,List.nil_append,c1,c1',c2,c2',c3,c3',hps,eq_true hll1,eq_true hll2,eq_true hca,e1,e1',<-List.map_append,TPt,wrap_zip p (done:=done) (by omega)])|((first|refine c_call (by exact hat) ?_|refine jp_i (by simp only [List.length_append,List.length_cons,List.length_nil,SLim]<;>omega) ?_);simp only [push_cast,seval,reduceEqDiff,List.length_map,List.cons_append,List.nil_append,c1,c1',c2,c2',c3,c3',hps,eq_true hll1,eq_true hll2,eq_true hca,e1,e1',<-List.map_append,TPt,wrap_zip p (done:=done) (by omega)])|intro _)
   refine ⟨_,_,Nat.lt_succ_self _,StLe.drop (fun i e h=>lk_app_left (τ:=[_,_]) h) (Nat.le_refl _),done++[p],rest,_,_,o++[Y]++A1,by rw [hz];simp,rfl,by rw [<-hd];simp,?_,?_,rfl⟩
   ·simp only [List.length_append,List.length_cons,List.length_nil];omega
   ·simp only;omega
  ·have hk:=_h
   rw [hk,if_neg (by simp)] at hd
   rename_i b1 b2 b3 b4 b5 b6
   have hx:id.1<n+1+b1/\n+1+b1<n+1+b1+1+b2+1+b3/\n+1+b1+1+b2+1+b3<n+1+b1+1+b2+1+b3+1+b4+1+b5+1+b6:=by omega
   generalize n+1+b1+1+b2+1+b3+1+b4+1+b5+1+b6=n2 at *
   generalize n+1+b1+1+b2+1+b3=y0 at *
   generalize n+1+b1=x0 at *
   obtain ⟨hx1,hx2,hx3⟩:=hx
   simp only [hhere]
   refine rfil_loop W0 l p here _ _ _ _ x0 y0 [] _ (.inr ⟨rfl,rfl⟩) id _ _ hx1 hx2 hx3 (by omega) hhl hcall _ (fun yid n' g1 g2=>?_)
   have c1:∀j:Nat,((x0,j)=id)=False:=fun j=>eq_false fun he=>(by have:=congrArg Prod.fst he;(try simp only at this);omega)
   have c1':∀j:Nat,(id=(x0,j))=False:=fun j=>eq_false fun he=>of_eq_false (c1 j) he.symm
   have c2:∀j:Nat,((y0,j)=id)=False:=fun j=>eq_false fun he=>(by have:=congrArg Prod.fst he;(try simp only at this);omega)
   have c2':∀j:Nat,(id=(y0,j))=False:=fun j=>eq_false fun he=>of_eq_false (c2 j) he.symm
   have c3:∀j q:Nat,((x0,j)=(y0,q))=False:=fun j q=>eq_false fun he=>(by have:=congrArg Prod.fst he;(try simp only at this);omega)
   have c3':∀j q:Nat,((y0,q)=(x0,j))=False:=fun j q=>eq_false fun he=>of_eq_false (c3 j q) he.symm
   have d1:∀j:Nat,((x0,j)=yid)=False:=fun j=>eq_false fun he=>(by have:=congrArg Prod.fst he;(try simp only at this);omega)
   have d1':∀j:Nat,(yid=(x0,j))=False:=fun j=>eq_false fun he=>of_eq_false (d1 j) he.symm
   have d2:∀j:Nat,((y0,j)=yid)=False:=fun j=>eq_false fun he=>(by have:=congrArg Prod.fst he;(try simp only at this);omega)
   have d2':∀j:Nat,(yid=(y0,j))=False:=fun j=>eq_false fun he=>of_eq_false (d2 j) he.symm
   have d3:(id=yid)=False:=eq_false fun he=>(by have:=congrArg Prod.fst he;(try simp only at this);omega)
   have d3':(yid=id)=False:=eq_false fun he=>of_eq_false (d3) he.symm
   unfold Part.v
   simp only [push_cast,seval,reduceEqDiff,hhere,List.length_map,c1,c1',c2,c2',c3,c3',d1,d1',d2,d2',d3,d3']
   intros
   refine wkW_i (frz_boxM (e:=TCs) (sz:=2) (rid:=(y0,11)) (kid:=yid) (A:=[.i .i64 p.kind,.s [],.s p.name,.s []]) (B:=[.sl ((([]:List Part)).map Part.enc)]) (es:=(filCs (atP l) p.cases here).map Case.enc) (τ:=[((x0,9),.box (.agg [.i .i64 p.kind,.s p.text,.s p.name,.s p.style,.sl (p.cases.map Case.enc),.sl (p.parts.map Part.enc)])),(id,.arr TPt 6 (o.map Part.enc))]) (fun he=>of_eq_false (d2 _) he) (by simp [lk,d2']) (by simp [lk]) (fun i e' h=>?_) (by simp [lk,c3,c2']) (okCe _) (fun s=>.inl rfl) (Nat.le_refl _)) ?_
   ·simp only [lk] at h
    split at h
    ·rename_i he;subst he;cases h
     exact ⟨by simp [lk,d1',c3'],fun h=>of_eq_false (d1 _) h⟩
    ·split at h
     ·rename_i he;subst he;cases h
      exact ⟨by simp [lk,d3',c1,c2],fun h=>of_eq_false d3 h⟩
     ·cases h
   have hps:o.map Part.enc++[.agg [.i .i64 p.kind,.s [],.s p.name,.s [],.sl ((filCs (atP l) p.cases here).map Case.enc),.sl []]]=(o++[(⟨p.kind,[],p.name,[],filCs (atP l) p.cases here,[]⟩:Part)]).map Part.enc:=by simp [Part.enc_eq]
   have hll1:o.length+1<=LLim:=by unfold LLim;omega
   generalize (⟨p.kind,[],p.name,[],filCs (atP l) p.cases here,[]⟩:Part)=Y at *
   have hll2:(o++[Y]).length+A1.length<=LLim:=by simp [LLim];omega
   have hca:=celPt A1
   have e1:∀k j:Nat,((n'+1+k,j)=id)=False:=fun k j=>eq_false fun he=>(by have:=congrArg Prod.fst he;(try simp only at this);omega)
   have e1':∀k j:Nat,(id=(n'+1+k,j))=False:=fun k j=>eq_false fun he=>of_eq_false (e1 k j) he.symm
   simp only [push_cast,seval,reduceEqDiff,List.length_map,List.cons_append,List.nil_append,c1,c1',c2,c2',c3,c3',hps,eq_true hll1,eq_true hll2,eq_true hca,e1,e1',<-List.map_append,TPt,wrap_zip p (done:=done) (by omega)]
   repeat' (first|(((first|apply condU_s|apply gdU_t|apply gdU_f)<;>intro _h)<;>simp only [push_cast,seval,reduceEqDiff,_h,List.length_map,List.cons_append,List.nil_append,c1,c1',c2,c2',c3,c3',hps,eq_true hll1,eq_true hll2,eq_true hca,e1,e1',<-List.map_append,TPt,wrap_zip p (done:=done) (by omega)])|((first|refine c_call (by exact hat) ?_|refine jp_i (by simp only [List.length_append,List.length_cons,List.length_nil,SLim]<;>omega) ?_);simp only [push_cast,seval,reduceEqDiff,List.length_map,List.cons_append,List.nil_append,c1,c1',c2,c2',c3,c3',hps,eq_true hll1,eq_true hll2,eq_true hca,e1,e1',<-List.map_append,TPt,wrap_zip p (done:=done) (by omega)])|intro _)
   refine ⟨_,_,Nat.lt_succ_self _,StLe.drop (fun i e h=>lk_app_left (τ:=[_,_]) h) (Nat.le_refl _),done++[p],rest,_,_,o++[Y]++A1,by rw [hz];simp,rfl,by rw [<-hd];simp,?_,?_,rfl⟩
   ·simp only [List.length_append,List.length_cons,List.length_nil];omega
   ·simp only;omega
theorem lvs_wt (ps:List Part):∀pa n run,∀x∈lvsPs ps pa n run,wtPs x.2<=wtPs run+wtPs ps:=by
 refine tree_Q (P:=fun p=>∀pa,∀x∈p.lvs pa,wtPs x.2<=p.wt) (Q:=fun ps=>∀pa n run,∀x∈lvsPs ps pa n run,wtPs x.2<=wtPs run+wtPs ps) (R:=fun cs=>∀pa,∀x∈lvsCs cs pa,wtPs x.2<=wtCs cs) ?_ ?_ ?_ ?_ ?_ ps
 ·intro p hr hq pa x hx
  rw [p.lvs_eq] at hx
  rw [p.wt_eq]
  split at hx
  ·have:=hr _ x hx;omega
  ·have:=hq _ _ _ x hx;rw [wtPs_nil] at this;omega
 ·intro pa n run x hx
  rw [lvsPs_nil,List.mem_singleton] at hx
  subst hx;simp only;omega
 ·intro p ps hp hq pa n run x hx
  rw [lvsPs_cons] at hx
  rw [wtPs_cons]
  split at hx
  ·have:=hq _ _ _ x hx;rw [wtPs_app,wtPs_cons,wtPs_nil] at this;omega
  ·rcases List.mem_cons.1 hx with rfl|hx
   ·simp only;omega
   ·rcases List.mem_append.1 hx with hx|hx
    ·have:=hp _ x hx;omega
    ·have:=hq _ _ _ x hx;rw [wtPs_nil] at this;omega
 ·intro pa x hx;simp [lvsCs] at hx
 ·intro c cs hq hr pa x hx
  rw [lvsCs_cons] at hx
  rw [wtCs_cons]
  rcases List.mem_append.1 hx with hx|hx
  ·have:=hq _ _ _ x hx;rw [wtPs_nil] at this;omega
  ·have:=hr _ x hx;omega
theorem lvs_sub (ps:List Part) {x:Leaf} (h:x∈lvsPs ps [] 0 []):wtPs x.2<=wtPs ps:=by
 have:=lvs_wt ps [] 0 [] x h
 rw [wtPs_nil] at this;omega
theorem len_size (ps:List Part):ps.length<=sizePs ps:=by
 induction ps with
 | nil=>simp
 | cons p ps ih=>rw [sizePs_cons,p.size_eq,List.length_cons];omega
theorem efLeaf:okFn Tryz.prog 70 32 (gEF_0 68 2 (.agg [.s [],.nil])) gEFR=true:=by kernel_rfl
theorem c_pathEq (x y:Leaf):RetS Tryz.prog W0 71 [leafV x,leafV y] [] (.b (x.1 == y.1)) []:=by
 rw [leafV_eq,leafV_eq]
 refine fn_retW (vs:=[.b (x.1 == y.1)]) f71ok (by simp) (by simp) fun n0 hn0=>?_
 clear hn0
 simp only [push_cast,seval,reduceEqDiff]
 repeat' (first|(((first|apply condU_s|apply gdU_t|apply gdU_f)<;>intro _h)<;>simp only [push_cast,seval,reduceEqDiff,_h])|intro _)
 all_goals (first|(refine finW_ret ?_;simp [get]<;>(intros;omega);done)|(refine finW_rets ?_;simp [push_cast,get];done)|skip)
theorem c_eqPa (a b:List Leaf) (ha:a.length<=2^40):RetS Tryz.prog W0 70 [.sl (a.map leafV),.sl (b.map leafV),.fn 71 [] []] [] (.b (eqPa a b)) []:=
 equalFunc_ret W0 efLeaf leafV _ _ _ _ _ _ _ ⟨rfl,rfl⟩ (fun x=>⟨rfl,rfl,rfl,rfl⟩) (fun x _ y _=>c_pathEq W0 x y) (by omega)
theorem c_sameLeaf (x y:Leaf) (hw:wtPs x.2<=2^24):RetS Tryz.prog W0 73 [leafV x,leafV y] [] (.b (x.1 == y.1&&eqPs x.2 y.2)) []:=by
 have he:=c_sEqual W0 _ x.2 y.2 (Nat.lt_succ_self _) hw
 rw [leafV_eq,leafV_eq]
 generalize eqPs x.2 y.2=E at *
 refine fn_retW (vs:=[.b (x.1 == y.1&&E)]) f73ok (by simp) (by simp) fun n0 hn0=>?_
 clear hn0
 simp only [push_cast,seval,reduceEqDiff]
 repeat' (first|(((first|apply condU_s|apply gdU_t|apply gdU_f)<;>intro _h)<;>simp only [push_cast,seval,reduceEqDiff,_h])|(refine c_call (by exact he) ?_;simp only [push_cast,seval,reduceEqDiff])|intro _)
 all_goals (first|(refine finW_ret ?_;simp [get, *]<;>(intros;omega);done)|(refine finW_rets ?_;simp [push_cast,get, *];done)|skip)
theorem c_eqLf (a b:List Leaf) (ha:a.length<=2^40) (hw:∀x∈a,wtPs x.2<=2^24):RetS Tryz.prog W0 70 [.sl (a.map leafV),.sl (b.map leafV),.fn 73 [] []] [] (.b (eqLf a b)) []:=
 equalFunc_ret W0 efLeaf leafV _ _ _ _ _ _ _ ⟨rfl,rfl⟩ (fun x=>⟨rfl,rfl,rfl,rfl⟩) (fun x hx y _=>c_sameLeaf W0 x y (hw x hx)) (by omega)
set_option maxHeartbeats 4000000 in
theorem c_sameLeaves (a b:List Leaf) (ha:a.length<=2^40) (hb:b.length<=2^40) (hw:∀x∈a,wtPs x.2<=2^24):RetS Tryz.prog W0 34 [.sl (a.map leafV),.sl (b.map leafV)] [] (.b (eqLf a b)) []:=by
 generalize hS:eqLf a b=S
 unfold eqLf at hS
 by_cases hlen:a.length=b.length
 ·have hne:((a.length:Int) != (b.length:Int))=false:=by simp [hlen]
  refine fn_retW (vs:=[.b S]) f34ok (by simp) (by simp) fun n0 hn0=>?_
  clear hn0
  simp only [push_cast,seval,reduceEqDiff,List.length_map,hne]
  intros
  refine aWP_loopW a.length (Inv:=fun m st=>∃da ra db rb n,a=da++ra/\b=db++rb/\db.length=da.length/\m=ra.length/\eqBy (fun x y:Leaf=>x.1 == y.1&&eqPs x.2 y.2) ra rb=S/\st=⟨[(0,.sl (a.map leafV)),(1,.sl (b.map leafV)),(5,.i .i64 da.length)],[],n⟩) ⟨_,StLe.refl,[],a,[],b,_,rfl,rfl,rfl,rfl,hS,rfl⟩ ?_
  clear hS
  rintro m _ ⟨da,ra,db,rb,n,hza,hzb,hdl,rfl,hd,rfl⟩
  have hrl:ra.length=rb.length:=by
   have h1:=congrArg List.length hza
   have h2:=congrArg List.length hzb
   simp only [List.length_append] at h1 h2;omega
  cases ra with
  | nil=>
   have hlt0:decide ((da.length:Int)<(a.length:Int))=false:=by rw [hza];simp
   have:rb=[]:=by simpa using hrl.symm
   subst this
   simp only [eqBy] at hd
   subst hd
   simp only [push_cast,seval,reduceEqDiff,hlt0,List.length_map]
   intros
   exact finW_ret (by simp [get])
  | cons x ra=>
   obtain ⟨y,rb,rfl⟩:∃y r,rb=y::r:=by
    cases rb with
    | nil=>simp at hrl
    | cons y r=>exact ⟨y,r,rfl⟩
   have hlt0:decide ((da.length:Int)<(a.length:Int))=true:=by rw [hza];simp;omega
   have hba:=zip_bd hza
   have hbb:da.length<b.length:=by omega
   have hga:(a.map leafV)[da.length]? = some (.agg [.s x.1,.sl (x.2.map Part.enc)]):=by rw [hza,List.getElem?_map,List.getElem?_append_right (by simp)];simp [leafV]
   have hgb:(b.map leafV)[da.length]? = some (.agg [.s y.1,.sl (y.2.map Part.enc)]):=by rw [hzb,List.getElem?_map,<-hdl,List.getElem?_append_right (by simp)];simp [leafV]
   have he:=c_rEqual W0 _ x.2 y.2 (Nat.lt_succ_self _) (hw x (by rw [hza];simp))
   simp only [eqBy] at hd
   generalize eqPs x.2 y.2=E at *
   generalize hB:(x.1 == y.1)=B at *
   cases B
   ·simp only [bq,if_true,if_false,Int.reduceBEq,reduceCtorEq] at hd
    subst hd
    simp only [push_cast,seval,reduceEqDiff,hlt0,hga,hgb,hB,if_pos hba,if_pos hbb,List.length_map,wrap_zip x (done:=da) (by omega)]
    repeat' (first|(((first|apply condU_s|apply gdU_t|apply gdU_f)<;>intro _h)<;>simp only [push_cast,seval,reduceEqDiff,_h,hlt0,hga,hgb,hB,if_pos hba,if_pos hbb,List.length_map,wrap_zip x (done:=da) (by omega)])|(refine c_call (by exact he) ?_;simp only [push_cast,seval,reduceEqDiff,hlt0,hga,hgb,hB,if_pos hba,if_pos hbb,List.length_map,wrap_zip x (done:=da) (by omega)])|intro _)
    exact finW_ret (by simp [get])
   cases E
   ·simp only [bq,if_true,if_false,Int.reduceBEq,reduceCtorEq] at hd
    subst hd
    simp only [push_cast,seval,reduceEqDiff,hlt0,hga,hgb,hB,if_pos hba,if_pos hbb,List.length_map,wrap_zip x (done:=da) (by omega)]
    repeat' (first|(((first|apply condU_s|apply gdU_t|apply gdU_f)<;>intro _h)<;>simp only [push_cast,seval,reduceEqDiff,_h,hlt0,hga,hgb,hB,if_pos hba,if_pos hbb,List.length_map,wrap_zip x (done:=da) (by omega)])|(refine c_call (by exact he) ?_;simp only [push_cast,seval,reduceEqDiff,hlt0,hga,hgb,hB,if_pos hba,if_pos hbb,List.length_map,wrap_zip x (done:=da) (by omega)])|intro _)
    exact finW_ret (by simp [get])
   ·simp only [bq,if_true,if_false,Int.reduceBEq,reduceCtorEq] at hd
    simp only [push_cast,seval,reduceEqDiff,hlt0,hga,hgb,hB,if_pos hba,if_pos hbb,List.length_map,wrap_zip x (done:=da) (by omega)]
    repeat' (first|(((first|apply condU_s|apply gdU_t|apply gdU_f)<;>intro _h)<;>simp only [push_cast,seval,reduceEqDiff,_h,hlt0,hga,hgb,hB,if_pos hba,if_pos hbb,List.length_map,wrap_zip x (done:=da) (by omega)])|(refine c_call (by exact he) ?_;simp only [push_cast,seval,reduceEqDiff,hlt0,hga,hgb,hB,if_pos hba,if_pos hbb,List.length_map,wrap_zip x (done:=da) (by omega)])|intro _)
    exact ⟨_,_,Nat.lt_succ_self _,StLe.refl,da++[x],ra,db++[y],rb,_,by rw [hza];simp,by rw [hzb];simp,by simp [hdl],rfl,hd,rfl⟩
 ·have hne:((a.length:Int) != (b.length:Int))=true:=by simp;omega
  rw [eqBy_len hlen] at hS
  subst hS
  refine fn_retW (vs:=[.b false]) f34ok (by simp) (by simp) fun n0 hn0=>?_
  clear hn0
  simp only [push_cast,seval,reduceEqDiff,List.length_map,hne]
  intros
  exact finW_ret (by simp [get])
set_option maxHeartbeats 4000000 in
theorem c_own (l:List Leaf) (hl:l.length<=2^30):RetS Tryz.prog W0 26 [.sl (l.map leafV)] [] (.sl (l.map leafV)) []:=by
 refine fn_retW (vs:=[.sl (l.map leafV)]) f26ok (by simp) (by simp) fun n0 hn0=>?_
 clear hn0
 simp only [push_cast,seval,reduceEqDiff]
 intro k1 k2 k3
 refine aWP_loopW l.length (Inv:=fun m st=>∃done rest n id,l=done++rest/\m=rest.length/\id.1<n/\st=⟨[(0,.sl (l.map leafV)),(3,.arr id),(4,.i .i64 done.length)],[(id,.arr TL 2 (done.map leafV))],n⟩) ⟨_,(StLe.own (s:=3) (e:=TL) (sz:=2) (k:=99) rfl).trans (StLe.envD (fun t=>?_) (Nat.le_refl _)),[],l,_,_,rfl,rfl,?_,rfl⟩ ?_
 ·left
  by_cases h3:3=t
  ·subst h3;rfl
  ·simp [get,h3]
 ·simp
 rintro m _ ⟨done,rest,n,id,hz,rfl,hin,rfl⟩
 cases rest with
 | nil=>
  simp only [List.append_nil] at hz
  subst hz
  simp only [push_cast,seval,reduceEqDiff]
  intros
  exact finW_frz (e:=TL) (sz:=2) rfl (okLf _) (by simp [lk])
 | cons x rest=>
  have hlt0:decide ((done.length:Int)<(l.length:Int))=true:=by rw [hz];simp;omega
  have hbd:=zip_bd hz
  have hget:(l.map leafV)[done.length]? = some (leafV x):=by rw [hz,List.getElem?_map,List.getElem?_append_right (by simp)];simp
  have hps:done.map leafV++[.agg [.s x.1,.sl (x.2.map Part.enc)]]=(done++[x]).map leafV:=by simp [leafV]
  have hll:done.length+1<=LLim:=by unfold LLim;omega
  have f1:∀k j:Nat,((n+1+k,j)=id)=False:=fun k j=>eq_false fun he=>(by have:=congrArg Prod.fst he;(try simp only at this);omega)
  have f1':∀k j:Nat,(id=(n+1+k,j))=False:=fun k j=>eq_false fun he=>of_eq_false (f1 k j) he.symm
  simp only [push_cast,seval,reduceEqDiff,hlt0,hget,if_pos hbd,leafV_eq x,List.length_map,f1,f1',hps,eq_true hll,TL,wrap_zip x (done:=done) (by omega)]
  intros
  exact ⟨_,_,Nat.lt_succ_self _,StLe.refl,done++[x],rest,_,_,by rw [hz];simp,rfl,by (try simp only);omega,rfl⟩
def fewLf:List Leaf->Int->Bool
 | [],n=>decide (n<=300)
 | x::r,n=>!(decide ((x.1.length:Int)>200)||!fewPs x.2)&&fewLf r (IntKind.i64.wrap (n+IntKind.i64.wrap (1+(sizePs x.2:Int))))
set_option maxHeartbeats 4000000 in
theorem c_fewLeaves (l:List Leaf) (hl:l.length<=2^30) (hw:∀x∈l,wtPs x.2<=2^24):RetS Tryz.prog W0 24 [.sl (l.map leafV)] [] (.b (fewLf l 0)) []:=by
 generalize hS:fewLf l 0=S
 refine fn_retW (vs:=[.b S]) f24ok (by simp) (by simp) fun n0 hn0=>?_
 clear hn0
 simp only [push_cast,seval,reduceEqDiff]
 intros
 refine aWP_loopW l.length (Inv:=fun m st=>∃done rest n a,l=done++rest/\m=rest.length/\fewLf rest a=S/\st=⟨[(0,.sl (l.map leafV)),(3,.i .i64 a),(4,.i .i64 done.length)],[],n⟩) ⟨_,StLe.refl,[],l,_,0,rfl,rfl,hS,rfl⟩ ?_
 clear hS
 rintro m _ ⟨done,rest,n,a,hz,rfl,hd,rfl⟩
 cases rest with
 | nil=>
  have hlt0:decide ((done.length:Int)<(l.length:Int))=false:=by rw [hz];simp
  rw [fewLf] at hd
  subst hd
  simp only [push_cast,seval,reduceEqDiff,hlt0,List.length_map]
  intros
  exact finW_ret (by simp [get])
 | cons x rest=>
  have hlt0:decide ((done.length:Int)<(l.length:Int))=true:=by rw [hz];simp;omega
  have hbd:=zip_bd hz
  have hget:(l.map leafV)[done.length]? = some (.agg [.s x.1,.sl (x.2.map Part.enc)]):=by rw [hz,List.getElem?_map,List.getElem?_append_right (by simp)];simp [leafV]
  have hwx:=hw x (by rw [hz];simp)
  have hfe:=c_few W0 x.2 hwx
  have hsz:=c_size W0 _ x.2 (Nat.lt_succ_self _) hwx
  rw [fewLf] at hd
  generalize hB:decide ((x.1.length:Int)>200)=B at *
  generalize fewPs x.2=F at *
  cases B
  ·cases F
   ·simp only [bq,if_true,if_false,Int.reduceBEq,reduceCtorEq] at hd
    subst hd
    simp only [push_cast,seval,reduceEqDiff,hlt0,hget,hB,if_pos hbd,List.length_map,wrap_zip x (done:=done) (by omega)]
    repeat' (first|(((first|apply condU_s|apply gdU_t|apply gdU_f)<;>intro _h)<;>simp only [push_cast,seval,reduceEqDiff,_h,hlt0,hget,hB,if_pos hbd,List.length_map,wrap_zip x (done:=done) (by omega)])|(refine c_call (by exact hfe) ?_;simp only [push_cast,seval,reduceEqDiff,hlt0,hget,hB,if_pos hbd,List.length_map,wrap_zip x (done:=done) (by omega)])|intro _)
    exact finW_ret (by simp [get])
   ·simp only [bq,if_true,if_false,Int.reduceBEq,reduceCtorEq] at hd
    simp only [push_cast,seval,reduceEqDiff,hlt0,hget,hB,if_pos hbd,List.length_map,wrap_zip x (done:=done) (by omega)]
    repeat' (first|(((first|apply condU_s|apply gdU_t|apply gdU_f)<;>intro _h)<;>simp only [push_cast,seval,reduceEqDiff,_h,hlt0,hget,hB,if_pos hbd,List.length_map,wrap_zip x (done:=done) (by omega)])|((first|refine c_call (by exact hfe) ?_|refine c_call (by exact hsz) ?_);simp only [push_cast,seval,reduceEqDiff,hlt0,hget,hB,if_pos hbd,List.length_map,wrap_zip x (done:=done) (by omega)])|intro _)
    exact ⟨_,_,Nat.lt_succ_self _,StLe.refl,done++[x],rest,_,_,by rw [hz];simp,rfl,hd,rfl⟩
  ·simp only [bq,if_true,if_false,Int.reduceBEq,reduceCtorEq] at hd
   subst hd
   simp only [push_cast,seval,reduceEqDiff,hlt0,hget,hB,if_pos hbd,List.length_map,wrap_zip x (done:=done) (by omega)]
   repeat' (first|(((first|apply condU_s|apply gdU_t|apply gdU_f)<;>intro _h)<;>simp only [push_cast,seval,reduceEqDiff,_h,hlt0,hget,hB,if_pos hbd,List.length_map,wrap_zip x (done:=done) (by omega)])|(refine c_call (by exact hfe) ?_;simp only [push_cast,seval,reduceEqDiff,hlt0,hget,hB,if_pos hbd,List.length_map,wrap_zip x (done:=done) (by omega)])|intro _)
   exact finW_ret (by simp [get])
theorem few_atP {l:List Leaf}:∀{n:Int},fewLf l n=true->∀pa,(atP l pa).length<=512:=by
 induction l with
 | nil=>intro n _ pa;simp [atP]
 | cons x l ih=>
  intro n h pa
  rw [fewLf,Bool.and_eq_true] at h
  have hf:fewPs x.2=true:=by
   have:=h.1
   cases hh:fewPs x.2 with
   | true=>rfl
   | false=>rw [hh] at this;simp at this
  rw [atP]
  split
  ·unfold fewPs at hf
   simp only [Bool.and_eq_true,decide_eq_true_eq] at hf
   have:=len_size x.2
   omega
  ·exact ih h.2 pa
theorem wtLf_mem {L:Left} {x:List Part} (h:x∈L):wtPs x<=wtLf L:=by
 induction L with
 | nil=>cases h
 | cons y L ih=>
  rw [wtLf_cons]
  rcases List.mem_cons.1 h with rfl|h
  ·omega
  ·have:=ih h;omega
theorem finW_nil2 {W0:World} {nt n:Nat} {env:Env} {σ:Sto} {e:V} (h4:get env 4 = .nil) (h5:get env 5=e):FinW W0 nt [.t 4,.t 5] [.sl [],e] [] .ret ⟨env,σ,n⟩:=by
 refine ⟨⟨[(4,.sl []),(5,e)],[],n⟩,StLe.weak (fun _=>none) (fun _ _ h=>by cases h) (fun t=>?_) (fun i e' h=>by cases h) (Nat.le_refl _),⟨by simp [ResOk,get],by simp [ResOk,get],trivial⟩,fun _ _ h=>by cases h⟩
 by_cases h:4=t
 ·subst h;rw [h4];simp only [get,if_true];exact .nil
 ·by_cases h':5=t
  ·subst h';rw [h5];simp only [get,if_true,if_neg h];exact .refl _
  ·simp only [get,if_neg h,if_neg h'];exact .any _
theorem c_leavesS (hT:PowTab W0) (ps:List Part) (hw:wtPs ps<=2^24):RetS Tryz.prog W0 69 [.nil,.sl (ps.map Part.enc),.s []] [] (.sl ((lvsPs ps [] 0 []).map leafV)) []:=by
 have h:=retN_nil (e:=TL) (sz:=2) (fun id=>c_leavesA W0 (2^24) (fun i hi=>c_itoaG W0 hT i (by omega)) _ ps [] [] id (Nat.lt_succ_self _) hw hw (by simp;omega) (by simp;omega))
 rw [List.nil_append] at h
 exact retS_of_retN h (okLf _)
set_option maxHeartbeats 4000000 in
theorem c_sBuild (hT:PowTab W0) (ps:List Part) (l:List Leaf) (hw:wtPs ps<=2^20) (hl:wtLf (l.map Prod.snd)<=2^20):RetS Tryz.prog W0 25 [.sl (ps.map Part.enc),.sl (l.map leafV)] [] (.tup [.sl ((bldV ps l).map Part.enc),.i .i64 (bldE ps l)]) []:=by
 have hva:=c_Valid W0 ps (by omega)
 have hsh:=c_shape W0 _ ps (Nat.lt_succ_self _) (by omega)
 have heq:=c_sEqual W0 _ (shpPs ps) ps (Nat.lt_succ_self _) (by have:=wt_shp ps;omega)
 have hle:=c_leavesS W0 hT ps (by omega)
 have hlen:=lvsPs_len ps [] 0 []
 have hep:=c_eqPa W0 (lvsPs ps [] 0 []) l (by omega)
 unfold bldV bldE bldB bldOk1
 cases h1:validP ps with
 | false=>
  rw [h1] at hva
  simp only [bq,if_true,if_false,Int.reduceBEq,reduceCtorEq]
  refine fn_retW (vs:=[.sl [],.i .i64 1]) f25ok (by simp) (by simp) fun n0 hn0=>?_
  clear hn0
  simp only [push_cast,seval,reduceEqDiff]
  repeat' (first|(((first|apply condU_s|apply gdU_t|apply gdU_f)<;>intro _h)<;>simp only [push_cast,seval,reduceEqDiff,_h])|(refine c_call (by exact hva) ?_;simp only [push_cast,seval,reduceEqDiff])|intro _)
  exact finW_nil2 rfl rfl
 | true=>
 rw [h1] at hva
 cases h2:eqPs (shpPs ps) ps with
 | false=>
  rw [h2] at heq
  simp only [bq,if_true,if_false,Int.reduceBEq,reduceCtorEq]
  refine fn_retW (vs:=[.sl [],.i .i64 1]) f25ok (by simp) (by simp) fun n0 hn0=>?_
  clear hn0
  simp only [push_cast,seval,reduceEqDiff]
  repeat' (first|(((first|apply condU_s|apply gdU_t|apply gdU_f)<;>intro _h)<;>simp only [push_cast,seval,reduceEqDiff,_h])|((first|refine c_call (by exact hva) ?_|refine c_call (by exact hsh) ?_|refine c_call (by exact heq) ?_);simp only [push_cast,seval,reduceEqDiff])|intro _)
  exact finW_nil2 rfl rfl
 | true=>
 rw [h2] at heq
 cases h3:eqPa (lvsPs ps [] 0 []) l with
 | false=>
  rw [h3] at hep
  simp only [bq,if_true,if_false,Int.reduceBEq,reduceCtorEq]
  refine fn_retW (vs:=[.sl [],.i .i64 1]) f25ok (by simp) (by simp) fun n0 hn0=>?_
  clear hn0
  simp only [push_cast,seval,reduceEqDiff]
  repeat' (first|(((first|apply condU_s|apply gdU_t|apply gdU_f)<;>intro _h)<;>simp only [push_cast,seval,reduceEqDiff,_h])|((first|refine c_call (by exact hva) ?_|refine c_call (by exact hsh) ?_|refine c_call (by exact heq) ?_|refine c_call (by exact hle) ?_);simp only [push_cast,seval,reduceEqDiff])|intro _)
  refine c_callsq hep ?_
  simp only [push_cast,seval,reduceEqDiff]
  intros
  exact finW_nil2 rfl rfl
 | true=>
 rw [h3] at hep
 simp only [bq,if_true,if_false,Int.reduceBEq,reduceCtorEq]
 have hfix:=(eqPs_iff _ _).1 h2
 have hcnt:cntL ps<=l.length:=by
  have:=congrArg List.length ((eqPa_iff _ _).1 h3)
  rw [List.length_map,List.length_map,cnt_lvs ps hfix] at this
  omega
 have hbw:=bld_wt ps (l.map Prod.snd)
 have hbu:=fun bid=>c_build W0 bid _ ps l (Nat.lt_succ_self _) (by omega) hcnt
 unfold bldOk2
 unfold bldOut
 generalize (bldL ps (l.map Prod.snd)).1=O at *
 have hwO:wtPs O<=2^22:=by omega
 have hva2:=c_Valid W0 O (by omega)
 have hsh2:=c_shape W0 _ O (Nat.lt_succ_self _) (by omega)
 have heq2:=c_sEqual W0 _ (shpPs O) ps (Nat.lt_succ_self _) (by have:=wt_shp O;omega)
 have hle2:=c_leavesS W0 hT O (by omega)
 have hlen2:=lvsPs_len O [] 0 []
 have hep2:=c_eqLf W0 (lvsPs O [] 0 []) l (by omega) (fun x hx=>by have:=lvs_sub O hx;omega)
 generalize eqLf (lvsPs O [] 0 []) l=E3 at *
 generalize eqPs (shpPs O) ps=E2 at *
 generalize validP O=E1 at *
 generalize hR:l.drop (cntL ps)=LR at *
 generalize hS:(if (E1&&(E2&&E3))=true then O else [])=S
 generalize hE:(if (E1&&(E2&&E3))=true then (0:Int) else 1)=E
 refine fn_retW (vs:=[.sl (S.map Part.enc),.i .i64 E]) f25ok (by simp) (by simp) fun n0 hn0=>?_
 clear hn0
 simp only [push_cast,seval,reduceEqDiff]
 repeat' (first|(((first|apply condU_s|apply gdU_t|apply gdU_f)<;>intro _h)<;>simp only [push_cast,seval,reduceEqDiff,_h])|((first|refine c_call (by exact hva) ?_|refine c_call (by exact hsh) ?_|refine c_call (by exact heq) ?_|refine c_call (by exact hle) ?_);simp only [push_cast,seval,reduceEqDiff])|intro _)
 refine c_callsq hep ?_
 unfold bx at hbu
 simp only [push_cast,seval,reduceEqDiff]
 intros
 refine c_calls (hbu _) (fun i e h=>h) ?_
 rw [over_one (fun p hp=>by cases hp)]
 simp only [List.append_nil]
 cases E1
 ·simp only [bq,if_true,if_false,Int.reduceBEq,reduceCtorEq] at hS hE
  subst hS hE
  simp only [push_cast,seval,reduceEqDiff]
  repeat' (first|(((first|apply condU_s|apply gdU_t|apply gdU_f)<;>intro _h)<;>simp only [push_cast,seval,reduceEqDiff,_h])|(refine c_call (by exact hva2) ?_;simp only [push_cast,seval,reduceEqDiff])|intro _)
  exact finW_nil2 rfl rfl
 cases E2
 ·simp only [bq,if_true,if_false,Int.reduceBEq,reduceCtorEq] at hS hE
  subst hS hE
  simp only [push_cast,seval,reduceEqDiff]
  repeat' (first|(((first|apply condU_s|apply gdU_t|apply gdU_f)<;>intro _h)<;>simp only [push_cast,seval,reduceEqDiff,_h])|((first|refine c_call (by exact hva2) ?_|refine c_call (by exact hsh2) ?_|refine c_call (by exact heq2) ?_);simp only [push_cast,seval,reduceEqDiff])|intro _)
  exact finW_nil2 rfl rfl
 simp only [push_cast,seval,reduceEqDiff]
 repeat' (first|(((first|apply condU_s|apply gdU_t|apply gdU_f)<;>intro _h)<;>simp only [push_cast,seval,reduceEqDiff,_h])|((first|refine c_call (by exact hva2) ?_|refine c_call (by exact hsh2) ?_|refine c_call (by exact heq2) ?_|refine c_call (by exact hle2) ?_);simp only [push_cast,seval,reduceEqDiff])|intro _)
 refine c_callsq hep2 ?_
 cases E3
 ·simp only [bq,if_true,if_false,Int.reduceBEq,reduceCtorEq] at hS hE
  subst hS hE
  simp only [push_cast,seval,reduceEqDiff]
  intros
  exact finW_nil2 rfl rfl
 ·simp only [bq,if_true,if_false,Int.reduceBEq,reduceCtorEq] at hS hE
  subst hS hE
  simp only [push_cast,seval,reduceEqDiff]
  intros
  refine finW_rets ?_
  simp [push_cast,get]
set_option maxHeartbeats 4000000 in
theorem c_rBuild (ps:List Part) (l:List Leaf) (hw:wtPs ps<=2^20) (hll:l.length<=2^22) (hl:wtLf (l.map Prod.snd)<=2^20) (hM:∀pa,(atP l pa).length<=512):RetS Tryz.prog W0 27 [.sl (ps.map Part.enc),.sl (l.map leafV)] [] (.tup [.sl ((bldV ps l).map Part.enc),.i .i64 (bldE ps l)]) []:=by
 have hva:=c_rValid W0 ps (by omega)
 have hsh:=c_rshape W0 _ ps (Nat.lt_succ_self _) (by omega)
 have hle:=c_rleaves W0 _ ps [] (Nat.lt_succ_self _) (by omega) (by simp;omega)
 unfold bldV bldE bldB bldOk1
 rw [valid_same]
 cases h1:validB ps with
 | false=>
  rw [h1] at hva
  simp only [bq,if_true,if_false,Int.reduceBEq,reduceCtorEq]
  refine fn_retW (vs:=[.sl [],.i .i64 1]) f27ok (by simp) (by simp) fun n0 hn0=>?_
  clear hn0
  simp only [push_cast,seval,reduceEqDiff]
  repeat' (first|(((first|apply condU_s|apply gdU_t|apply gdU_f)<;>intro _h)<;>simp only [push_cast,seval,reduceEqDiff,_h])|(refine c_call (by exact hva) ?_;simp only [push_cast,seval,reduceEqDiff])|intro _)
  exact finW_nil2 rfl rfl
 | true=>
 rw [h1] at hva
 rw [shp_same ps (valid_wf h1) (valid_wfk h1)] at hsh
 rw [lvs_same ps (valid_wf h1) (valid_wfk h1)] at hle
 have heq:=c_rEqual W0 _ (shpPs ps) ps (Nat.lt_succ_self _) (by have:=wt_shp ps;omega)
 cases h2:eqPs (shpPs ps) ps with
 | false=>
  rw [h2] at heq
  simp only [bq,if_true,if_false,Int.reduceBEq,reduceCtorEq]
  refine fn_retW (vs:=[.sl [],.i .i64 1]) f27ok (by simp) (by simp) fun n0 hn0=>?_
  clear hn0
  simp only [push_cast,seval,reduceEqDiff]
  repeat' (first|(((first|apply condU_s|apply gdU_t|apply gdU_f)<;>intro _h)<;>simp only [push_cast,seval,reduceEqDiff,_h])|((first|refine c_call (by exact hva) ?_|refine c_call (by exact hsh) ?_|refine c_call (by exact heq) ?_);simp only [push_cast,seval,reduceEqDiff])|intro _)
  exact finW_nil2 rfl rfl
 | true=>
 rw [h2] at heq
 have hfix:=(eqPs_iff _ _).1 h2
 have hfil:=c_rfilled W0 l (by omega) hM _ ps [] (Nat.lt_succ_self _) (by omega) (by simp;omega)
 have hlen:=lvsPs_len ps [] 0 []
 have hout:=fun h3=>fil_same h1 hfix l h3
 generalize hW:lvsPs ps [] 0 []=W at *
 by_cases hln:W.length=l.length
 rotate_left
 ·have hne:((W.length:Int) != (l.length:Int))=true:=by simp;omega
  have h3:eqPa W l=false:=by unfold eqPa;exact eqBy_len hln
  simp only [h3,bq,if_true,if_false,Int.reduceBEq,reduceCtorEq]
  refine fn_retW (vs:=[.sl [],.i .i64 1]) f27ok (by simp) (by simp) fun n0 hn0=>?_
  clear hn0
  simp only [push_cast,seval,reduceEqDiff,List.length_map,hne]
  repeat' (first|(((first|apply condU_s|apply gdU_t|apply gdU_f)<;>intro _h)<;>simp only [push_cast,seval,reduceEqDiff,_h,List.length_map,hne])|((first|refine c_call (by exact hva) ?_|refine c_call (by exact hsh) ?_|refine c_call (by exact heq) ?_|refine c_call (by exact hle) ?_);simp only [push_cast,seval,reduceEqDiff,List.length_map,hne])|intro _)
  exact finW_nil2 rfl rfl
 have hne:((W.length:Int) != (l.length:Int))=false:=by simp [hln]
 have hpa:=eqPa_iff W l
 simp only [bq,if_true,if_false,Int.reduceBEq,reduceCtorEq]
 generalize hT:eqPa W l=T at *
 have hbw:=bld_wt ps (l.map Prod.snd)
 generalize hS:(if (T&&bldOk2 ps l)=true then bldOut ps l else [])=S
 generalize hE:(if (T&&bldOk2 ps l)=true then (0:Int) else 1)=E
 refine fn_retW (vs:=[.sl (S.map Part.enc),.i .i64 E]) f27ok (by simp) (by simp) fun n0 hn0=>?_
 clear hn0
 simp only [push_cast,seval,reduceEqDiff,List.length_map,hne]
 repeat' (first|(((first|apply condU_s|apply gdU_t|apply gdU_f)<;>intro _h)<;>simp only [push_cast,seval,reduceEqDiff,_h,List.length_map,hne])|((first|refine c_call (by exact hva) ?_|refine c_call (by exact hsh) ?_|refine c_call (by exact heq) ?_|refine c_call (by exact hle) ?_);simp only [push_cast,seval,reduceEqDiff,List.length_map,hne])|intro _)
 refine aWP_loopW l.length (Inv:=fun m st=>∃dl rl dw rw n,l=dl++rl/\W=dw++rw/\dw.length=dl.length/\m=rl.length/\eqBy (fun x y:Leaf=>x.1 == y.1) rw rl=T/\st=⟨[(0,.sl (ps.map Part.enc)),(1,.sl (l.map leafV)),(6,.sl (W.map leafV)),(7,.i .i64 dl.length)],[],n⟩) ⟨_,StLe.refl,[],l,[],W,_,rfl,rfl,rfl,rfl,hT,rfl⟩ ?_
 rintro m _ ⟨dl,rl,dw,rw,n,hzl,hzw,hdl,rfl,hd,rfl⟩
 have hrl:rw.length=rl.length:=by
  have h1:=congrArg List.length hzl
  have h2:=congrArg List.length hzw
  simp only [List.length_append] at h1 h2;omega
 cases rl with
 | cons x rl=>
  obtain ⟨y,rw',rfl⟩:∃y r,rw=y::r:=by
   cases rw with
   | nil=>simp at hrl
   | cons y r=>exact ⟨y,r,rfl⟩
  have hlt0:decide ((dl.length:Int)<(l.length:Int))=true:=by rw [hzl];simp;omega
  have hba:=zip_bd hzl
  have hbb:dl.length<W.length:=by omega
  have hga:(l.map leafV)[dl.length]? = some (.agg [.s x.1,.sl (x.2.map Part.enc)]):=by rw [hzl,List.getElem?_map,List.getElem?_append_right (by simp)];simp [leafV]
  have hgb:(W.map leafV)[dl.length]? = some (.agg [.s y.1,.sl (y.2.map Part.enc)]):=by rw [hzw,List.getElem?_map,<-hdl,List.getElem?_append_right (by simp)];simp [leafV]
  simp only [eqBy] at hd
  rw [Bool.beq_comm] at hd
  have hbn:(x.1 != y.1) = !(x.1 == y.1):=rfl
  generalize hB:(x.1 == y.1)=B at *
  cases B
  ·simp only [bq,if_true,if_false,Int.reduceBEq,reduceCtorEq] at hd
   subst hd
   simp only [bq,if_true,if_false,Int.reduceBEq,reduceCtorEq] at hS hE
   subst hS hE
   simp only [push_cast,seval,reduceEqDiff,hlt0,hga,hgb,hbn,hB,if_pos hba,if_pos hbb,List.length_map,wrap_zip x (done:=dl) (by omega)]
   intros
   exact finW_nil2 rfl rfl
  ·simp only [bq,if_true,if_false,Int.reduceBEq,reduceCtorEq] at hd
   simp only [push_cast,seval,reduceEqDiff,hlt0,hga,hgb,hbn,hB,if_pos hba,if_pos hbb,List.length_map,wrap_zip x (done:=dl) (by omega)]
   intros
   exact ⟨_,_,Nat.lt_succ_self _,StLe.refl,dl++[x],rl,dw++[y],rw',_,by rw [hzl];simp,by rw [hzw];simp,by simp [hdl],rfl,hd,rfl⟩
 | nil=>
  have hlt0:decide ((dl.length:Int)<(l.length:Int))=false:=by rw [hzl];simp
  have:rw=[]:=by simpa using hrl
  subst this
  simp only [eqBy] at hd
  subst hd
  have h3:=hpa.1 rfl
  rw [hout h3.symm] at hfil
  unfold bldOk2 bldOut at hS hE
  generalize (bldL ps (l.map Prod.snd)).1=O at *
  have hwO:wtPs O<=2^22:=by omega
  have hva2:=c_rValid W0 O (by omega)
  have hsh2:=c_rshape W0 _ O (Nat.lt_succ_self _) (by omega)
  have hle2:=c_rleaves W0 _ O [] (Nat.lt_succ_self _) (by omega) (by simp;omega)
  rw [valid_same] at hS hE
  clear hpa hout hzl hzw hfix hbw
  cases hv:validB O with
  | false=>
   rw [hv] at hva2 hS hE
   simp only [bq,if_true,if_false,Int.reduceBEq,reduceCtorEq] at hS hE
   subst hS hE
   simp only [push_cast,seval,reduceEqDiff,hlt0,List.length_map]
   repeat' (first|(((first|apply condU_s|apply gdU_t|apply gdU_f)<;>intro _h)<;>simp only [push_cast,seval,reduceEqDiff,_h,hlt0,List.length_map])|((first|refine c_call (by exact hfil) ?_|refine c_call (by exact hva2) ?_);simp only [push_cast,seval,reduceEqDiff,hlt0,List.length_map])|intro _)
   exact finW_nil2 rfl rfl
  | true=>
  rw [hv] at hva2 hS hE
  rw [shp_same O (valid_wf hv) (valid_wfk hv)] at hsh2
  rw [lvs_same O (valid_wf hv) (valid_wfk hv)] at hle2
  have heq2:=c_rEqual W0 _ (shpPs O) ps (Nat.lt_succ_self _) (by have:=wt_shp O;omega)
  have hlen2:=lvsPs_len O [] 0 []
  have hep2:=c_sameLeaves W0 (lvsPs O [] 0 []) l (by omega) (by omega) (fun x hx=>by have:=lvs_sub O hx;omega)
  generalize eqLf (lvsPs O [] 0 []) l=E3 at *
  generalize eqPs (shpPs O) ps=E2 at *
  cases E2
  ·simp only [bq,if_true,if_false,Int.reduceBEq,reduceCtorEq] at hS hE
   subst hS hE
   simp only [push_cast,seval,reduceEqDiff,hlt0,List.length_map]
   repeat' (first|(((first|apply condU_s|apply gdU_t|apply gdU_f)<;>intro _h)<;>simp only [push_cast,seval,reduceEqDiff,_h,hlt0,List.length_map])|((first|refine c_call (by exact hfil) ?_|refine c_call (by exact hva2) ?_|refine c_call (by exact hsh2) ?_|refine c_call (by exact heq2) ?_);simp only [push_cast,seval,reduceEqDiff,hlt0,List.length_map])|intro _)
   exact finW_nil2 rfl rfl
  cases E3
  ·simp only [bq,if_true,if_false,Int.reduceBEq,reduceCtorEq] at hS hE
   subst hS hE
   simp only [push_cast,seval,reduceEqDiff,hlt0,List.length_map]
   repeat' (first|(((first|apply condU_s|apply gdU_t|apply gdU_f)<;>intro _h)<;>simp only [push_cast,seval,reduceEqDiff,_h,hlt0,List.length_map])|((first|refine c_call (by exact hfil) ?_|refine c_call (by exact hva2) ?_|refine c_call (by exact hsh2) ?_|refine c_call (by exact heq2) ?_|refine c_call (by exact hle2) ?_|refine c_call (by exact hep2) ?_);simp only [push_cast,seval,reduceEqDiff,hlt0,List.length_map])|intro _)
   exact finW_nil2 rfl rfl
  ·simp only [bq,if_true,if_false,Int.reduceBEq,reduceCtorEq] at hS hE
   subst hS hE
   simp only [push_cast,seval,reduceEqDiff,hlt0,List.length_map]
   repeat' (first|(((first|apply condU_s|apply gdU_t|apply gdU_f)<;>intro _h)<;>simp only [push_cast,seval,reduceEqDiff,_h,hlt0,List.length_map])|((first|refine c_call (by exact hfil) ?_|refine c_call (by exact hva2) ?_|refine c_call (by exact hsh2) ?_|refine c_call (by exact heq2) ?_|refine c_call (by exact hle2) ?_|refine c_call (by exact hep2) ?_);simp only [push_cast,seval,reduceEqDiff,hlt0,List.length_map])|intro _)
   refine finW_rets ?_
   simp [push_cast,get]
set_option maxHeartbeats 4000000 in
theorem c_VariantsBuild (hT:PowTab W0) (ps:List Part) (l:List Leaf) (hw:wtPs ps<=2^20) (hll:l.length<=2^20) (hl:wtLf (l.map Prod.snd)<=2^20):RetS Tryz.prog W0 5 [.sl (ps.map Part.enc),.sl (l.map leafV)] [] (.b true) []:=by
 have haw:=c_awake W0
 have hfe:=c_few W0 ps (by omega)
 have hsum:∀x∈l,wtPs x.2<=2^20:=fun x hx=>by
  have:=wtLf_mem (List.mem_map.2 ⟨x,hx,rfl⟩:x.2∈l.map Prod.snd)
  omega
 have hfl:=c_fewLeaves W0 l (by omega) (fun x hx=>by have:=hsum x hx;omega)
 have how:=c_own W0 l (by omega)
 have hb1:=c_sBuild W0 hT ps l hw hl
 have hb2:=fun hf=>c_rBuild W0 ps l hw (by omega) hl (few_atP (n:=0) hf)
 have hO:wtPs (bldV ps l)<=2^24:=by
  unfold bldV
  split
  ·have:=bld_wt ps (l.map Prod.snd)
   unfold bldOut
   omega
  ·rw [wtPs_nil];omega
 have hee:=c_rEqual W0 _ (bldV ps l) (bldV ps l) (Nat.lt_succ_self _) hO
 rw [eqPs_refl] at hee
 generalize bldV ps l=S at *
 generalize bldE ps l=E at *
 generalize fewPs ps=FP at *
 generalize hFL:fewLf l 0=FL at *
 cases FP
 ·refine fn_retW (vs:=[.b true]) f5ok (by simp) (by simp) fun n0 hn0=>?_
  clear hn0
  simp only [push_cast,seval,reduceEqDiff]
  repeat' (first|(((first|apply condU_s|apply gdU_t|apply gdU_f)<;>intro _h)<;>simp only [push_cast,seval,reduceEqDiff,_h])|((first|refine c_call (by exact haw) ?_|refine c_call (by exact hfe) ?_);simp only [push_cast,seval,reduceEqDiff])|intro _)
  all_goals (first|(refine finW_ret ?_;simp [get]<;>(intros;omega);done)|(refine finW_rets ?_;simp [push_cast,get];done)|skip)
 cases FL
 ·refine fn_retW (vs:=[.b true]) f5ok (by simp) (by simp) fun n0 hn0=>?_
  clear hn0
  simp only [push_cast,seval,reduceEqDiff]
  repeat' (first|(((first|apply condU_s|apply gdU_t|apply gdU_f)<;>intro _h)<;>simp only [push_cast,seval,reduceEqDiff,_h])|((first|refine c_call (by exact haw) ?_|refine c_call (by exact hfe) ?_|refine c_call (by exact hfl) ?_);simp only [push_cast,seval,reduceEqDiff])|intro _)
  all_goals (first|(refine finW_ret ?_;simp [get]<;>(intros;omega);done)|(refine finW_rets ?_;simp [push_cast,get];done)|skip)
 have hb2:=hb2 rfl
 refine fn_retW (vs:=[.b true]) f5ok (by simp) (by simp) fun n0 hn0=>?_
 clear hn0
 simp only [push_cast,seval,reduceEqDiff,beq_self_eq_true]
 repeat' (first|(((first|apply condU_s|apply gdU_t|apply gdU_f)<;>intro _h)<;>simp only [push_cast,seval,reduceEqDiff,_h,beq_self_eq_true])|((first|refine c_call (by exact haw) ?_|refine c_call (by exact hfe) ?_|refine c_call (by exact hfl) ?_|refine c_call (by exact how) ?_|refine c_call (by exact hb1) ?_|refine c_call (by exact hb2) ?_|refine c_call (by exact hee) ?_);simp only [push_cast,seval,reduceEqDiff,beq_self_eq_true])|intro _)
 all_goals (first|(refine finW_ret ?_;simp [get]<;>(intros;omega);done)|(refine finW_rets ?_;simp [push_cast,get];done)|skip)
structure Val where
 name:Bytes
 type:Int
 text:Bytes
 date:Int
 list:List Bytes
def Val.enc (v:Val):V:=.agg [.s v.name,.i .i64 v.type,.s v.text,.i .i64 v.date,.sl (v.list.map V.s)]
def Val.wt (v:Val):Nat:=1+v.name.length+v.text.length+v.list.length
theorem Val.enc_eq (v:Val):v.enc = .agg [.s v.name,.i .i64 v.type,.s v.text,.i .i64 v.date,.sl (v.list.map V.s)]:=rfl
end Go.Ir
namespace Go.Ir
open Go.Proofs
theorem sumW_len {α:Type} {w:α->Nat} {l:List α} (h:∀x,1<=w x):l.length<=sumW w l:=by
 induction l with
 | nil=>simp [sumW]
 | cons y l ih=>
  simp only [sumW,List.length_cons]
  have:=h y;omega
theorem cLeaf:Tryz.prog.cellsOf 112=2:=by kernel_rfl
theorem aLeaf:aggT Tryz.prog 112=some true:=by kernel_rfl
def leafWt (x:Leaf):Nat:=1+wtPs x.2
theorem leaf_of (c:List V) (h:WtV Tryz.prog 112 c):∃x:Leaf,V.agg c=leafV x/\leafWt x<=bulkVs c:=by
 obtain ⟨hl,hf⟩:=h.st_inv Tryz.underlying112
 rw [cLeaf] at hl
 obtain ⟨x0,x1,rfl⟩:=len2 hl
 have f0:=hf _ (by exact List.mem_cons_self)
 have f1:=hf _ (by exact List.mem_cons_of_mem _ List.mem_cons_self)
 simp only [c9,c31,List.drop_zero,List.drop_succ_cons,List.take_succ_cons,List.take_zero] at f0 f1
 obtain ⟨n,rfl⟩:=f0.str_inv Tryz.underlying9
 obtain ⟨ps,rfl,hw⟩:=parts_of _ x1 (Nat.le_refl _) f1
 refine ⟨(n,ps),by rw [leafV_eq,encPs_map],?_⟩
 simp only [bulkVs,bulkV] at hw⊢
 unfold leafWt
 simp only;omega
theorem leaves_of (v:V) (h:WtV Tryz.prog 56 [v]):∃l:List Leaf,v = .sl (l.map leafV)/\l.length<=bulkV v/\wtLf (l.map Prod.snd)<=bulkV v:=by
 obtain ⟨xs,rfl,hw⟩:=slice_of h Tryz.underlying56 aLeaf leafV leafWt leaf_of
 have h1:=sumW_len (w:=leafWt) (l:=xs) (fun _=>by unfold leafWt;omega)
 have h2:wtLf (xs.map Prod.snd)<=sumW leafWt xs:=by
  clear hw h1 h
  induction xs with
  | nil=>simp [wtLf,sumW]
  | cons x xs ih=>
   simp only [List.map_cons,wtLf_cons,sumW]
   unfold leafWt at ih⊢
   omega
 exact ⟨xs,rfl,by omega,by omega⟩
end Go.Ir
