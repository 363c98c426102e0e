/-
  Contracts: leaves, of the program
  Contracts: leaves and Leaves, of the program.
  Contracts: Sound, of the program.
  Contracts: awake, and the law VariantsFlat.
  The IR of functions of the program, printed by our own tool
  What a flat form has: its variants have neither selections ..
  The flat form of a message that the check accepts is sound.
  Flat forms: what the law VariantsPlain asks, in plain Lean.
  Contracts: Counts of a message without selections and ..
  Contract: the law VariantsPlain.
-/
import Derived.Test.YtjhgnkpcldnmdaaGreatDoorPad
set_option linter.all false
set_option linter.defProp false
set_option linter.unusedSimpArgs false
set_option linter.unusedVariables false
open Nat (reduceEqDiff)
section
namespace Go.Ir
open Go.Proofs
variable (W0 : World)
theorem retN_nil {P:Program} {W0:World} {f:FuncId} {args:List V} {x:Ent} {e sz:Nat} (h:∀id,RetN P W0 f (.arr id::args) [(id,.arr e sz [])] x []):RetN P W0 f (.nil::args) [] x [] where
 callable:=(h (0,0)).callable
 dom:=fun id h=>by simp [lk] at h
 run:=by
  intro n w μ H vals hp hv
  have hnone:μ (n,0)=none:=hp.bd _ (Nat.le_refl _)
  have hmono:=setμ_mono (v:=.slice none 0 0) hnone
  have hnew:=(hp.more (Nat.le_succ n)).new_ (n':=n+1) (w':=w) (R:=fun _=>False) ⟨rfl,rfl,rfl,Nat.le_refl _,fun _ _ _=>rfl⟩ (fun _ h=>h.elim) (σ1:=[]) (fun id e h=>⟨h,fun _ _ h=>h⟩) (id:=(n,0)) (e:=.arr e sz []) (val:=.slice none 0 0) hnone (Nat.lt_succ_self _) (Nat.le_refl _) (fun bk hb=>by simp [blk] at hb)
   ⟨.slice none 0 0,[],setμ_self _ _ _,rfl,World.ownsRow_nil w _ e sz,Nat.zero_le _,(fun x hx=>by cases hx),CRel.nil_⟩
  obtain ⟨v0,vs,rfl⟩:∃v0 vs,vals=v0::vs:=by
   cases vals with
   | nil=>have:=hv.len;simp at this
   | cons a b=>exact ⟨a,b,rfl⟩
  have h0:=hv.at_ 0 _ _ rfl rfl
  have hv':VRels (setμ μ (n,0) (.slice none 0 0)) H (.arr (n,0)::args) (v0::vs):=by
   refine VRels.cons ?_ ⟨by have:=hv.len;simpa using this,fun k c v h1 h2=>(hv.at_ (k+1) c v (by simpa using h1) (by simpa using h2)).mono hmono (fun _ _ h=>h)⟩
   rw [h0.nil_inv]
   exact .arr _ _ (setμ_self _ _ _) rfl
  refine Calls.mono ((h (n,0)).run (n+1) w _ H _ hnew.1 hv') ?_
  rintro e' w' ⟨val,μ',H',n',id,h1,h2,h3,h4,h5,h6,h7,h8,h9⟩
  refine ⟨val,μ',H',n',id,h1,h2,h3,?_,h5,h6,by omega,hnew.2.trans h8,fun i hi h0=>h9 i (by omega) ?_⟩
  ·cases hm:μ id with
   | none=>rfl
   | some y=>have:=hmono id y hm;rw [h4] at this;cases this
  ·rw [setμ_ne _ _ (by rintro rfl;simp at hi)];exact h0
theorem c_solid (p:Part) (hw:p.wt<=2^24):RetS Tryz.prog W0 50 [p.v] [] (.b p.solid) []:=by
 have hp:=p.wt_eq
 have hlc:=len_wtCs p.cases
 have case1:∀(c:Case),wtPs c.2<=2^24->RetS Tryz.prog W0 95 [Case.v c] [] (.b (!plainPs c.2)) []:=by
  intro c h2
  have:=c_plain W0 _ c.2 (Nat.lt_succ_self _) h2
  unfold Case.v
  refine fn_retW (vs:=[.b (!plainPs c.2)]) f95ok (by simp) (by simp) fun n0 hn0=>?_
  clear hn0
  simp only [push_cast,seval,reduceEqDiff]
  repeat' (first|(((first|apply condU_s|apply gdU_t|apply gdU_f)<;>intro _h)<;>simp only [push_cast,seval,reduceEqDiff,_h])|(refine c_call (by exact this) ?_;simp only [push_cast,seval,reduceEqDiff])|intro _)
  all_goals (first|(refine finW_ret ?_;simp [get]<;>(intros;omega);done)|(refine finW_rets ?_;simp [push_cast,get];done)|skip)
 have hany:RetS Tryz.prog W0 94 [.sl (p.cases.map Case.enc),.fn 95 [] []] [] (.b (p.cases.any fun c=>!plainPs c.2)) []:=
  anyCase W0 (by omega) (fun c hc=>by have:=wtCs_mem hc;exact case1 c (by omega))
 have hpl:=c_plain W0 _ p.parts (Nat.lt_succ_self _) (by omega)
 rw [Part.solid_eq,<-plainCs_any]
 generalize hS:(!selB p.kind&&plainPs p.parts&&!p.cases.any fun c=>!plainPs c.2)=S
 unfold Part.v
 refine fn_retW (vs:=[.b S]) f50ok (by simp) (by simp) fun n0 hn0=>?_
 clear hn0
 simp only [push_cast,seval,reduceEqDiff]
 repeat' (first|(((first|apply condU_s|apply gdU_t|apply gdU_f)<;>intro _h)<;>(simp only [push_cast,seval,reduceEqDiff,_h];try (have _g:=_h;simp at _g)))|((first|refine c_call (by exact c_sSel W0 _) ?_|refine c_call (by exact hpl) ?_);simp only [push_cast,seval,reduceEqDiff])|intro _)
 all_goals (try (refine c_callsq hany ?_;simp only [push_cast,seval,reduceEqDiff]))
 repeat' (first|(((first|apply condU_s|apply gdU_t|apply gdU_f)<;>intro _h)<;>(simp only [push_cast,seval,reduceEqDiff,_h];try (have _g:=_h;simp at _g)))|intro _)
 all_goals (first|(refine finW_ret ?_;simp [get,<-hS, *]<;>(intros;omega);done)|(refine finW_rets ?_;simp [push_cast,get,<-hS, *];done)|skip)
abbrev Leaf:=Bytes × List Part
def leafV (l:Leaf):V:=.agg [.s l.1,.sl (l.2.map Part.enc)]
theorem leafV_eq (l:Leaf):leafV l = .agg [.s l.1,.sl (l.2.map Part.enc)]:=rfl
def decN (n:Nat):Bytes:=Lib.decDigits n
mutual
def Part.lvs:Part->Bytes->List Leaf
 | ⟨k,_,_,_,cs,ps⟩,pa=>if selB k then lvsCs cs pa else lvsPs ps pa 0 []
def lvsPs:List Part->Bytes->Nat->List Part->List Leaf
 | [],pa,n,run=>[(pa++decN n,run)]
 | p::ps,pa,n,run=>if p.solid then lvsPs ps pa n (run++[p]) else (pa++decN n,run)::(p.lvs (pa++decN (n+1)++[47])++lvsPs ps pa (n+1) [])
def lvsCs:List (Bytes × List Part)->Bytes->List Leaf
 | [],_=>[]
 | (key,ps)::cs,pa=>lvsPs ps (pa++key++[47]) 0 []++lvsCs cs pa
end
theorem Part.lvs_eq (p:Part) (pa:Bytes):p.lvs pa=if selB p.kind then lvsCs p.cases pa else lvsPs p.parts pa 0 []:=by cases p;simp only [Part.lvs]
theorem lvsPs_nil (pa:Bytes) (n:Nat) (run:List Part):lvsPs [] pa n run=[(pa++decN n,run)]:=by simp only [lvsPs]
theorem lvsPs_cons (p:Part) (ps:List Part) (pa:Bytes) (n:Nat) (run:List Part):lvsPs (p::ps) pa n run=if p.solid then lvsPs ps pa n (run++[p]) else (pa++decN n,run)::(p.lvs (pa++decN (n+1)++[47])++lvsPs ps pa (n+1) []):=by simp only [lvsPs]
theorem lvsCs_cons (c:Case) (cs:List Case) (pa:Bytes):lvsCs (c::cs) pa=lvsPs c.2 (pa++c.1++[47]) 0 []++lvsCs cs pa:=by obtain ⟨k,q⟩:=c;simp only [lvsCs]
theorem lvs_len:∀(N:Nat) (ps:List Part),wtPs ps<N->∀pa n run,(lvsPs ps pa n run).length<=1+2*wtPs ps:=by
 intro N
 induction N with
 | zero=>intro ps h;omega
 | succ N ih=>
  have hcs:∀cs:List Case,wtCs cs<N->∀pa,(lvsCs cs pa).length<=2*wtCs cs:=by
   intro cs
   induction cs with
   | nil=>intro _ pa;simp [lvsCs]
   | cons c cs ih2=>
    intro h pa;rw [wtCs_cons] at h;rw [lvsCs_cons,wtCs_cons,List.length_append]
    have h1:=ih c.2 (by omega) (pa++c.1++[47]) 0 [];have h2:=ih2 (by omega) pa;omega
  intro ps
  induction ps with
  | nil=>intro _ pa n run;simp [lvsPs]
  | cons p ps ih2=>
   intro h pa n run;rw [wtPs_cons] at h;rw [lvsPs_cons,wtPs_cons]
   have hw:=p.wt_eq
   split
   ·have:=ih2 (by omega) pa n (run++[p]);omega
   ·have h3:=ih2 (by omega) pa (n+1) []
    have h4:(p.lvs (pa++decN (n+1)++[47])).length+1<=2*p.wt:=by
     rw [p.lvs_eq]
     split
     ·have:=hcs p.cases (by omega) (pa++decN (n+1)++[47]);omega
     ·have:=ih p.parts (by omega) (pa++decN (n+1)++[47]) 0 [];omega
    rw [List.length_cons,List.length_append];omega
theorem lvsPs_len (ps:List Part) (pa:Bytes) (n:Nat) (run:List Part):(lvsPs ps pa n run).length<=1+2*wtPs ps:=lvs_len _ ps (Nat.lt_succ_self _) pa n run
def TL:Nat:=68
def LvR (bid lid:Id) (o:List Leaf) (n n':Nat) (v:V) (σ':Sto):Prop:=v = .tup []/\∃id:Id,(id=lid\/n<=id.1)/\id.1<n'/\σ'=[(id,.arr TL 2 (o.map leafV)),(bid,.box (.arr id))]
theorem c_leavesFn (q:List Part) (pa:Bytes) (o:List Leaf) (bid lid:Id) (hne:lid≠bid)
  (h:RetN Tryz.prog W0 69 [.arr lid,.sl (q.map Part.enc),.s pa] [(lid,.arr TL 2 (o.map leafV))] (.arr TL 2 ((o++lvsPs q pa 0 []).map leafV)) []) :
  RetE Tryz.prog W0 117 [.sl (q.map Part.enc),.s pa,.ref bid 0] [(lid,.arr TL 2 (o.map leafV)),(bid,.box (.arr lid))] (LvR bid lid (o++lvsPs q pa 0 [])):=by
 refine fn_retEW f117ok (by simp) fun n0 hn0=>?_
 have hb:bid.1<n0:=hn0 bid (.box (.arr lid)) (by simp [lk,hne])
 clear hn0
 have h1:(lid=bid)=False:=eq_false hne
 have h3:∀j:Nat,((n0,j)=bid)=False:=fun j=>ne_idx hb
 have h4:∀a b:Id,(isA (V.arr a)=isA (V.arr b))=True:=fun _ _=>eq_true rfl
 have hov:over [(lid,Ent.arr TL 2 (o.map leafV))] [] [(lid,.arr TL 2 (o.map leafV)),(bid,.box (.arr lid))]=[(bid,.box (.arr lid))]:=by
  simp [over,lk,h1,List.filter]
 simp only [push_cast,seval,reduceEqDiff,h1,h3,h4]
 refine c_calln h (fun i e h=>lk_app_left (τ:=[_]) h) ?_
 rw [hov]
 simp only [push_cast,seval,reduceEqDiff,h1,h3,h4]
 intros
 exact ⟨_,StLe.refl,[],_,trivial,fun _ _ h=>h,rfl,_,.inr (Nat.le_refl _),by simp only;omega,rfl⟩
theorem over_x2 {x a b:Id} {X A B:Ent} {σo:Sto} (h1:x≠a) (h2:x≠b):over [(a,A),(b,B)] σo [(x,X),(a,A),(b,B)]=σo++[(x,X)]:=by
 by_cases hab:a=b
 ·subst hab;simp [over,lk,List.filter,h1,Ne.symm h1]
 ·simp [over,lk,List.filter,h1,h2,Ne.symm h1,Ne.symm h2,hab]
theorem lk_x2 {x a b:Id} {A B:Ent} (h1:x≠a) (h2:x≠b):lk [(a,A),(b,B)] x=none:=by
 simp [lk,Ne.symm h1,Ne.symm h2]
set_option maxHeartbeats 4000000 in
theorem c_lists (p:Part) (pa:Bytes) (bid:Id) (hw:p.wt<=2^24) (hpa:pa.length+32*p.wt<=2^32+32) (M:Nat)
  (hcl:∀(q:List Part) (pa':Bytes) (o:List Leaf) (lid:Id),wtPs q<p.wt->pa'.length+32*wtPs q<=2^32->lid≠bid->o.length+2*wtPs q+1<=M->
   RetE Tryz.prog W0 117 [.sl (q.map Part.enc),.s pa',.ref bid 0] [(lid,.arr TL 2 (o.map leafV)),(bid,.box (.arr lid))] (LvR bid lid (o++lvsPs q pa' 0 [])))
  (o:List Leaf) (lid:Id) (hne:lid≠bid) (ho:o.length+2*p.wt<=M) :
  RetE Tryz.prog W0 116 [p.v,.s pa,.fn 117 [] [.ref bid 0]] [(lid,.arr TL 2 (o.map leafV)),(bid,.box (.arr lid))] (LvR bid lid (o++p.lvs pa)):=by
 have hpw:=p.wt_eq
 have hlc:=len_wtCs p.cases
 have hsel:=c_sSel W0 p.kind
 generalize hS:o++p.lvs pa=S
 rw [p.lvs_eq] at hS
 unfold Part.v
 refine fn_retEW f116ok (by simp) fun n0 hn0=>?_
 have hb:bid.1<n0:=hn0 bid (.box (.arr lid)) (by simp [lk,hne])
 have hl:lid.1<n0:=hn0 lid (.arr TL 2 (o.map leafV)) (by simp [lk])
 clear hn0
 have h1:(lid=bid)=False:=eq_false hne
 have h2:∀j:Nat,((n0,j)=bid)=False:=fun j=>ne_idx hb
 have h3:∀j:Nat,((n0,j)=lid)=False:=fun j=>ne_idx hl
 cases hs:selB p.kind with
 | false=>
  rw [hs] at hsel hS
  simp only [bq,if_true,if_false,Int.reduceBEq,reduceCtorEq] at hS
  subst hS
  simp only [push_cast,seval,reduceEqDiff,h1,h2,h3]
  repeat' (first|(((first|apply condU_s|apply gdU_t|apply gdU_f)<;>intro _h)<;>simp only [push_cast,seval,reduceEqDiff,_h,h1,h2,h3])|(refine c_call (by exact hsel) ?_;simp only [push_cast,seval,reduceEqDiff,h1,h2,h3])|intro _)
  refine c_callx (hcl p.parts pa o lid (by omega) (by omega) hne (by omega)) (lk_drop1 (lk_x2 (fun he=>of_eq_false (h3 _) he) (fun he=>of_eq_false (h2 _) he))) (fun n2 v σo hle hR=>?_)
  obtain ⟨rfl,id,hi1,hi2,rfl⟩:=hR
  rw [over_x2 (fun he=>of_eq_false (h3 _) he) (fun he=>of_eq_false (h2 _) he)]
  simp only [push_cast,seval,reduceEqDiff,h1,h2,h3]
  intros
  exact ⟨_,StLe.refl,[],_,trivial,fun i e h=>lk_app_left (τ:=[_]) h,rfl,id,by rcases hi1 with h|h;exact .inl h;exact .inr (by omega),by simp only;omega,rfl⟩
 | true=>
  rw [hs] at hsel hS
  simp only [bq,if_true,if_false,Int.reduceBEq,reduceCtorEq] at hS
  simp only [push_cast,seval,reduceEqDiff,h1,h2,h3,List.length_map]
  repeat' (first|(((first|apply condU_s|apply gdU_t|apply gdU_f)<;>intro _h)<;>simp only [push_cast,seval,reduceEqDiff,_h,h1,h2,h3,List.length_map])|(refine c_call (by exact hsel) ?_;simp only [push_cast,seval,reduceEqDiff,h1,h2,h3,List.length_map])|intro _)
  refine aWP_loopW p.cases.length (Inv:=fun m st=>∃cd cr n lid' o',p.cases=cd++cr/\m=cr.length/\o'++lvsCs cr pa=S/\o'.length+2*wtCs cr<=M/\(lid'=lid\/n0<=lid'.1)/\lid'.1<n/\n0<=n/\st=⟨[(1,.s pa),(2,.fn 117 [] [.ref bid 0]),(18,.sl (p.cases.map Case.enc)),(19,.i .i64 p.cases.length),(20,.i .i64 cd.length)],[(lid',.arr TL 2 (o'.map leafV)),(bid,.box (.arr lid'))],n⟩) ⟨_,StLe.drop (lk_drop1 (lk_x2 (fun he=>of_eq_false (h3 _) he) (fun he=>of_eq_false (h2 _) he))) (Nat.le_refl _),[],p.cases,_,lid,o,rfl,rfl,hS,by omega,.inl rfl,by (try simp only);omega,by (try simp only);omega,rfl⟩ ?_
  clear hS
  rintro m _ ⟨cd,cr,n,lid',o',hcz,rfl,hd,hM,hl1,hl2,hn,rfl⟩
  have hne':lid'≠bid:=by
   rcases hl1 with rfl|h
   ·exact hne
   ·rintro rfl;omega
  cases cr with
  | nil=>
   have hlt0:decide ((cd.length:Int)<(p.cases.length:Int))=false:=by rw [hcz];simp
   simp only [lvsCs,List.append_nil] at hd
   subst hd
   simp only [push_cast,seval,reduceEqDiff,hlt0]
   intros
   exact ⟨_,StLe.refl,[],_,trivial,fun _ _ h=>h,rfl,lid',hl1,by simp only;omega,rfl⟩
  | cons c cr=>
   have hlt0:decide ((cd.length:Int)<(p.cases.length:Int))=true:=by rw [hcz];simp;omega
   have hcb:=zip_bd hcz
   have hcw:=wtCs_mem (cs:=p.cases) (c:=c) (by rw [hcz];simp)
   have hget:(p.cases.map Case.enc)[cd.length]? = some (.agg [.s c.1,.sl (c.2.map Part.enc)]):=by
    rw [hcz,List.getElem?_map,List.getElem?_append_right (by simp)];simp [Case.enc_eq]
   rw [lvsCs_cons] at hd
   rw [wtCs_cons] at hM
   have hlv:=lvsPs_len c.2 (pa++c.1++[47]) 0 []
   have g1:(lid'=bid)=False:=eq_false hne'
   have g2:∀k j:Nat,((n+1+k,j)=bid)=False:=fun k j=>ne_idx (by omega)
   have g3:∀k j:Nat,((n+1+k,j)=lid')=False:=fun k j=>ne_idx (by omega)
   simp only [push_cast,seval,reduceEqDiff,hlt0,hget,if_pos hcb,wrap_zip c (done:=cd) (by omega),List.length_map,g1,g2,g3]
   repeat' (first|(((first|apply condU_s|apply gdU_t|apply gdU_f)<;>intro _h)<;>simp only [push_cast,seval,reduceEqDiff,_h,hlt0,hget,if_pos hcb,wrap_zip c (done:=cd) (by omega),List.length_map,g1,g2,g3])|(refine jp_i (by simp only [List.length_append,List.length_cons,List.length_nil,SLim]<;>omega) ?_;simp only [push_cast,seval,reduceEqDiff,hlt0,hget,if_pos hcb,wrap_zip c (done:=cd) (by omega),List.length_map,g1,g2,g3])|intro _)
   refine c_callx (hcl c.2 (pa++c.1++[47]) o' lid' (by omega) (by simp only [List.length_append,List.length_cons,List.length_nil];omega) hne' (by omega)) (lk_drop1 (lk_x2 (fun he=>of_eq_false (g3 _ _) he) (fun he=>of_eq_false (g2 _ _) he))) (fun n2 v σo hle hR=>?_)
   obtain ⟨rfl,id,hi1,hi2,rfl⟩:=hR
   rw [over_x2 (fun he=>of_eq_false (g3 _ _) he) (fun he=>of_eq_false (g2 _ _) he)]
   rw [<-List.append_assoc] at hd
   simp only [push_cast,seval,reduceEqDiff,hlt0,hget,if_pos hcb,wrap_zip c (done:=cd) (by omega),List.length_map,g1,g2,g3]
   intros
   refine ⟨_,_,Nat.lt_succ_self _,StLe.drop (fun i e h=>lk_app_left (τ:=[_]) h) (Nat.le_refl _),cd++[c],cr,_,id,_,by rw [hcz];simp,rfl,hd,?_,?_,?_,?_,rfl⟩
   ·rw [List.length_append];omega
   ·rcases hi1 with rfl|h
    ·exact hl1
    ·exact .inr (by omega)
   ·rcases hi1 with rfl|h<;>omega
   ·omega
end Go.Ir
end
namespace Go.Ir
open Go.Proofs
variable (W0 : World)
theorem lvsCs_len (cs:List Case) (pa:Bytes):(lvsCs cs pa).length<=2*wtCs cs:=by
 induction cs with
 | nil=>simp [lvsCs]
 | cons c cs ih=>rw [lvsCs_cons,wtCs_cons,List.length_append];have:=lvsPs_len c.2 (pa++c.1++[47]) 0 [];omega
theorem lvs_part (p:Part) (pa:Bytes):(p.lvs pa).length+1<=2*p.wt:=by
 rw [p.lvs_eq,p.wt_eq]
 split
 ·have:=lvsCs_len p.cases pa;omega
 ·have:=lvsPs_len p.parts pa 0 [];omega
theorem frz_slot {W0:World} {nt n n' s e sz:Nat} {env:Env} {σ τ:Sto} {rid:Id} {es:List V} (hs:get env s = .arr rid) (hr:lk σ rid=some (.arr e sz es)) (hτ:∀i e',lk τ i=some e'->lk σ i=some e'/\i≠rid) (hok:∀y∈es,y.ok=true) (hn:n<=n') :
  StLe W0 nt ⟨env,σ,n⟩ ⟨(s,.sl es)::env,τ,n'⟩:=by
 refine StLe.weak (fun i=>if i=rid then some es else none) (fun i es' h=>?_) (fun t=>?_) (fun i e' h=>⟨e',(hτ i e' h).1,.refl _⟩) hn
 ·split at h
  ·rename_i hi;subst hi;cases h
   refine ⟨⟨e,sz,hr⟩,?_⟩
   cases hl:lk τ i with
   | none=>rfl
   | some x=>exact absurd rfl (hτ i x hl).2
  ·cases h
 ·by_cases ht:s=t
  ·subst ht
   rw [hs]
   simp only [get,if_true]
   refine .arr rid es es (by simp) rfl (fun k c c' h1 h2=>?_) (fun k c c' h1 h2=>?_)
   ·rw [h1] at h2;cases h2;exact .refl _
   ·rw [h1] at h2;cases h2
    have:=hok c (List.mem_of_getElem? h1)
    exact ⟨rfl,this,this⟩
  ·simp only [get,if_neg ht];exact .refl _
theorem over_m2 {x a b:Id} {X A B:Ent} {σo:Sto} (h1:x≠a) (h2:x≠b):over [(a,A),(b,B)] σo [(a,A),(x,X),(b,B)]=σo++[(x,X)]:=by
 by_cases hab:a=b
 ·subst hab;simp [over,lk,List.filter,h1,Ne.symm h1]
 ·simp [over,lk,List.filter,h1,h2,Ne.symm h1,Ne.symm h2,hab]
theorem lk_m2 {x a b:Id} {X A B:Ent} (h1:x≠a) (h2:x≠b):∀i e,lk [(a,A),(b,B)] i=some e->lk [(a,A),(x,X),(b,B)] i=some e:=by
 intro i e h
 simp only [lk] at h⊢
 split at h
 ·rename_i ha;rw [if_pos ha];exact h
 ·rename_i ha
  rw [if_neg ha]
  split at h
  ·rename_i hb;subst hb;rw [if_neg h2,if_pos rfl];exact h
  ·cases h
set_option maxHeartbeats 4000000 in
theorem c_leavesA (K:Nat) (hI:∀i:Nat,i<=K->RetS Tryz.prog W0 114 [.i .i64 i] [] (.s (decN i)) []/\(decN i).length<=20) :
  ∀(N:Nat) (ps:List Part) (pa:Bytes) (o:List Leaf) (lid:Id),wtPs ps<N->wtPs ps<=2^24->wtPs ps<=K->pa.length+32*wtPs ps<=2^32->o.length+2*wtPs ps+1<=2^30->
  RetN Tryz.prog W0 69 [.arr lid,.sl (ps.map Part.enc),.s pa] [(lid,.arr TL 2 (o.map leafV))] (.arr TL 2 ((o++lvsPs ps pa 0 []).map leafV)) []:=by
 intro N
 induction N with
 | zero=>intro ps pa o lid h;omega
 | succ N ih=>
 intro ps pa o0 lid0 hN hw0 hK0 hpa hM
 have hlen:=len_wtPs ps
 generalize hS:o0++lvsPs ps pa 0 []=S
 refine fn_newW (s:=6) f69ok (by simp) (by simp [lk]) fun n0 hn0=>?_
 have hl0:lid0.1<n0:=hn0 lid0 (.arr TL 2 (o0.map leafV)) (by simp [lk])
 clear hn0
 simp only [push_cast,seval,reduceEqDiff]
 intros
 rename_i a1 a2 a3 a4
 have hn1:n0<n0+1+a1+1+a2+1+a3+1+a4:=by omega
 generalize n0+1+a1+1+a2+1+a3+1+a4=n1 at *
 refine aWP_loopW ps.length (Inv:=fun m st=>∃done rest n lid rid o run k,ps=done++rest/\m=rest.length/\o++lvsPs rest pa k run=S/\o.length+2*wtPs rest+1<=2^30/\k<=done.length/\run.length<=done.length/\wtPs run+wtPs rest<=wtPs ps/\n0<n/\lid.1<n/\rid.1<n/\lid≠(n0,3)/\rid≠(n0,3)/\rid≠lid/\st=⟨[(2,.s pa),(3,.ref (n0,3) 0),(7,.arr rid),(8,.i .i64 k),(11,.sl (ps.map Part.enc)),(12,.i .i64 ps.length),(13,.i .i64 done.length)],[(rid,.arr TPt 6 (run.map Part.enc)),(lid,.arr TL 2 (o.map leafV)),((n0,3),.box (.arr lid))],n⟩) ⟨_,(StLe.own (s:=7) (e:=TPt) (sz:=6) (k:=99) rfl).trans ((StLe.envD (fun t=>?_) (Nat.le_refl _)).trans (StLe.sub (σ':=[((n1,99),.arr TPt 6 []),(lid0,.arr TL 2 (o0.map leafV)),((n0,3),.box (.arr lid0))]) ?_ ?_ (Nat.le_refl _))),[],ps,_,lid0,(n1,99),o0,[],0,rfl,rfl,hS,hM,by simp,by simp,by simp [wtPs_nil],?_,?_,?_,?_,?_,?_,rfl⟩ ?_
 ·left
  by_cases h3:7=t
  ·subst h3;rfl
  ·simp [get,h3]
 ·have e1:((n1,99):Id)≠lid0:=fun he=>by rw [<-he] at hl0;simp at hl0;omega
  have e2:lid0≠((n0,3):Id):=fun he=>by rw [he] at hl0;simp at hl0
  have e3:((n1,99):Id)≠(n0,3):=fun he=>by injection he with h1 h2;omega
  simp [e1,e2,Ne.symm e1,Ne.symm e2]
 ·intro p hp
  simp at hp⊢
  rcases hp with h|h|h<;>simp [h]
 ·(try simp only);omega
 ·(try simp only);omega
 ·(try simp only);omega
 ·intro he;rw [he] at hl0;simp at hl0
 ·intro he;injection he with h1 h2;omega
 ·intro he;rw [<-he] at hl0;simp at hl0;omega
 clear hS
 rintro m _ ⟨done,rest,n,lid,rid,o,run,k,hz,rfl,hd,hM,hk,hrl,hrw,hn,hl,hr,hlb,hrb,hrl2,rfl⟩
 have d1:∀i j:Nat,((n+1+i,j)=lid)=False:=fun i j=>ne_idx (by omega)
 have d1':∀i j:Nat,(lid=(n+1+i,j))=False:=fun i j=>eq_false fun he=>of_eq_false (d1 i j) he.symm
 have d2:∀i j:Nat,((n+1+i,j)=rid)=False:=fun i j=>ne_idx (by omega)
 have d2':∀i j:Nat,(rid=(n+1+i,j))=False:=fun i j=>eq_false fun he=>of_eq_false (d2 i j) he.symm
 have d3:∀i j q:Nat,((n+1+i,j)=(n0,q))=False:=fun i j q=>eq_false fun he=>by injection he with h1 h2;omega
 have d3':∀i j q:Nat,((n0,q)=(n+1+i,j))=False:=fun i j q=>eq_false fun he=>of_eq_false (d3 i j q) he.symm
 have c1:(lid=(n0,3))=False:=eq_false hlb
 have c1':((n0,3)=lid)=False:=eq_false (Ne.symm hlb)
 have c2:(rid=(n0,3))=False:=eq_false hrb
 have c2':((n0,3)=rid)=False:=eq_false (Ne.symm hrb)
 have c3:(rid=lid)=False:=eq_false hrl2
 have c3':(lid=rid)=False:=eq_false (Ne.symm hrl2)
 have hia:∀a b:Id,(isA (V.arr a)=isA (V.arr b))=True:=fun _ _=>eq_true rfl
 cases rest with
 | nil=>
  have hlt0:decide ((done.length:Int)<(ps.length:Int))=false:=by rw [hz];simp
  have hpl:ps.length=done.length:=by rw [hz];simp
  rw [lvsPs_nil] at hd
  subst hd
  obtain ⟨hIk,hIl⟩:=hI k (by omega)
  have hcl:=c_cloned W0 _ run (Nat.lt_succ_self _) (by omega)
  generalize hdk:decN k=DK at *
  have hap:List.map leafV o++[.agg [.s (pa++DK),.sl (run.map Part.enc)]]=(o++[(pa++DK,run)]).map leafV:=by simp [leafV]
  have hll:o.length+1<=LLim:=by unfold LLim;omega
  simp only [push_cast,seval,reduceEqDiff,hlt0]
  intro k1
  refine wkW_i (frz_slot (s:=7) (rid:=rid) (e:=TPt) (sz:=6) (es:=run.map Part.enc) (τ:=[(lid,.arr TL 2 (o.map leafV)),((n0,3),.box (.arr lid))]) rfl (by simp [lk]) (fun i e' h=>?_) (okPt _) (Nat.le_refl _)) ?_
  ·refine ⟨lk_drop1 (by simp [lk,c3',c2']) i e' h,?_⟩
   rintro rfl
   simp [lk,c3',c2'] at h
  simp only [push_cast,seval,reduceEqDiff,c1,c1',c2,c2',c3,c3',d1,d1',hia,TL,hap,eq_true hll,List.length_map]
  repeat' (first|(((first|apply condU_s|apply gdU_t|apply gdU_f)<;>intro _h)<;>simp only [push_cast,seval,reduceEqDiff,_h,c1,c1',c2,c2',c3,c3',d1,d1',hia,TL,hap,eq_true hll,List.length_map])|((first|refine c_call (by exact hIk) ?_|refine c_call (by exact hcl) ?_|refine jp_i (by simp only [List.length_append,List.length_cons,List.length_nil,SLim]<;>omega) ?_);simp only [push_cast,seval,reduceEqDiff,c1,c1',c2,c2',c3,c3',d1,d1',hia,TL,hap,eq_true hll,List.length_map])|intro _)
  exact finNW_i rfl (by simp [lk])
 | cons p rest=>
  have hbd:=zip_bd hz
  have hwp:=wtPs_mem (ps:=ps) (p:=p) (by rw [hz];simp)
  have hpl:ps.length=done.length+(rest.length+1):=by rw [hz];simp
  have hlt0:decide ((done.length:Int)<(ps.length:Int))=true:=by simp;omega
  have hget:(ps.map Part.enc)[done.length]? = some p.enc:=by rw [hz,List.getElem?_map,List.getElem?_append_right (by simp)];simp
  rw [lvsPs_cons] at hd
  rw [wtPs_cons] at hM hrw
  have hso:=c_solid W0 p (by omega)
  unfold Part.v at hso
  cases hsl:p.solid with
  | true=>
   rw [hsl] at hso hd
   simp only [bq,if_true,if_false,Int.reduceBEq,reduceCtorEq] at hd
   have hll:run.length+1<=LLim:=by unfold LLim;omega
   have hap:List.map Part.enc run++[.agg [.i .i64 p.kind,.s p.text,.s p.name,.s p.style,.sl (p.cases.map Case.enc),.sl (p.parts.map Part.enc)]]=(run++[p]).map Part.enc:=by simp [Part.enc_eq]
   simp only [push_cast,seval,reduceEqDiff,hlt0,hget,if_pos hbd,wrap_zip p (done:=done) (by omega),List.length_map,c1,c1',c2,c2',c3,c3',d1,d1',d2,d2',d3,d3',TPt,hap,eq_true hll]
   repeat' (first|(((first|apply condU_s|apply gdU_t|apply gdU_f)<;>intro _h)<;>simp only [push_cast,seval,reduceEqDiff,_h,hlt0,hget,if_pos hbd,wrap_zip p (done:=done) (by omega),List.length_map,c1,c1',c2,c2',c3,c3',d1,d1',d2,d2',d3,d3',TPt,hap,eq_true hll])|(refine c_call (by exact hso) ?_;simp only [push_cast,seval,reduceEqDiff,hlt0,hget,if_pos hbd,wrap_zip p (done:=done) (by omega),List.length_map,c1,c1',c2,c2',c3,c3',d1,d1',d2,d2',d3,d3',TPt,hap,eq_true hll])|intro _)
   rename_i b1 b2 b3 b4 b5
   refine ⟨_,_,Nat.lt_succ_self _,StLe.dropM (by simp [lk,d1',d3']) (Nat.le_refl _),done++[p],rest,_,lid,_,o,run++[p],k,by rw [hz];simp,rfl,hd,by omega,by simp;omega,by simp;omega,?_,?_,?_,?_,hlb,?_,?_,rfl⟩
   ·rw [wtPs_app,wtPs_cons,wtPs_nil];omega
   ·omega
   ·omega
   ·simp only;omega
   ·intro he;injection he with h1 h2;omega
   ·intro he;rw [<-he] at hl;simp at hl;omega
  | false=>
   rw [hsl] at hso hd
   simp only [bq,if_true,if_false,Int.reduceBEq,reduceCtorEq] at hd
   simp only [push_cast,seval,reduceEqDiff,hlt0,hget,if_pos hbd,wrap_zip p (done:=done) (by omega),List.length_map,c1,c1',c2,c2',c3,c3',d1,d1',d2,d2',d3,d3']
   repeat' (first|(((first|apply condU_s|apply gdU_t|apply gdU_f)<;>intro _h)<;>simp only [push_cast,seval,reduceEqDiff,_h,hlt0,hget,if_pos hbd,wrap_zip p (done:=done) (by omega),List.length_map,c1,c1',c2,c2',c3,c3',d1,d1',d2,d2',d3,d3'])|(refine c_call (by exact hso) ?_;simp only [push_cast,seval,reduceEqDiff,hlt0,hget,if_pos hbd,wrap_zip p (done:=done) (by omega),List.length_map,c1,c1',c2,c2',c3,c3',d1,d1',d2,d2',d3,d3'])|intro _)
   rename_i b1 b2 b3
   have hx:n<n+1+b1/\n+1+b1<n+1+b1+1+b2+1+b3:=by omega
   generalize n+1+b1+1+b2+1+b3=n2 at *
   have g1:∀j:Nat,((n+1+b1,j)=lid)=False:=fun j=>d1 b1 j
   have g1':∀j:Nat,(lid=(n+1+b1,j))=False:=fun j=>d1' b1 j
   have g2:∀j:Nat,((n+1+b1,j)=rid)=False:=fun j=>d2 b1 j
   have g3:∀j q:Nat,((n+1+b1,j)=(n0,q))=False:=fun j q=>d3 b1 j q
   have g3':∀j q:Nat,((n0,q)=(n+1+b1,j))=False:=fun j q=>d3' b1 j q
   generalize n+1+b1=x0 at *
   obtain ⟨hx1,hx2⟩:=hx
   have e1:∀i j:Nat,((n2+1+i,j)=lid)=False:=fun i j=>ne_idx (by omega)
   have e1':∀i j:Nat,(lid=(n2+1+i,j))=False:=fun i j=>eq_false fun he=>of_eq_false (e1 i j) he.symm
   have e3:∀i j q:Nat,((n2+1+i,j)=(n0,q))=False:=fun i j q=>eq_false fun he=>by injection he with h1 h2;omega
   have e3':∀i j q:Nat,((n0,q)=(n2+1+i,j))=False:=fun i j q=>eq_false fun he=>of_eq_false (e3 i j q) he.symm
   have e4:∀i j q:Nat,((n2+1+i,j)=(x0,q))=False:=fun i j q=>eq_false fun he=>by injection he with h1 h2;omega
   have e4':∀i j q:Nat,((x0,q)=(n2+1+i,j))=False:=fun i j q=>eq_false fun he=>of_eq_false (e4 i j q) he.symm
   have f1:∀j:Nat,((n2,j)=lid)=False:=fun j=>ne_idx (by omega)
   have f3:∀j q:Nat,((n2,j)=(n0,q))=False:=fun j q=>eq_false fun he=>by injection he with h1 h2;omega
   have f3':∀j q:Nat,((n0,q)=(n2,j))=False:=fun j q=>eq_false fun he=>of_eq_false (f3 j q) he.symm
   have f4:∀j q:Nat,((n2,j)=(x0,q))=False:=fun j q=>eq_false fun he=>by injection he with h1 h2;omega
   have f4':∀j q:Nat,((x0,q)=(n2,j))=False:=fun j q=>eq_false fun he=>of_eq_false (f4 j q) he.symm
   obtain ⟨hIk,hIl⟩:=hI k (by omega)
   obtain ⟨hIk2',hIl2⟩:=hI (k+1) (by omega)
   have hIk2:RetS Tryz.prog W0 114 [.i .i64 ((k:Int)+1)] [] (.s (decN (k+1))) []:=hIk2'
   have hcl:=c_cloned W0 _ run (Nat.lt_succ_self _) (by omega)
   generalize decN k=DK at *
   generalize decN (k+1)=DL at *
   have hap:List.map leafV o++[.agg [.s (pa++DK),.sl (run.map Part.enc)]]=(o++[(pa++DK,run)]).map leafV:=by simp [leafV]
   have hll:o.length+1<=LLim:=by unfold LLim;omega
   have hwk:IntKind.i64.wrap ((k:Int)+1)=((k+1:Nat):Int):=by rw [wrap64 (by omega) (by omega)];simp
   refine wkW_i (frz_slot (s:=7) (rid:=rid) (e:=TPt) (sz:=6) (es:=run.map Part.enc) (τ:=[((x0,10),.box (.agg [.i .i64 p.kind,.s p.text,.s p.name,.s p.style,.sl (p.cases.map Case.enc),.sl (p.parts.map Part.enc)])),(lid,.arr TL 2 (o.map leafV)),((n0,3),.box (.arr lid))]) rfl (by simp [lk,g2]) (fun i e' h=>?_) (okPt _) (Nat.le_refl _)) ?_
   ·have hne:i≠rid:=by
     rintro rfl
     simp [lk,g2,c3',c2'] at h
    refine ⟨?_,hne⟩
    simp only [lk] at h⊢
    by_cases hx:(x0,10)=i
    ·rw [if_pos hx] at h⊢;exact h
    ·rw [if_neg hx] at h⊢;rw [if_neg (Ne.symm hne)];exact h
   simp only [push_cast,seval,reduceEqDiff,c1,c1',c2,c2',c3,c3',g1,g1',g3,g3',e1,e1',e3,e3',e4,e4',f1,f3,f3',f4,f4',hia,TL,hap,eq_true hll,List.length_map,hwk,wrap_zip p (done:=done) (by omega)]
   repeat' (first|(((first|apply condU_s|apply gdU_t|apply gdU_f)<;>intro _h)<;>simp only [push_cast,seval,reduceEqDiff,_h,c1,c1',c2,c2',c3,c3',g1,g1',g3,g3',e1,e1',e3,e3',e4,e4',f1,f3,f3',f4,f4',hia,TL,hap,eq_true hll,List.length_map,hwk,wrap_zip p (done:=done) (by omega)])|((first|refine c_call (by exact hIk) ?_|refine c_call (by exact hcl) ?_|refine c_call (by exact hIk2) ?_|refine jp_i (by simp only [List.length_append,List.length_cons,List.length_nil,SLim]<;>omega) ?_);simp only [push_cast,seval,reduceEqDiff,c1,c1',c2,c2',c3,c3',g1,g1',g3,g3',e1,e1',e3,e3',e4,e4',f1,f3,f3',f4,f4',hia,TL,hap,eq_true hll,List.length_map,hwk,wrap_zip p (done:=done) (by omega)])|intro _)
   have hli:=c_lists W0 p (pa++DL++[47]) (n0,3) (by omega) (by simp only [List.length_append,List.length_cons,List.length_nil];omega) (2^30)
    (fun q pa' o' lid' h1 h2 h3 h4=>c_leavesFn W0 q pa' o' (n0,3) lid' h3 (ih q pa' o' lid' (by omega) (by omega) (by omega) h2 (by omega))) (o++[(pa++DK,run)]) (n2,32) (fun he=>of_eq_false (f3 _ _) he) (by simp only [List.length_append,List.length_cons,List.length_nil];omega)
   unfold Part.v at hli
   refine c_callx hli (lk_m2 (fun he=>of_eq_false (f4' _ _) he) (fun he=>of_eq_false (g3 _ _) he)) (fun n5 v σo hle hR=>?_)
   obtain ⟨rfl,id,hi1,hi2,rfl⟩:=hR
   have hlp:=lvs_part p (pa++DL++[47])
   simp only [TL]
   rw [over_m2 (fun he=>of_eq_false (f4' _ _) he) (fun he=>of_eq_false (g3 _ _) he)]
   generalize p.lvs (pa++DL++[47])=LV at *
   rw [show o++(pa++DK,run)::(LV++lvsPs rest pa (k+1) [])=(o++[(pa++DK,run)]++LV)++lvsPs rest pa (k+1) [] by simp] at hd
   simp only [push_cast,seval,reduceEqDiff,c1,c1',c2,c2',c3,c3',g1,g1',g3,g3',e1,e1',e3,e3',e4,e4',f1,f3,f3',f4,f4',hia,TL,hap,eq_true hll,List.length_map,hwk,wrap_zip p (done:=done) (by omega)]
   intros
   rename_i b4 b5
   have hx3:n5<n5+1+b4+1+b5:=by omega
   generalize n5+1+b4+1+b5=n6 at *
   have hid:id.1<n6:=by omega
   have hid2:id=(n2,32)\/n0<id.1:=by
    rcases hi1 with h|h
    ·exact .inl h
    ·exact .inr (by omega)
   refine ⟨_,⟨[(2,.s pa),(3,.ref (n0,3) 0),(7,.arr (n6,99)),(8,.i .i64 ((k+1:Nat):Int)),(11,.sl (ps.map Part.enc)),(12,.i .i64 ps.length),(13,.i .i64 (done++[p]).length)],[((n6,99),.arr TPt 6 []),(id,.arr TL 2 ((o++[(pa++DK,run)]++LV).map leafV)),((n0,3),.box (.arr id))],n6+1⟩,Nat.lt_succ_self _,(StLe.own (s:=7) (e:=TPt) (sz:=6) (k:=99) rfl).trans ((StLe.envD (fun t=>?_) (Nat.le_refl _)).trans (StLe.drop (fun i e h=>lk_app_left (τ:=[_]) h) (Nat.le_refl _))),done++[p],rest,_,id,(n6,99),_,[],k+1,by rw [hz];simp,rfl,hd,?_,?_,?_,?_,?_,?_,?_,?_,?_,?_,rfl⟩
   ·left
    by_cases h3:7=t
    ·subst h3;rfl
    ·simp [get,h3]
   ·simp only [List.length_append,List.length_cons,List.length_nil];omega
   ·simp;omega
   ·simp
   ·rw [wtPs_nil];omega
   ·omega
   ·omega
   ·simp only;omega
   ·rcases hid2 with rfl|h
    ·exact fun he=>of_eq_false (f3 _ _) he
    ·rintro rfl;simp at h
   ·intro he;injection he with h1 h2;omega
   ·rintro rfl;simp at hid
theorem c_Leaves (K:Nat) (hI:∀i:Nat,i<=K->RetS Tryz.prog W0 114 [.i .i64 i] [] (.s (decN i)) []/\(decN i).length<=20) (ps:List Part) (hw:wtPs ps<=2^24) (hK:wtPs ps<=K) (hv:validP ps=true) :
  RetS Tryz.prog W0 30 [.sl (ps.map Part.enc)] [] (.tup [.sl ((lvsPs ps [] 0 []).map leafV),.i .i64 0]) []:=by
 have hva:=c_Valid W0 ps hw
 rw [hv] at hva
 have hle:=retN_nil (e:=TL) (sz:=2) (fun id=>c_leavesA W0 K hI _ ps [] [] id (Nat.lt_succ_self _) hw hK (by simp;omega) (by simp;omega))
 rw [List.nil_append] at hle
 refine fn_retW (vs:=[.sl ((lvsPs ps [] 0 []).map leafV),.i .i64 0]) f30ok (by simp) (by simp) fun n0 hn0=>?_
 clear hn0
 simp only [push_cast,seval,reduceEqDiff]
 repeat' (first|(((first|apply condU_s|apply gdU_t|apply gdU_f)<;>intro _h)<;>simp only [push_cast,seval,reduceEqDiff,_h])|(refine c_call (by exact hva) ?_;simp only [push_cast,seval,reduceEqDiff])|intro _)
 refine c_calln hle (fun i e h=>by simp [lk] at h) ?_
 rw [over_nil]
 simp only [push_cast,seval,reduceEqDiff]
 intros
 exact ⟨⟨_,[],_⟩,frz_slot (s:=2) (e:=TL) (sz:=2) (es:=(lvsPs ps [] 0 []).map leafV) rfl (by simp [lk]) (fun _ _ h=>by cases h) (fun y hy=>by obtain ⟨x,_,rfl⟩:=List.mem_map.1 hy;rfl) (Nat.le_refl _),⟨by simp [ResOk,get],by simp [ResOk,get],trivial⟩,fun _ _ h=>by cases h⟩
def nodupK:List Bytes->List Bytes->Bool
 | _,[]=>true
 | d,k::r=>!d.contains k&&nodupK (d++[k]) r
def lastOther (l:List Bytes):Bool:=match l.getLast? with
 | none=>false
 | some k=>k == kOtherS
def headS (s:Sel):Bool:=selB s.kind&&(nameB s.name&&lastOther s.keys)
def soundGo:List Sel->List Sel->Bool
 | _,[]=>true
 | d,s::r=>headS s&&(nodupK [] s.keys&&(!d.any (selIs s.kind s.name)&&soundGo (d++[s]) r))
def soundP (f:FormP):Bool:=soundGo [] f.1&&(decide ((combP 1 f.1:Int)<=400)&&((f.2.length:Int) == (combP 1 f.1:Int)))
theorem elSel (s:Sel):ElOk true 3 s.enc:=elOk_agg rfl
theorem ifSel:okFn Tryz.prog 87 19 (gIF_0 86 3 true) gIFR=true:=by kernel_rfl
theorem cfSel:okFn Tryz.prog 46 9 (gCF_0 87) gCFR=true:=by kernel_rfl
theorem anySel {l:List Sel} {g:FuncId} {first caps:List V} {σ:Sto} {p:Sel->Bool} (hl:l.length<2^62) (hg:∀x∈l,RetS Tryz.prog W0 g (first++[x.enc]++caps) σ (.b (p x)) σ) :
  RetS Tryz.prog W0 46 [.sl (l.map Sel.enc),.fn g first caps] σ (.b (l.any p)) σ:=by
 rw [<-idxI_ge]
 exact containsFunc_ret W0 cfSel _ _ _ _ (indexFunc_ret W0 ifSel Sel.enc l p g first caps σ (fun x _=>elSel x) hg hl)
theorem c_sound1 (t s:Sel) (sid:Id) (σ:Sto) (hs:lk σ sid=some (.box (.agg [.i .i64 s.kind,.s s.name,.sl (s.keys.map V.s)]))):RetS Tryz.prog W0 47 [t.enc,.ref sid 0] σ (.b (selIs s.kind s.name t)) σ:=by
 generalize hS:selIs s.kind s.name t=S
 unfold selIs at hS
 refine fn_retW (vs:=[.b S]) f47ok (by simp) (fun _ h=>h) fun n0 hn0=>?_
 have h1:∀j,((n0,j)=sid)=False:=fun j=>ne_idx (hn0 _ _ hs)
 simp only [push_cast,seval,reduceEqDiff,h1,hs]
 repeat' (first|(((first|apply condU_s|apply gdU_t|apply gdU_f)<;>intro _h)<;>simp only [push_cast,seval,reduceEqDiff,_h,h1,hs])|intro _)
 all_goals subst hS
 all_goals (refine finW_retS (by simp [get, *]) (fun i e h=>lk_fresh (hn0 i e h) h))
theorem last_cases (l:List Bytes):(l=[]/\lastOther l=false)\/∃d k,l=d++[k]/\lastOther l=(k == kOtherS):=by
 rcases List.eq_nil_or_concat l with h|⟨d,k,h⟩
 ·left;subst h;exact ⟨rfl,rfl⟩
 ·right;refine ⟨d,k,by rw [h,List.concat_eq_append],?_⟩
  subst h;rw [List.concat_eq_append];simp [lastOther]
set_option maxHeartbeats 4000000 in
theorem c_Sound (f:FormP) (h1:f.1.length<=2^26) (hk:∀s∈f.1,s.keys.length<=2^26/\s.name.length<=2^30):RetS Tryz.prog W0 12 [formV f] [] (.b (soundP f)) []:=by
 obtain ⟨L,VS⟩:=f
 simp only at h1 hk
 have hco:=c_comb W0 L (by omega) (fun s hs=>by have:=(hk s hs).1;omega)
 unfold soundP formV
 simp only
 generalize combP 1 L=CB at *
 generalize hT:(decide ((CB:Int)<=400)&&((VS.length:Int) == (CB:Int)))=T
 generalize hS:(soundGo [] L&&T)=S
 refine fn_retW (vs:=[.b S]) f12ok (by simp) (by simp) fun n0 hn0=>?_
 clear hn0
 simp only [push_cast,seval,reduceEqDiff,List.length_map]
 intros
 refine aWP_loopW L.length (Inv:=fun m st=>∃done rest n,L=done++rest/\m=rest.length/\(soundGo done rest&&T)=S/\n0<n/\st=⟨[(1,.ref (n0,1) 0),(9,.sl (L.map Sel.enc)),(10,.i .i64 L.length),(11,.i .i64 done.length)],[((n0,1),.box (.agg [.sl (L.map Sel.enc),.sl (VS.map vEnc)]))],n⟩) ⟨_,StLe.refl,[],L,_,rfl,rfl,hS,by (try simp only);omega,rfl⟩ ?_
 clear hS
 rintro m _ ⟨done,rest,n,hz,rfl,hd,hn,rfl⟩
 cases rest with
 | nil=>
  have hlt0:decide ((done.length:Int)<(L.length:Int))=false:=by rw [hz];simp
  rw [soundGo,Bool.true_and] at hd
  subst hd
  simp only [push_cast,seval,reduceEqDiff,hlt0,List.length_map]
  repeat' (first|(((first|apply condU_s|apply gdU_t|apply gdU_f)<;>intro _h)<;>simp only [push_cast,seval,reduceEqDiff,_h,hlt0,List.length_map])|(refine c_call (by exact hco) ?_;simp only [push_cast,seval,reduceEqDiff,hlt0,List.length_map])|intro _)
  all_goals (refine finW_ret ?_;simp only [<-hT];simp [get, *])
 | cons s rest=>
  have hlt0:decide ((done.length:Int)<(L.length:Int))=true:=by rw [hz];simp;omega
  have hbd:=zip_bd hz
  obtain ⟨hks,hns⟩:=hk s (by rw [hz];simp)
  have hget:(L.map Sel.enc)[done.length]? = some s.enc:=by rw [hz,List.getElem?_map,List.getElem?_append_right (by simp)];simp
  have hsel:=c_sSel W0 s.kind
  have hnm:=c_tName W0 s.name (by unfold SLim;omega)
  rw [soundGo] at hd
  unfold headS at hd
  have f1:∀k j q:Nat,((n+1+k,j)=(n0,q))=False:=fun k j q=>eq_false fun he=>by injection he with h1 h2;omega
  have f1':∀k j q:Nat,((n0,q)=(n+1+k,j))=False:=fun k j q=>eq_false fun he=>of_eq_false (f1 k j q) he.symm
  cases hs:selB s.kind with
  | false=>
   rw [hs] at hd hsel
   simp only [Bool.false_and] at hd
   subst hd
   simp only [push_cast,seval,reduceEqDiff,hlt0,hget,if_pos hbd,f1,f1',List.length_map]
   repeat' (first|(((first|apply condU_s|apply gdU_t|apply gdU_f)<;>intro _h)<;>simp only [push_cast,seval,reduceEqDiff,_h,hlt0,hget,if_pos hbd,f1,f1',List.length_map])|(refine c_call (by exact hsel) ?_;simp only [push_cast,seval,reduceEqDiff,hlt0,hget,if_pos hbd,f1,f1',List.length_map])|intro _)
   exact finW_ret (by simp [get])
  | true=>
  cases hm:nameB s.name with
  | false=>
   rw [hs] at hd hsel
   rw [hm] at hd hnm
   simp only [Bool.false_and,Bool.true_and] at hd
   subst hd
   simp only [push_cast,seval,reduceEqDiff,hlt0,hget,if_pos hbd,f1,f1',List.length_map]
   repeat' (first|(((first|apply condU_s|apply gdU_t|apply gdU_f)<;>intro _h)<;>simp only [push_cast,seval,reduceEqDiff,_h,hlt0,hget,if_pos hbd,f1,f1',List.length_map])|((first|refine c_call (by exact hsel) ?_|refine c_call (by exact hnm) ?_);simp only [push_cast,seval,reduceEqDiff,hlt0,hget,if_pos hbd,f1,f1',List.length_map])|intro _)
   exact finW_ret (by simp [get])
  | true=>
  rw [hs] at hd hsel
  rw [hm] at hd hnm
  rcases last_cases s.keys with ⟨hk0,hlo⟩|⟨kd0,kl,hk0,hlo⟩
  ·rw [hlo] at hd
   simp only [Bool.false_and,Bool.true_and] at hd
   subst hd
   simp only [push_cast,seval,reduceEqDiff,hlt0,hget,if_pos hbd,f1,f1',List.length_map,hk0,List.map_nil,List.length_nil]
   repeat' (first|(((first|apply condU_s|apply gdU_t|apply gdU_f)<;>intro _h)<;>simp only [push_cast,seval,reduceEqDiff,_h,hlt0,hget,if_pos hbd,f1,f1',List.length_map,hk0,List.map_nil,List.length_nil])|((first|refine c_call (by exact hsel) ?_|refine c_call (by exact hnm) ?_);simp only [push_cast,seval,reduceEqDiff,hlt0,hget,if_pos hbd,f1,f1',List.length_map,hk0,List.map_nil,List.length_nil])|intro _)
   exact finW_ret (by simp [get])
  ·have hkl:s.keys.length=kd0.length+1:=by rw [hk0];simp
   have hne:((s.keys.length:Int) == 0)=false:=by rw [hkl];simp;omega
   have hw1:IntKind.i64.wrap ((s.keys.length:Int)-1)=(kd0.length:Int):=by rw [wrap64 (by omega) (by omega)];omega
   have hgl:(s.keys.map V.s)[kd0.length]? = some (.s kl):=by rw [hk0,List.getElem?_map];simp
   have hltk:kd0.length<s.keys.length:=by omega
   cases hlk:(kl == kOtherS) with
   | false=>
    have hbk:(kl == [111,116,104,101,114])=false:=hlk
    rw [hlo,hlk] at hd
    simp only [Bool.false_and,Bool.true_and] at hd
    subst hd
    simp only [push_cast,seval,reduceEqDiff,hlt0,hget,if_pos hbd,f1,f1',List.length_map,hne,hw1,hgl,if_pos hltk,hbk]
    repeat' (first|(((first|apply condU_s|apply gdU_t|apply gdU_f)<;>intro _h)<;>simp only [push_cast,seval,reduceEqDiff,_h,hlt0,hget,if_pos hbd,f1,f1',List.length_map,hne,hw1,hgl,if_pos hltk,hbk])|((first|refine c_call (by exact hsel) ?_|refine c_call (by exact hnm) ?_);simp only [push_cast,seval,reduceEqDiff,hlt0,hget,if_pos hbd,f1,f1',List.length_map,hne,hw1,hgl,if_pos hltk,hbk])|intro _)
    exact finW_ret (by simp [get])
   | true=>
    have hbk:(kl == [111,116,104,101,114])=true:=hlk
    rw [hlo,hlk] at hd
    simp only [Bool.true_and] at hd
    simp only [push_cast,seval,reduceEqDiff,hlt0,hget,if_pos hbd,f1,f1',List.length_map,hne,hw1,hgl,if_pos hltk,hbk]
    repeat' (first|(((first|apply condU_s|apply gdU_t|apply gdU_f)<;>intro _h)<;>simp only [push_cast,seval,reduceEqDiff,_h,hlt0,hget,if_pos hbd,f1,f1',List.length_map,hne,hw1,hgl,if_pos hltk,hbk])|((first|refine c_call (by exact hsel) ?_|refine c_call (by exact hnm) ?_);simp only [push_cast,seval,reduceEqDiff,hlt0,hget,if_pos hbd,f1,f1',List.length_map,hne,hw1,hgl,if_pos hltk,hbk])|intro _)
    rename_i b1 b2 b3 b4
    have hx:n<n+1+b1/\n+1+b1<n+1+b1+1+b2+1+b3+1+b4:=by omega
    generalize n+1+b1+1+b2+1+b3+1+b4=n2 at *
    generalize n+1+b1=x0 at *
    obtain ⟨hx1,hx2⟩:=hx
    have g1:∀j q:Nat,((x0,j)=(n0,q))=False:=fun j q=>eq_false fun he=>by injection he with h1 h2;omega
    have g1':∀j q:Nat,((n0,q)=(x0,j))=False:=fun j q=>eq_false fun he=>of_eq_false (g1 j q) he.symm
    clear hk0 hlo hkl hne hw1 hgl hltk hbk hlk hsel hnm f1 f1'
    refine aWP_loopW s.keys.length (Inv:=fun m st=>∃kd kr n,s.keys=kd++kr/\m=kr.length/\(nodupK kd kr&&(!done.any (selIs s.kind s.name)&&soundGo (done++[s]) rest)&&T)=S/\x0<n/\st=⟨[(1,.ref (n0,1) 0),(3,.i .i64 done.length),(4,.ref (x0,4) 0),(9,.sl (L.map Sel.enc)),(10,.i .i64 L.length),(11,.i .i64 done.length),(44,.sl (s.keys.map V.s)),(45,.i .i64 s.keys.length),(46,.i .i64 kd.length)],[((x0,4),.box (.agg [.i .i64 s.kind,.s s.name,.sl (s.keys.map V.s)])),((n0,1),.box (.agg [.sl (L.map Sel.enc),.sl (VS.map vEnc)]))],n⟩) ⟨_,StLe.refl,[],s.keys,_,rfl,rfl,hd,hx2,rfl⟩ ?_
    clear hd
    rintro m _ ⟨kd,kr,n3,hkz,rfl,hd,hn3,rfl⟩
    cases kr with
    | nil=>
     have hlt1:decide ((kd.length:Int)<(s.keys.length:Int))=false:=by rw [hkz];simp
     rw [nodupK,Bool.true_and] at hd
     have han:=anySel W0 (l:=done) (p:=selIs s.kind s.name) (σ:=[((x0,4),.box (.agg [.i .i64 s.kind,.s s.name,.sl (s.keys.map V.s)]))]) (first:=[]) (caps:=[.ref (x0,4) 0]) (by omega) (fun t _=>c_sound1 W0 t s (x0,4) _ (by simp [lk]))
     have htk:(if 0<=done.length/\done.length<=L.length then some (V.sl (List.take done.length (L.map Sel.enc))) else none)=some (V.sl (done.map Sel.enc)):=by
      rw [if_pos ⟨Nat.zero_le _,by omega⟩,hz];simp
     have hcel:∀y∈L.map Sel.enc,(cells y).length=3:=fun y hy=>by obtain ⟨x,_,rfl⟩:=List.mem_map.1 hy;rfl
     generalize hAN:done.any (selIs s.kind s.name)=AN at *
     cases AN with
     | true=>
      simp only [bq,if_true,if_false,Int.reduceBEq,reduceCtorEq] at hd
      subst hd
      simp only [push_cast,seval,reduceEqDiff,hlt1,List.length_map,g1,g1',htk,eq_true hcel]
      intros
      refine c_callr han (fun i e h=>lk_app_left (τ:=[_]) h) ?_
      simp only [push_cast,seval,reduceEqDiff,hlt1,List.length_map,g1,g1',htk,eq_true hcel]
      intros
      exact finW_ret (by simp [get])
     | false=>
      simp only [bq,if_true,if_false,Int.reduceBEq,reduceCtorEq] at hd
      simp only [push_cast,seval,reduceEqDiff,hlt1,List.length_map,g1,g1',htk,eq_true hcel,wrap_zip s (done:=done) (by omega)]
      intros
      refine c_callr han (fun i e h=>lk_app_left (τ:=[_]) h) ?_
      simp only [push_cast,seval,reduceEqDiff,hlt1,List.length_map,g1,g1',htk,eq_true hcel,wrap_zip s (done:=done) (by omega)]
      intros
      exact ⟨_,_,Nat.lt_succ_self _,StLe.drop1 (by simp [lk,g1']) (Nat.le_refl _),done++[s],rest,_,by rw [hz];simp,rfl,hd,by omega,rfl⟩
    | cons key kr=>
     have hlt1:decide ((kd.length:Int)<(s.keys.length:Int))=true:=by rw [hkz];simp;omega
     have hkb:=zip_bd hkz
     rw [nodupK] at hd
     have hgk:(s.keys.map V.s)[kd.length]? = some (.s key):=by rw [hkz,List.getElem?_map,List.getElem?_append_right (by simp)];simp
     have htk:(if 0<=kd.length/\kd.length<=s.keys.length then some (V.sl (List.take kd.length (s.keys.map V.s))) else none)=some (V.sl (kd.map V.s)):=by
      rw [if_pos ⟨Nat.zero_le _,by omega⟩,hkz];simp
     have hcel:∀y∈s.keys.map V.s,(cells y).length=1:=fun y hy=>by obtain ⟨x,_,rfl⟩:=List.mem_map.1 hy;rfl
     have hin:=c_containsS W0 kd key (by omega)
     cases hc:kd.contains key with
     | true=>
      rw [hc] at hd hin
      simp only [bq,if_true,if_false,Int.reduceBEq,reduceCtorEq] at hd
      subst hd
      simp only [push_cast,seval,reduceEqDiff,hlt1,List.length_map,g1,g1',htk,hgk,if_pos hkb,eq_true hcel]
      repeat' (first|(((first|apply condU_s|apply gdU_t|apply gdU_f)<;>intro _h)<;>simp only [push_cast,seval,reduceEqDiff,_h,hlt1,List.length_map,g1,g1',htk,hgk,if_pos hkb,eq_true hcel])|(refine c_call (by exact hin) ?_;simp only [push_cast,seval,reduceEqDiff,hlt1,List.length_map,g1,g1',htk,hgk,if_pos hkb,eq_true hcel])|intro _)
      exact finW_ret (by simp [get])
     | false=>
      rw [hc] at hd hin
      simp only [bq,if_true,if_false,Int.reduceBEq,reduceCtorEq] at hd
      simp only [push_cast,seval,reduceEqDiff,hlt1,List.length_map,g1,g1',htk,hgk,if_pos hkb,eq_true hcel,wrap_zip key (done:=kd) (by omega)]
      repeat' (first|(((first|apply condU_s|apply gdU_t|apply gdU_f)<;>intro _h)<;>simp only [push_cast,seval,reduceEqDiff,_h,hlt1,List.length_map,g1,g1',htk,hgk,if_pos hkb,eq_true hcel,wrap_zip key (done:=kd) (by omega)])|(refine c_call (by exact hin) ?_;simp only [push_cast,seval,reduceEqDiff,hlt1,List.length_map,g1,g1',htk,hgk,if_pos hkb,eq_true hcel,wrap_zip key (done:=kd) (by omega)])|intro _)
      exact ⟨_,_,Nat.lt_succ_self _,StLe.refl,kd++[key],kr,_,by rw [hkz];simp,rfl,hd,by omega,rfl⟩
theorem retS_weak {P:Program} {W0:World} {f:FuncId} {args args':List V} {σ σ':Sto} {v:V} (h:RetS P W0 f args' σ v σ') (hl:args.length=args'.length)
  (ha:∀(k:Nat) (a a':V),args[k]? = some a->args'[k]? = some a'->VLe (fun _=>none) a a'):RetS P W0 f args σ v σ' where
 callable:=h.callable
 dom:=h.dom
 run:=fun n w μ H vals hp hv=>h.run n w μ H vals hp ⟨by rw [<-hl];exact hv.len,fun k c x hc hx=>by
  have hk:k<args.length:=by rw [hl];exact (List.getElem?_eq_some_iff.1 hc).1
  have hg:args[k]? = some args[k]:=List.getElem?_eq_getElem hk
  exact VRel.le (fun _ _ h=>h) (fun _ _ h=>by cases h) (ha k _ _ hg hc) (hv.at_ k _ x hg hx)⟩
def VLs (φ:Id->Option (List V)):List V->List V->Prop
 | [],[]=>True
 | a::xs,b::ys=>(VLe φ a b/\(cells b).length=(cells a).length/\a.ok=true/\b.ok=true)/\VLs φ xs ys
 | _,_=>False
theorem VLs.at_ {φ:Id->Option (List V)}:∀{xs ys:List V},VLs φ xs ys->xs.length=ys.length/\∀(k:Nat) (c c':V),xs[k]? = some c->ys[k]? = some c'->VLe φ c c'/\(cells c').length=(cells c).length/\c.ok=true/\c'.ok=true
 | [],[],_=>⟨rfl,fun k c c' h=>by simp at h⟩
 | a::xs,b::ys,h=>by
  obtain ⟨h1,h2⟩:=h
  obtain ⟨h3,h4⟩:=VLs.at_ h2
  refine ⟨by simp [h3],fun k c c' hc hc'=>?_⟩
  cases k with
  | zero=>simp at hc hc';subst hc hc';exact h1
  | succ k=>exact h4 k c c' (by simpa using hc) (by simpa using hc')
theorem vle_slL {φ:Id->Option (List V)} {xs ys:List V} (h:VLs φ xs ys):VLe φ (.sl xs) (.sl ys):=.sl _ _ h.at_.1 (fun k c c' h1 h2=>(h.at_.2 k c c' h1 h2).1) (fun k c c' h1 h2=>(h.at_.2 k c c' h1 h2).2)
theorem vle_agL {φ:Id->Option (List V)} {xs ys:List V} (h:VLs φ xs ys):VLe φ (.agg xs) (.agg ys):=.agg _ _ h.at_.1 (fun k c c' h1 h2=>(h.at_.2 k c c' h1 h2).1)
def tA:Part:=⟨1,[97],[],[],[],[]⟩
def tX:Part:=⟨1,[120],[],[],[],[]⟩
def tC:Part:=⟨10,[],[],[],[],[]⟩
def awakeP:List Part:=[tA,⟨7,[],[110],[],[([111,110,101],[tX]),([111,116,104,101,114],[tC])],[]⟩]
def litT (k:Int) (t:Bytes):V:=.agg [.i .i64 k,.s t,.s [],.s [],.nil,.nil]
def awakeV:V:=.sl [litT 1 [97],.agg [.i .i64 7,.s [],.s [110],.s [],.sl [.agg [.s [111,110,101],.sl [litT 1 [120]]],.agg [.s [111,116,104,101,114],.sl [litT 10 []]]],.nil]]
theorem vle_lit (φ:Id->Option (List V)) (k:Int) (t:Bytes):VLe φ (litT k t) (Part.enc ⟨k,t,[],[],[],[]⟩):=by
 rw [Part.enc_eq]
 exact vle_agL ⟨⟨.refl _,rfl,rfl,rfl⟩,⟨.refl _,rfl,rfl,rfl⟩,⟨.refl _,rfl,rfl,rfl⟩,⟨.refl _,rfl,rfl,rfl⟩,⟨.nil,rfl,rfl,rfl⟩,⟨.nil,rfl,rfl,rfl⟩,trivial⟩
theorem vle_awake (φ:Id->Option (List V)):VLe φ awakeV (.sl (awakeP.map Part.enc)):=by
 have l1:∀k t,VLe φ (.sl [litT k t]) (.sl [Part.enc ⟨k,t,[],[],[],[]⟩]):=fun k t=>vle_slL ⟨⟨vle_lit φ k t,rfl,rfl,rfl⟩,trivial⟩
 refine vle_slL ⟨⟨vle_lit φ 1 [97],rfl,rfl,rfl⟩,⟨?_,rfl,rfl,rfl⟩,trivial⟩
 rw [Part.enc_eq]
 refine vle_agL ⟨⟨.refl _,rfl,rfl,rfl⟩,⟨.refl _,rfl,rfl,rfl⟩,⟨.refl _,rfl,rfl,rfl⟩,⟨.refl _,rfl,rfl,rfl⟩,⟨?_,rfl,rfl,rfl⟩,⟨.nil,rfl,rfl,rfl⟩,trivial⟩
 exact vle_slL ⟨⟨vle_agL ⟨⟨.refl _,rfl,rfl,rfl⟩,⟨l1 1 [120],rfl,rfl,rfl⟩,trivial⟩,rfl,rfl,rfl⟩,⟨vle_agL ⟨⟨.refl _,rfl,rfl,rfl⟩,⟨l1 10 [],rfl,rfl,rfl⟩,trivial⟩,rfl,rfl,rfl⟩,trivial⟩
theorem dec01:decN 0=[48]/\decN 1=[49]:=by constructor<;>(unfold decN Lib.decDigits;rfl)
def tP:Part:=⟨7,[],[110],[],[([111,110,101],[tX]),([111,116,104,101,114],[tC])],[]⟩
theorem awake_lvs:lvsPs awakeP [] 0 []=[([48],[tA]),([49,47,111,110,101,47,48],[tX]),([49,47,111,116,104,101,114,47,48],[tC]),([49],[])]:=by
 have s1:tA.solid=true:=rfl
 have s2:tP.solid=false:=rfl
 have s3:tX.solid=true:=rfl
 have s4:tC.solid=true:=rfl
 have l2:∀pa,tP.lvs pa=lvsCs [([111,110,101],[tX]),([111,116,104,101,114],[tC])] pa:=fun pa=>by rw [Part.lvs_eq];rfl
 show lvsPs [tA,tP] [] 0 []=_
 simp only [lvsPs_cons,s1,s2,s3,s4,if_true,if_false,Bool.false_eq_true,lvsPs_nil,l2,lvsCs_cons,lvsCs,Nat.zero_add,dec01.1,dec01.2]
 rfl
def loc0:Loc:=⟨[],[],[],[],[],[.s [],.s [],.s [],.s [],.i .i64 0,.i .i64 0,.nil,.nil,.nil,.nil,.nil]⟩
theorem awake_valid:validP awakeP=true:=by decide
theorem awake_flat:flatP loc0 awakeP=(([⟨7,[110],[[111,110,101],[111,116,104,101,114]]⟩],[[⟨1,[97,120],[],[],[],[]⟩],[tA,⟨3,[],[110],[],[],[]⟩]]),0):=by rfl
theorem c_FlatG (l:Loc) (ps:List Part) (hrl:l.rest.length=11) (hb:wtRules l.card+wtRules l.ord<=2^24) (hw:wtPs ps<=2^20) :
  RetS Tryz.prog W0 11 [l.enc,.sl (ps.map Part.enc)] [] (.tup [formV (flatP l ps).1,.i .i64 (flatP l ps).2]) []:=
 c_Flat W0 l ps rfl hrl hb (by omega) (by have:=sels_len ps;omega) (fun s hs=>by have:=sels_keys ps s hs;exact ⟨this.1,by omega⟩) (fun s hs k hk=>by have:=sels_klen ps s hs k hk;omega)
  (fun hv=>valid_ok (valid_wf (by rw [<-valid_same];exact hv)))
theorem c_awake:RetS Tryz.prog W0 8 [] [] (.b true) []:=by
 have hI:∀i:Nat,i<=99->RetS Tryz.prog W0 114 [.i .i64 i] [] (.s (decN i)) []/\(decN i).length<=20:=fun i hi=>by
  refine ⟨c_itoa W0 i (by omega),?_⟩
  unfold decN Lib.decDigits
  split
  ·simp
  ·unfold Lib.decDigits
   rw [dif_pos (by omega)]
   simp
 have hwt:wtPs awakeP<=99:=by decide
 have hlv:=c_Leaves W0 99 hI awakeP (by omega) (by omega) awake_valid
 rw [awake_lvs] at hlv
 have hlv2:RetS Tryz.prog W0 30 [awakeV] [] _ []:=retS_weak hlv rfl (fun k a a' h1 h2=>by
  match k with
  | 0=>simp at h1 h2;subst h1 h2;exact vle_awake _
  | k+1=>simp at h1)
 have hfl:=c_FlatG W0 loc0 awakeP rfl (by decide) (by omega)
 rw [awake_flat] at hfl
 have hfl2:RetS Tryz.prog W0 11 [.agg [.s [],.s [],.s [],.nil,.nil,.s [],.s [],.s [],.s [],.i .i64 0,.i .i64 0,.nil,.nil,.nil,.nil,.nil],awakeV] [] _ []:=retS_weak hfl rfl (fun k a a' h1 h2=>by
  match k with
  | 0=>
   simp only [List.getElem?_cons_zero,Option.some.injEq] at h1 h2;subst h1 h2
   exact vle_agL ⟨⟨.refl _,rfl,rfl,rfl⟩,⟨.refl _,rfl,rfl,rfl⟩,⟨.refl _,rfl,rfl,rfl⟩,⟨.nil,rfl,rfl,rfl⟩,⟨.nil,rfl,rfl,rfl⟩,⟨.refl _,rfl,rfl,rfl⟩,⟨.refl _,rfl,rfl,rfl⟩,⟨.refl _,rfl,rfl,rfl⟩,⟨.refl _,rfl,rfl,rfl⟩,⟨.refl _,rfl,rfl,rfl⟩,⟨.refl _,rfl,rfl,rfl⟩,⟨.refl _,rfl,rfl,rfl⟩,⟨.refl _,rfl,rfl,rfl⟩,⟨.refl _,rfl,rfl,rfl⟩,⟨.refl _,rfl,rfl,rfl⟩,⟨.refl _,rfl,rfl,rfl⟩,trivial⟩
  | 1=>simp only [List.getElem?_cons_zero,List.getElem?_cons_succ,Option.some.injEq] at h1 h2;subst h1 h2;exact vle_awake _
  | k+2=>simp at h1)
 have hso:=c_Sound W0 ([⟨7,[110],[[111,110,101],[111,116,104,101,114]]⟩],[[⟨1,[97,120],[],[],[],[]⟩],[tA,⟨3,[],[110],[],[],[]⟩]]) (by decide) (fun s hs=>by simp at hs;subst hs;decide)
 rw [show soundP ([⟨7,[110],[[111,110,101],[111,116,104,101,114]]⟩],[[⟨1,[97,120],[],[],[],[]⟩],[tA,⟨3,[],[110],[],[],[]⟩]])=true from rfl] at hso
 have hpl:=c_plain W0 _ [tA,⟨3,[],[110],[],[],[]⟩] (Nat.lt_succ_self _) (by decide)
 rw [show plainPs [tA,⟨3,[],[110],[],[],[]⟩]=true from rfl] at hpl
 have heq:=c_rEqual W0 _ [⟨1,[97,120],[],[],[],[]⟩] [⟨1,[97,120],[],[],[],[]⟩] (Nat.lt_succ_self _) (by decide)
 rw [eqPs_refl] at heq
 have heq2:RetS Tryz.prog W0 28 [.sl ([(⟨1,[97,120],[],[],[],[]⟩:Part)].map Part.enc),.sl [litT 1 [97,120]]] [] _ []:=retS_weak heq rfl (fun k a a' h1 h2=>by
  match k with
  | 0=>simp only [List.getElem?_cons_zero,Option.some.injEq] at h1 h2;subst h1 h2;exact .refl _
  | 1=>simp only [List.getElem?_cons_zero,List.getElem?_cons_succ,Option.some.injEq] at h1 h2;subst h1 h2;exact vle_slL ⟨⟨vle_lit _ _ _,rfl,rfl,rfl⟩,trivial⟩
  | k+2=>simp at h1)
 unfold formV at hfl2 hso
 simp only [List.map_cons,List.map_nil] at hlv2 hfl2 hso hpl heq2
 simp only [vEnc,List.map_cons,List.map_nil] at hfl2 hso
 generalize [Part.enc ⟨1,[97,120],[],[],[],[]⟩]=V0 at *
 generalize [tA.enc,Part.enc ⟨3,[],[110],[],[],[]⟩]=V1 at *
 generalize V.sl [Sel.enc ⟨7,[110],[[111,110,101],[111,116,104,101,114]]⟩]=SL at *
 rw [leafV_eq ([49,47,111,110,101,47,48],[tX])] at hlv2
 generalize leafV ([48],[tA])=L0 at *
 generalize leafV ([49,47,111,116,104,101,114,47,48],[tC])=L2 at *
 generalize leafV ([49],[])=L3 at *
 generalize V.sl (List.map Part.enc [tX])=LX at *
 unfold awakeV litT at hlv2 hfl2
 unfold litT at heq2
 clear hlv hfl heq hI hwt
 refine fn_retW (vs:=[.b true]) f8ok (by simp) (by simp) fun n0 hn0=>?_
 clear hn0
 simp only [push_cast,seval,reduceEqDiff,show (([49,47,111,110,101,47,48]:Bytes) == [49,47,111,110,101,47,48])=true from rfl]
 repeat' (first|(((first|apply condU_s|apply gdU_t|apply gdU_f)<;>intro _h)<;>simp only [push_cast,seval,reduceEqDiff,_h,show (([49,47,111,110,101,47,48]:Bytes) == [49,47,111,110,101,47,48])=true from rfl])|((first|refine c_call (by exact hlv2) ?_|refine c_call (by exact hfl2) ?_|refine c_call (by exact heq2) ?_|refine c_call (by exact hso) ?_|refine c_call (by exact hpl) ?_);simp only [push_cast,seval,reduceEqDiff,show (([49,47,111,110,101,47,48]:Bytes) == [49,47,111,110,101,47,48])=true from rfl])|intro _)
 all_goals (first|(refine finW_ret ?_;simp [get]<;>(intros;omega);done)|(refine finW_rets ?_;simp [push_cast,get];done)|skip)
theorem flatP_form (l:Loc) (ps:List Part):(flatP l ps).1=([],[])\/(validB ps=true/\combP 1 (selsP ps)<=400/\(flatP l ps).1=(selsP ps,varsOf (pkP l (selsP ps)) (selsP ps) ps (combP 1 (selsP ps)))):=by
 unfold flatP
 rw [valid_same]
 cases hv:validB ps with
 | false=>left;rfl
 | true=>
  simp only [Bool.not_true,Bool.false_eq_true,if_false]
  by_cases h:decide ((combP 1 (selsP ps):Int)>400)=true
  ·rw [if_pos h];left;rfl
  ·rw [if_neg h]
   split
   ·left;rfl
   ·right;refine ⟨trivial,?_,rfl⟩
    simp at h;omega
theorem flatP_bounds (l:Loc) (ps:List Part) (hw:wtPs ps<=2^20):(flatP l ps).1.1.length<=2^26/\(flatP l ps).1.2.length<=400/\(∀s∈(flatP l ps).1.1,s.keys.length<=2^26)/\∀v∈(flatP l ps).1.2,wtPs v<=2^19:=by
 rcases flatP_form l ps with h|⟨hv,hc,h⟩
 ·rw [h];exact ⟨by decide,by decide,(fun s (hs:s∈[])=>by cases hs),(fun v (hv:v∈[])=>by cases hv)⟩
 ·rw [h]
  refine ⟨by have:=sels_len ps;simp only;omega,by simp [varsOf];omega,fun s hs=>by have:=(sels_keys ps s hs).2;omega,fun v hm=>?_⟩
  obtain ⟨i,_,rfl⟩:=List.mem_map.1 hm
  exact vars_wt l hv _ _
end Go.Ir
namespace Go.Ir
open Go.Proofs
variable {P : Program} {W0 : World} {nt n : Nat} {Q : Exit → St → Prop} {env : Env} {σ : Sto}
def f14_29:IC:=.seq (.block 3 (.seq (.ops [o1 37 (.faddr (.t 4) 4),o1 38 (.load (.t 37) 1 false),m1 39 5,o1 40 (.iaddr (.t 38) (.t 39) 77 2),o1 41 (.faddr (.t 40) 1),o1 42 (.load (.t 41) 1 false),o1 43 (.call 14 [.t 42])] [0,3,4,5,43] []) (.cond (.t 43) (.seq (.ops [o1 2 (.mv (.c (.b true)))] [2] []) .ret) .skip))) (.ops [m1 35 5,o1 36 (.bin .add (.t 35) (ci 1)),m1 5 36] [0,3,4,5] [])
def f14_25:IC:=.seq (.seq (.ops [m1 24 5,o1 25 (.faddr (.t 4) 4),o1 26 (.load (.t 25) 1 false),o1 27 (.lenL (.t 26)),o1 28 (.bin .lss (.t 24) (.t 27)),m1 29 28,⟨some 30,.faddr (.t 4) 0,some (29,true),[]⟩,⟨some 31,.load (.t 30) 1 false,some (29,true),[]⟩,⟨some 32,.call 51 [.t 31],some (29,true),[]⟩,⟨some 33,.not (.t 32),some (29,true),[]⟩,o1 34 (.pick (.t 29) (.t 33) (.c (.b false)))] [0,3,4,5,34] []) (.cond (.t 34) .skip (.exit 2))) f14_29
def f14_15:IC:=.seq (.seq (.ops [o1 16 (.faddr (.t 4) 0),o1 17 (.load (.t 16) 1 false),o1 18 (.bin .eql (.t 17) (ci 10)),m1 19 18,⟨some 20,.faddr (.t 4) 5,some (19,false),[]⟩,⟨some 21,.load (.t 20) 1 false,some (19,false),[]⟩,⟨some 22,.call 14 [.t 21],some (19,false),[]⟩,o1 23 (.pick (.t 19) (.c (.b true)) (.t 22))] [0,3,4,23] []) (.cond (.t 23) (.seq (.ops [o1 2 (.mv (.c (.b true)))] [2] []) .ret) .skip)) (.seq (.ops [o1 5 (.mv (ci 0))] [0,3,4,5] []) (.block 2 (.loop f14_25)))
def f14_11:IC:=.seq (.block 1 (.seq (.ops [m1 12 0,m1 13 3,o1 14 (.iaddr (.t 12) (.t 13) 75 6),o1 15 (.load (.t 14) 6 true),o1 4 (.alloc (.agg [(.i .i64 0),(.s []),(.s []),(.s []),.nil,.nil])),o0 (.store (.t 4) (.t 15) 6)] [0,3,4] []) f14_15)) (.ops [m1 10 3,o1 11 (.bin .add (.t 10) (ci 1)),m1 3 11] [0,3] [])
def f14_7:IC:=.seq (.seq (.ops [m1 6 3,m1 7 0,o1 8 (.lenL (.t 7)),o1 9 (.bin .lss (.t 6) (.t 8))] [0,3,9] []) (.cond (.t 9) .skip (.exit 0))) f14_11
def f14_2:IC:=.seq (.seq (.ops [o1 3 (.mv (ci 0))] [0,3] []) (.block 0 (.loop f14_7))) (.seq (.ops [o1 2 (.mv (.c (.b false)))] [2] []) .ret)
def f14_0:IC:=.seq (.ops [o1 2 (.mv (.c (.b false)))] [0] []) f14_2
@[push_cast]def f14R:List R:=[.t 2]
@[push_cast]def f14e:=aWv f14_29.eq_1<|aWv f14_25.eq_1<|aWv f14_15.eq_1<|aWv f14_11.eq_1<|aWv f14_7.eq_1<|aWv f14_2.eq_1<|aWu f14_0.eq_1
theorem f14ok:okFn Tryz.prog 14 44 f14_0 f14R=true:=by kernel_rfl
def f3_20:IC:=.seq (.ops [o1 30 (.faddr (.t 7) 1),o1 31 (.load (.t 30) 1 false),o1 32 (.lenL (.t 31)),o1 33 (.bin .eql (.t 32) (ci 0)),m1 6 33] [6] []) .ret
def f3_44:IC:=.seq (.ops [m1 93 1,o1 94 (.call 17 [.t 93]),o1 95 (.not (.t 94)),m1 96 95,⟨some 97,.faddr (.t 7) 1,some (96,false),[]⟩,⟨some 98,.load (.t 97) 1 false,some (96,false),[]⟩,⟨some 99,.lenL (.t 98),some (96,false),[]⟩,⟨some 100,.bin .eql (.t 99) (ci 1),some (96,false),[]⟩,⟨some 101,.mv (.t 100),some (96,false),[]⟩,⟨some 102,.mv (.t 9),some (101,true),[]⟩,⟨some 103,.mv (.t 1),some (101,true),[]⟩,⟨some 104,.call 16 [.t 102,.t 103],some (101,true),[]⟩,⟨some 105,.pick (.t 101) (.t 104) (.c (.b false)),some (96,false),[]⟩,o1 106 (.pick (.t 96) (.c (.b true)) (.t 105)),m1 6 106] [6] []) .ret
def f3_38:IC:=.seq (.seq (.ops [m1 66 9,o1 67 (.call 15 [.t 66]),m1 68 67,⟨some 69,.mv (.t 11),some (68,true),[]⟩,⟨some 70,.bin .neq (.t 69) (ci 0),some (68,true),[]⟩,⟨some 71,.mv (.t 70),some (68,true),[]⟩,⟨some 72,.faddr (.t 10) 1,some (71,false),[]⟩,⟨some 73,.load (.t 72) 1 false,some (71,false),[]⟩,⟨some 74,.lenL (.t 73),some (71,false),[]⟩,⟨some 75,.bin .neq (.t 74) (ci 1),some (71,false),[]⟩,⟨some 76,.pick (.t 71) (.c (.b true)) (.t 75),some (68,true),[]⟩,⟨some 77,.mv (.t 76),some (68,true),[]⟩,⟨some 78,.faddr (.t 10) 0,some (77,false),[]⟩,⟨some 79,.load (.t 78) 1 false,some (77,false),[]⟩,⟨some 80,.lenL (.t 79),some (77,false),[]⟩,⟨some 81,.bin .neq (.t 80) (ci 0),some (77,false),[]⟩,⟨some 82,.pick (.t 77) (.c (.b true)) (.t 81),some (68,true),[]⟩,⟨some 83,.mv (.t 82),some (68,true),[]⟩,⟨some 84,.faddr (.t 10) 1,some (83,false),[]⟩,⟨some 85,.load (.t 84) 1 false,some (83,false),[]⟩,⟨some 86,.iaddr (.t 85) (ci 0) 31 1,some (83,false),[]⟩,⟨some 87,.load (.t 86) 1 false,some (83,false),[]⟩,⟨some 88,.mv (.t 9),some (83,false),[]⟩,⟨some 89,.call 16 [.t 87,.t 88],some (83,false),[]⟩,⟨some 90,.not (.t 89),some (83,false),[]⟩,⟨some 91,.pick (.t 83) (.c (.b true)) (.t 90),some (68,true),[]⟩,o1 92 (.pick (.t 68) (.t 91) (.c (.b false)))] [1,7,9,92] []) (.cond (.t 92) (.seq (.ops [o1 6 (.mv (.c (.b false)))] [6] []) .ret) .skip)) f3_44
def f3_36:IC:=.seq (.ops [o1 61 (.load (.t 3) 16 true),m1 62 9,o1 63 (.call 11 [.t 61,.t 62]),m1 60 63,o1 64 (.ext (.t 60) 0),o1 65 (.ext (.t 60) 1),o1 10 (.alloc (.agg [.nil,.nil])),o0 (.store (.t 10) (.t 64) 2),m1 11 65] [1,7,9,10,11] []) f3_38
def f3_30:IC:=.seq (.seq (.ops [m1 53 9,o1 54 (.call 13 [.t 53]),o1 55 (.not (.t 54)),m1 56 55,⟨some 57,.mv (.t 9),some (56,false),[]⟩,⟨some 58,.call 14 [.t 57],some (56,false),[]⟩,o1 59 (.pick (.t 56) (.c (.b true)) (.t 58))] [1,3,7,9,59] []) (.cond (.t 59) (.seq (.ops [o1 6 (.mv (.c (.b false)))] [6] []) .ret) .skip)) f3_36
def f3_28:IC:=.seq (.ops [o1 43 (.faddr (.t 7) 1),o1 44 (.load (.t 43) 1 false),m1 45 2,o1 46 (.cvi .i64 (.t 45)),o1 47 (.faddr (.t 7) 1),o1 48 (.load (.t 47) 1 false),o1 49 (.lenL (.t 48)),o1 50 (.bin .rem (.t 46) (.t 49)),o1 51 (.iaddr (.t 44) (.t 50) 31 1),o1 52 (.load (.t 51) 1 false),m1 9 52] [1,3,7,9] [[0,1],[2,3],[4,5],[5,6],[3,7],[6,7],[1,8],[7,8],[8,9],[9,10]]) f3_30
def f3_22:IC:=.seq (.seq (.ops [o1 34 (.load (.t 7) 2 true),o1 35 (.call 12 [.t 34]),o1 36 (.not (.t 35)),m1 37 36,⟨some 38,.faddr (.t 7) 1,some (37,false),[]⟩,⟨some 39,.load (.t 38) 1 false,some (37,false),[]⟩,⟨some 40,.lenL (.t 39),some (37,false),[]⟩,⟨some 41,.bin .eql (.t 40) (ci 0),some (37,false),[]⟩,o1 42 (.pick (.t 37) (.c (.b true)) (.t 41))] [1,2,3,7,42] []) (.cond (.t 42) (.seq (.ops [o1 6 (.mv (.c (.b false)))] [6] []) .ret) .skip)) f3_28
def f3_16:IC:=.seq (.seq (.ops [m1 28 8,o1 29 (.bin .neq (.t 28) (ci 0))] [1,2,3,7,29] []) (.cond (.t 29) f3_20 .skip)) f3_22
def f3_14:IC:=.seq (.ops [o1 23 (.load (.t 3) 16 true),m1 24 1,o1 25 (.call 11 [.t 23,.t 24]),m1 22 25,o1 26 (.ext (.t 22) 0),o1 27 (.ext (.t 22) 1),o1 7 (.alloc (.agg [.nil,.nil])),o0 (.store (.t 7) (.t 26) 2),m1 8 27] [1,2,3,7,8] []) f3_16
def f3_8:IC:=.seq (.seq (.ops [o1 14 (.load (.t 3) 16 true),o1 15 (.call 9 [.t 14]),o1 16 (.not (.t 15)),m1 17 16,⟨some 18,.mv (.t 1),some (17,false),[]⟩,⟨some 19,.call 10 [.t 18],some (17,false),[]⟩,⟨some 20,.not (.t 19),some (17,false),[]⟩,o1 21 (.pick (.t 17) (.c (.b true)) (.t 20))] [1,2,3,21] []) (.cond (.t 21) (.seq (.ops [o1 6 (.mv (.c (.b true)))] [6] []) .ret) .skip)) f3_14
def f3_2:IC:=.seq (.seq (.ops [o1 12 (.call 8 []),o1 13 (.not (.t 12))] [1,2,3,13] []) (.cond (.t 13) (.seq (.ops [o1 6 (.mv (.c (.b false)))] [6] []) .ret) .skip)) f3_8
def f3_0:IC:=.seq (.ops [o1 3 (.box (.t 0)),o1 6 (.mv (.c (.b false)))] [1,2,3] []) f3_2
@[push_cast]def f3R:List R:=[.t 6]
@[push_cast]def f3e:=aWv f3_20.eq_1<|aWv f3_44.eq_1<|aWv f3_38.eq_1<|aWv f3_36.eq_1<|aWv f3_30.eq_1<|aWv f3_28.eq_1<|aWv f3_22.eq_1<|aWv f3_16.eq_1<|aWv f3_14.eq_1<|aWv f3_8.eq_1<|aWv f3_2.eq_1<|aWu f3_0.eq_1
theorem f3ok:okFn Tryz.prog 3 107 f3_0 f3R=true:=by kernel_rfl
end Go.Ir
namespace Go.Ir
structure Bare (p:Part):Prop where
 sel:selB p.kind=false
 ten:(p.kind == 10)=false
 cs:p.cases=[]
theorem allPs_app (f:Part->Prop) (a b:List Part):allPs f (a++b)↔allPs f a/\allPs f b:=by
 induction a with
 | nil=>simp [allPs]
 | cons x a ih=>rw [List.cons_append,allPs_cons,allPs_cons,ih,and_assoc]
theorem allPs_one (f:Part->Prop) (x:Part):allPs f [x]↔x.all f:=by rw [allPs_cons];simp [allPs]
theorem bare_addP {o:List Part} {x:Part} (h:allPs Bare o) (hx:x.all Bare):allPs Bare (addP o x):=by
 rcases List.eq_nil_or_concat o with rfl|⟨d,y,rfl⟩
 ·rw [addP_nil,allPs_one];exact hx
 ·rw [List.concat_eq_append] at *
  rw [addP_snoc]
  split
  ·rw [allPs_app,allPs_one] at h⊢
   refine ⟨h.1,?_⟩
   have:=(Part.all_eq _ _).1 h.2
   exact (Part.all_eq _ _).2 ⟨⟨this.1.sel,this.1.ten,this.1.cs⟩,this.2⟩
  ·rw [allPs_app,allPs_one];exact ⟨h,hx⟩
theorem bare_adds (l:List Part):∀{o:List Part},allPs Bare o->allPs Bare l->allPs Bare (l.foldl addP o):=by
 induction l with
 | nil=>intro o h _;exact h
 | cons x l ih=>
  intro o h hl
  rw [allPs_cons] at hl
  exact ih (bare_addP h hl.1) hl.2
theorem res_bare (pk:Pick) (hpk:Picks pk):∀(N:Nat) (ps:List Part),wtPs ps<N->allPs WfP ps->∀count out,allPs Bare out->allPs Bare (resPs pk count ps out):=by
 intro N
 induction N with
 | zero=>intro ps h;omega
 | succ N ih=>
  intro ps
  induction ps with
  | nil=>intro _ _ count out h;simpa [resPs] using h
  | cons p ps ih2=>
   intro h hwf count out ho
   rw [wtPs_cons] at h
   rw [allPs_cons] at hwf
   rw [resPs_cons]
   refine ih2 (by omega) hwf.2 count _ ?_
   have hw:=p.wt_eq
   obtain ⟨hp,hcs,hps⟩:=(Part.all_eq _ _).1 hwf.1
   rw [p.res_eq]
   split
   ·rename_i hs
    rcases hpk p.kind p.name (resCs pk (if p.kind == 9 then count else p.name) p.cases) with h3|⟨key,h3⟩
    ·rw [h3];exact ho
    ·refine bare_adds _ ho ?_
     rw [resCs_map] at h3
     obtain ⟨c,hc,he⟩:=List.mem_map.1 h3
     have h5:=wtCs_mem hc
     have h6:=ih c.2 (by omega) (allCs_mem hcs hc) (if p.kind == 9 then count else p.name) [] trivial
     have h7:=congrArg Prod.snd he
     simp only at h7
     rw [resCs_map,<-h7]
     exact h6
   ·rename_i hs
    have hs':selB p.kind=false:=by simpa using hs
    split
    ·rw [allPs_app,allPs_one]
     exact ⟨ho,(Part.all_eq _ _).2 ⟨⟨(rfl:selB 3=false),rfl,rfl⟩,trivial,trivial⟩⟩
    ·rename_i h10
     have h10':(p.kind == 10)=false:=by simpa using h10
     split
     ·rw [allPs_app,allPs_one]
      refine ⟨ho,(Part.all_eq _ _).2 ⟨⟨hs',h10',hp.cases0 hs'⟩,?_,?_⟩⟩
      ·show allCs Bare p.cases
       rw [hp.cases0 hs'];trivial
      ·exact ih p.parts (by omega) hps count [] trivial
     ·rename_i h11
      have h11':(p.kind == 11)=false:=by simpa using h11
      refine bare_addP ho ((Part.all_eq _ _).2 ⟨⟨hs',h10',hp.cases0 hs'⟩,?_,?_⟩)
      ·rw [hp.cases0 hs'];trivial
      ·rw [hp.parts0 h11'];trivial
theorem bare_plain:∀(N:Nat) (ps:List Part),wtPs ps<N->allPs Bare ps->plainPs ps=true:=by
 intro N
 induction N with
 | zero=>intro ps h;omega
 | succ N ih=>
  intro ps
  induction ps with
  | nil=>intro _ _;simp [plainPs]
  | cons p ps ih2=>
   intro h hb
   rw [wtPs_cons] at h
   rw [allPs_cons] at hb
   have hw:=p.wt_eq
   obtain ⟨hp,hcs,hps⟩:=(Part.all_eq _ _).1 hb.1
   have h1:=ih p.parts (by omega) hps
   have h2:=ih2 (by omega) hb.2
   simp only [plainPs,Part.solid_eq,hp.sel,hp.cs,h1,h2]
   simp [plainCs]
theorem coll_plain:∀(N:Nat) (ps:List Part),wtPs ps<N->plainPs ps=true->∀l,collPs ps l=l:=by
 intro N
 induction N with
 | zero=>intro ps h;omega
 | succ N ih=>
  intro ps
  induction ps with
  | nil=>intro _ _ l;simp [collPs]
  | cons p ps ih2=>
   intro h hb l
   rw [wtPs_cons] at h
   have hw:=p.wt_eq
   simp only [plainPs,Part.solid_eq,Bool.and_eq_true,Bool.not_eq_true'] at hb
   obtain ⟨⟨⟨h1,h2⟩,h3⟩,h4⟩:=hb
   simp only [collPs,Part.coll_eq,h1]
   rw [if_neg (by simp),ih p.parts (by omega) h2,ih2 (by omega) h4]
theorem formed_nj (ps:List Part):∀d c prev,formedPs ps d c prev=true->nj ps=true:=by
 induction ps with
 | nil=>intro d c prev _;rfl
 | cons x t ih=>
  intro d c prev h
  rw [formedPs_cons,Bool.and_eq_true,Bool.and_eq_true] at h
  have h1:=ih _ _ _ h.2.2
  cases t with
  | nil=>rfl
  | cons y t=>
   have h2:=h.2.2
   rw [formedPs_cons,Bool.and_eq_true] at h2
   rw [nj_cons2,h1,Bool.and_comm (x.kind == 1),h2.1];rfl
theorem fold_id {ps:List Part} (h:nj ps=true):ps.foldl addP []=ps:=by
 cases ps with
 | nil=>rfl
 | cons y t=>
  have:=fold_app t [] y h
  simpa [addP_nil] using this
theorem addP_ne {o:List Part} {x:Part} (h:(x.kind == 1)=false):addP o x=o++[x]:=by
 rcases List.eq_nil_or_concat o with rfl|⟨d,y,rfl⟩
 ·rfl
 ·rw [List.concat_eq_append,addP_snoc,h];simp
theorem res_id (pk:Pick):∀(N:Nat) (ps:List Part),wtPs ps<N->allPs Bare ps->∀d c prev,formedPs ps d c prev=true->∀count out,resPs pk count ps out=ps.foldl addP out:=by
 intro N
 induction N with
 | zero=>intro ps h;omega
 | succ N ih=>
  intro ps
  induction ps with
  | nil=>intro _ _ d c prev _ count out;simp [resPs]
  | cons p ps ih2=>
   intro h hb d c prev hf count out
   rw [wtPs_cons] at h
   rw [allPs_cons] at hb
   rw [formedPs_cons,Bool.and_eq_true,Bool.and_eq_true] at hf
   have hw:=p.wt_eq
   obtain ⟨hp,hcs,hps⟩:=(Part.all_eq _ _).1 hb.1
   rw [resPs_cons,List.foldl_cons,ih2 (by omega) hb.2 _ _ _ hf.2.2]
   congr 1
   rw [p.res_eq,if_neg (by rw [hp.sel];simp),if_neg (by rw [hp.ten];simp)]
   split
   ·rename_i h11
    have hq:=hf.2.1
    rw [p.formedB_eq,if_pos h11,Bool.and_eq_true] at hq
    rw [ih p.parts (by omega) hps _ _ _ hq.2,fold_id (formed_nj _ _ _ _ hq.2)]
    have h1:(p.kind == 1)=false:=by
     have:p.kind=11:=by simpa using h11
     rw [this];rfl
    rw [addP_ne h1]
    cases p;rfl
   ·rfl
theorem flat_bare (l:Loc) {ps:List Part} (hb:allPs Bare ps) (hv:validP ps=true) (hl:(!rulesF [] l.card||!rulesF [] l.ord)=false):flatP l ps=(([],[ps]),0):=by
 have hs:selsP ps=[]:=by unfold selsP;rw [coll_plain _ ps (Nat.lt_succ_self _) (bare_plain _ ps (Nat.lt_succ_self _) hb)];rfl
 have hf:=hv
 rw [valid_same] at hf
 unfold validB at hf
 rw [Bool.and_eq_true,Bool.and_eq_true] at hf
 unfold flatP
 rw [hv,hs,hl]
 have e:resPs (pkP l [] (decK [] 0).1) [] ps []=ps:=by
  rw [res_id _ _ ps (Nat.lt_succ_self _) hb _ _ _ hf.1.1,fold_id (formed_nj _ _ _ _ hf.1.1)]
 simp [combP,varsOf,e]
theorem coll_inv (G:Int->Bytes->Prop) (I:List Sel->Prop) (ha:∀l k n,G k n->I l->I (selAdd l k n)) (hm:∀l j key,I l->I (l.modify j (addKey key))) (ps:List Part) :
  allPs (fun p=>selB p.kind=true->G p.kind p.name) ps->∀l,I l->I (collPs ps l):=by
 refine tree_Q (P:=fun p=>p.all (fun p=>selB p.kind=true->G p.kind p.name)->∀l,I l->I (p.coll l)) (Q:=fun ps=>allPs (fun p=>selB p.kind=true->G p.kind p.name) ps->∀l,I l->I (collPs ps l))
  (R:=fun cs=>allCs (fun p=>selB p.kind=true->G p.kind p.name) cs->∀j l,I l->I (collCs cs j l)) ?_ ?_ ?_ ?_ ?_ ps
 ·intro p hr hq h l hl
  rw [p.all_eq] at h
  rw [p.coll_eq]
  have h1:=hq h.2.2 l hl
  cases hs:selB p.kind with
  | true=>
   simp only [if_true]
   exact hr h.2.1 _ _ (ha _ _ _ (h.1 hs) h1)
  | false=>simpa using h1
 ·intro _ l hl;simpa only [collPs] using hl
 ·intro p ps hp hq h l hl
  rw [allPs_cons] at h
  rw [collPs_cons]
  exact hq h.2 _ (hp h.1 l hl)
 ·intro _ j l hl;simpa only [collCs] using hl
 ·intro c cs hq hr h j l hl
  rw [allCs_cons] at h
  rw [collCs_cons]
  exact hr h.2 j _ (hq h.1 _ (hm _ _ _ hl))
theorem formed_names (ps:List Part):∀d c prev,formedPs ps d c prev=true->allPs (fun p=>selB p.kind=true->nameB p.name=true) ps:=by
 refine tree_Q (P:=fun p=>∀d c,p.formedB d c=true->p.all (fun p=>selB p.kind=true->nameB p.name=true))
  (Q:=fun ps=>∀d c prev,formedPs ps d c prev=true->allPs (fun p=>selB p.kind=true->nameB p.name=true) ps)
  (R:=fun cs=>∀k d c keys,formedCs cs k d c keys=true->allCs (fun p=>selB p.kind=true->nameB p.name=true) cs) ?_ ?_ ?_ ?_ ?_ ps
 ·intro p hr hq d c h
  have hf:=formed_wf [p] d c false (by rw [formedPs_cons,h];simp [formedPs])
  rw [allPs_one] at hf
  have hw:=((Part.all_eq _ _).1 hf).1
  rw [p.formedB_eq] at h
  rw [p.all_eq]
  cases h11:p.kind == 11 with
  | true=>
   have hs:selB p.kind=false:=by
    have:p.kind=11:=by simpa using h11
    rw [this];rfl
   rw [h11,if_pos rfl,Bool.and_eq_true] at h
   refine ⟨fun hh=>(by rw [hs] at hh;cases hh),?_,hq _ _ _ h.2⟩
   rw [hw.cases0 hs];simp only [allCs]
  | false=>
   rw [h11,if_neg (by simp)] at h
   have hpp:=hw.parts0 h11
   cases hs:selB p.kind with
   | true=>
    rw [hs,if_pos rfl,Bool.and_eq_true] at h
    have h1:=h.1
    unfold selHead at h1
    simp at h1
    refine ⟨fun _=>h1.1.1.1.1.1.2,hr _ _ _ _ h.2,?_⟩
    rw [hpp];simp only [allPs]
   | false=>
    refine ⟨fun hh=>(by cases hh),?_,?_⟩
    ·rw [hw.cases0 hs];simp only [allCs]
    ·rw [hpp];simp only [allPs]
 ·intro d c prev _;simp only [allPs]
 ·intro p ps hp hq d c prev h
  rw [formedPs_cons,Bool.and_eq_true,Bool.and_eq_true] at h
  rw [allPs_cons]
  exact ⟨hp _ _ h.2.1,hq _ _ _ h.2.2⟩
 ·intro k d c keys _;simp only [allCs]
 ·intro c cs hq hr k d cc keys h
  rw [formedCs_cons,Bool.and_eq_true,Bool.and_eq_true] at h
  rw [allCs_cons]
  exact ⟨hq _ _ _ h.2.1,hr _ _ _ _ h.2.2⟩
structure Colls (l:List Sel):Prop where
 nm:∀s∈l,selB s.kind=true/\nameB s.name=true
 nd:(l.map fun s=>(s.kind,s.name)).Nodup
 ks:∀s∈l,s.keys.Nodup
theorem colls_add (l:List Sel) (k:Int) (n:Bytes) (hk:selB k=true/\nameB n=true) (h:Colls l):Colls (selAdd l k n):=by
 unfold selAdd
 split
 ·rename_i hf
  have ha:l.any (selIs k n)=false:=by
   rw [<-idxI_ge]
   unfold findI at hf
   simp;omega
  refine ⟨fun s hs=>?_,?_,fun s hs=>?_⟩
  ·rcases List.mem_append.1 hs with hs|hs
   ·exact h.nm s hs
   ·simp at hs;subst hs;exact hk
  ·rw [List.map_append,List.nodup_append]
   refine ⟨h.nd,by simp,?_⟩
   intro a ha2 b hb
   simp at hb
   obtain ⟨s,hs,rfl⟩:=List.mem_map.1 ha2
   subst hb
   have:=List.any_eq_false.1 ha s hs
   unfold selIs at this
   intro he
   simp only [Prod.mk.injEq] at he
   simp [he.1,he.2] at this
  ·rcases List.mem_append.1 hs with hs|hs
   ·exact h.ks s hs
   ·simp at hs;subst hs;exact List.nodup_nil
 ·exact h
theorem mem_modify {l:List Sel} {j:Nat} {f:Sel->Sel} {t:Sel} (h:t∈l.modify j f):t∈l\/∃s∈l,t=f s:=by
 obtain ⟨i,hi⟩:=List.getElem?_of_mem h
 rw [List.getElem?_modify] at hi
 cases hl:l[i]? with
 | none=>rw [hl] at hi;simp at hi
 | some u=>
  rw [hl] at hi
  have hu:=List.mem_of_getElem? hl
  by_cases hj:j=i
  ·simp [hj] at hi;exact .inr ⟨u,hu,hi.symm⟩
  ·simp [hj] at hi;subst hi;exact .inl hu
theorem map_modify {β:Type} {g:Sel->β} {f:Sel->Sel} (hg:∀s,g (f s)=g s):∀(l:List Sel) (j:Nat),(l.modify j f).map g=l.map g:=by
 intro l j
 apply List.ext_getElem?
 intro i
 rw [List.getElem?_map,List.getElem?_map,List.getElem?_modify]
 cases l[i]? with
 | none=>simp
 | some u=>by_cases hj:j=i<;>simp [hj,hg]
theorem colls_mod (l:List Sel) (j:Nat) (key:Bytes) (h:Colls l):Colls (l.modify j (addKey key)):=by
 refine ⟨fun s hs=>?_,?_,fun s hs=>?_⟩
 ·rcases mem_modify hs with hs|⟨t,ht,rfl⟩
  ·exact h.nm s hs
  ·have:=addKey_same key t;rw [this.1,this.2];exact h.nm t ht
 ·rw [map_modify (fun s=>by have:=addKey_same key s;rw [this.1,this.2])];exact h.nd
 ·rcases mem_modify hs with hs|⟨t,ht,rfl⟩
  ·exact h.ks s hs
  ·unfold addKey
   split
   ·exact h.ks t ht
   ·rename_i hc
    rw [List.nodup_append]
    refine ⟨h.ks t ht,by simp,fun a ha b hb=>?_⟩
    simp at hb;subst hb
    rintro rfl
    exact hc (by simpa using ha)
theorem nodupK_of:∀(l d:List Bytes),(d++l).Nodup->nodupK d l=true:=by
 intro l
 induction l with
 | nil=>intro d _;simp [nodupK]
 | cons k r ih=>
  intro d h
  rw [nodupK,ih (d++[k]) (by simpa using h)]
  rw [List.nodup_append] at h
  have:=h.2.2
  simp only [Bool.and_true,Bool.not_eq_true']
  cases hc:d.contains k with
  | false=>rfl
  | true=>exact absurd rfl (this k (by simpa using hc) k (by simp))
theorem kFive_nd:kFive.Nodup/\kOtherS ∉ kFive/\(∀k∈kFive,headEq k=false):=by
 refine ⟨by decide,by decide,?_⟩
 intro k hk
 have:∀k∈kFive,headEq k=false:=by decide
 exact this k hk
theorem ord_nodup (kind:Int) {keys:List Bytes} (h:keys.Nodup):(ordK kind keys).Nodup:=by
 unfold ordK
 rw [List.nodup_append,List.nodup_append]
 refine ⟨h.filter _,⟨?_,by simp,?_⟩,?_⟩
 ·unfold clsK;split
  ·exact List.nodup_nil
  ·exact kFive_nd.1.filter _
 ·intro a ha b hb
  simp at hb;subst hb
  rintro rfl
  unfold clsK at ha
  split at ha
  ·cases ha
  ·exact kFive_nd.2.1 (List.mem_filter.1 ha).1
 ·intro a ha b hb
  have hk:=(List.mem_filter.1 ha).2
  unfold keepK at hk
  simp only [Bool.and_eq_true,Bool.or_eq_true,Bool.not_eq_true'] at hk
  rintro rfl
  rcases List.mem_append.1 hb with hb|hb
  ·unfold clsK at hb
   split at hb
   ·cases hb
   ·rename_i h9
    have h1:=(List.mem_filter.1 hb).1
    have h2:=kFive_nd.2.2 _ h1
    rcases hk.2 with h3|h3
    ·exact h9 (by simpa using h3)
    ·rw [h2] at h3;cases h3
  ·simp at hb;subst hb
   have:=hk.1
   simp at this
theorem soundGo_of:∀(l d:List Sel),(∀s∈l,headS s=true/\s.keys.Nodup)->((d++l).map fun s=>(s.kind,s.name)).Nodup->soundGo d l=true:=by
 intro l
 induction l with
 | nil=>intro d _ _;simp [soundGo]
 | cons s r ih=>
  intro d h hn
  have hs:=h s (by simp)
  rw [soundGo,ih (d++[s]) (fun t ht=>h t (by simp [ht])) (by simpa using hn),hs.1,nodupK_of _ [] (by simpa using hs.2)]
  have:d.any (selIs s.kind s.name)=false:=by
   rw [List.any_eq_false]
   intro t ht
   rw [List.map_append,List.nodup_append] at hn
   have h2:=hn.2.2 (t.kind,t.name) (List.mem_map.2 ⟨t,ht,rfl⟩) (s.kind,s.name) (by simp)
   unfold selIs
   intro he
   simp at he
   exact h2 (by rw [he.1,he.2])
  rw [this];rfl
theorem sels_colls {ps:List Part} (h:validB ps=true):Colls (collPs ps []):=by
 unfold validB at h
 rw [Bool.and_eq_true,Bool.and_eq_true] at h
 have h1:=formed_names ps _ _ _ h.1.1
 refine coll_inv (fun k n=>selB k=true/\nameB n=true) Colls (fun l k n hk hl=>colls_add l k n hk hl) colls_mod ps ?_ [] ⟨by simp,List.nodup_nil,by simp⟩
 exact all_imp (fun p hp hs=>⟨hs,hp hs⟩) ps h1
theorem sels_sound {ps:List Part} (h:validB ps=true):soundGo [] (selsP ps)=true:=by
 have hc:=sels_colls h
 refine soundGo_of _ [] ?_ ?_
 ·intro s hs
  obtain ⟨t,ht,rfl⟩:=List.mem_map.1 hs
  have:=hc.nm t ht
  refine ⟨?_,ord_nodup _ (hc.ks t ht)⟩
  unfold headS lastOther
  simp only [Sel.ord]
  rw [this.1,this.2]
  unfold ordK
  rw [<-List.append_assoc,List.getLast?_append]
  simp
 ·unfold selsP
  rw [List.nil_append,List.map_map]
  exact hc.nd
theorem flat_sound (l:Loc) {ps:List Part} (h:(flatP l ps).2=0):soundP (flatP l ps).1=true:=by
 unfold flatP at h⊢
 split
 ·rename_i h1;rw [if_pos h1] at h;cases h
 ·rename_i h1
  rw [if_neg h1] at h
  split
  ·rename_i h2;rw [if_pos h2] at h;cases h
  ·rename_i h2
   rw [if_neg h2] at h
   split
   ·rename_i h3;rw [if_pos h3] at h;cases h
   ·have hv:validB ps=true:=by rw [<-valid_same];simpa using h1
    unfold soundP
    simp only
    rw [sels_sound hv]
    have:((combP 1 (selsP ps):Int)<=400):=by simpa using h2
    simp [this,varsOf]
theorem plain_bare (ps:List Part):∀d prev,plainPs ps=true->formedPs ps d false prev=true->allPs Bare ps:=by
 refine tree_Q (P:=fun p=>∀d,p.solid=true->p.formedB d false=true->p.all Bare)
  (Q:=fun ps=>∀d prev,plainPs ps=true->formedPs ps d false prev=true->allPs Bare ps)
  (R:=fun cs=>True) ?_ ?_ ?_ ?_ ?_ ps
 ·intro p _ hq d hs h
  have hf:=formed_wf [p] d false false (by rw [formedPs_cons,h];simp [formedPs])
  rw [allPs_one] at hf
  have hw:=((Part.all_eq _ _).1 hf).1
  rw [Part.solid_eq] at hs
  simp only [Bool.and_eq_true,Bool.not_eq_true'] at hs
  obtain ⟨⟨hs,hp⟩,_⟩:=hs
  have hc:=hw.cases0 hs
  rw [p.formedB_eq] at h
  refine (Part.all_eq _ _).2 ?_
  rw [hc]
  cases h11:p.kind == 11 with
  | true=>
   have h10:(p.kind == 10)=false:=by
    have:p.kind=11:=by simpa using h11
    rw [this];rfl
   rw [h11,if_pos rfl,Bool.and_eq_true] at h
   exact ⟨⟨hs,h10,hc⟩,by simp only [allCs],hq _ _ hp h.2⟩
  | false=>
   rw [h11,if_neg (by simp),hs,if_neg (by simp)] at h
   refine ⟨⟨hs,?_,hc⟩,by simp only [allCs],?_⟩
   ·cases h10:p.kind == 10 with
    | false=>rfl
    | true=>
     have:p.kind=10:=by simpa using h10
     unfold plainB plainK at h
     rw [this] at h
     simp at h
   ·rw [hw.parts0 h11];simp only [allPs]
 ·intro d prev _ _;simp only [allPs]
 ·intro p ps hp hq d prev hs h
  rw [plainPs_cons,Bool.and_eq_true] at hs
  rw [formedPs_cons,Bool.and_eq_true,Bool.and_eq_true] at h
  rw [allPs_cons]
  exact ⟨hp _ hs.1 h.2.1,hq _ _ hs.2 h.2.2⟩
 ·trivial
 ·intro c cs _ _;trivial
theorem combP_pos:∀(l:List Sel),(∀s∈l,s.keys≠[])->∀n,1<=n->1<=combP n l:=by
 intro l
 induction l with
 | nil=>intro _ n h;exact h
 | cons s l ih=>
  intro hk n h
  have h1:1<=s.keys.length:=List.length_pos_iff.2 (hk s (by simp))
  have h2:1<=n*s.keys.length:=Nat.mul_pos h h1
  rw [combP]
  split
  ·exact h2
  ·exact ih (fun t ht=>hk t (by simp [ht])) _ h2
theorem picks_of (l:Loc) (L:List Sel) (keys:List Bytes):Picks (pkP l L keys):=pkP_picks _ _ _
structure FlatOk (l:Loc) (ps:List Part) (F:FormP):Prop where
 sound:soundP F=true
 some:0<F.2.length
 bare:∀v∈F.2,allPs Bare v/\wtPs v<=2^19/\(validP v=true->flatP l v=(([],[v]),0))
 only:plainPs ps=true->F.2=[ps]
 nm:∀s∈F.1,s.name.length<=40
theorem flat_ok (l:Loc) (ps:List Part):((flatP l ps).2≠0/\(flatP l ps).1=([],[]))\/((flatP l ps).2=0/\FlatOk l ps (flatP l ps).1):=by
 by_cases h:(flatP l ps).2=0
 ·right
  refine ⟨h,?_⟩
  have hs:=flat_sound l h
  unfold flatP at h hs⊢
  by_cases h1:(!validP ps)=true
  ·rw [if_pos h1] at h;cases h
  rw [if_neg h1] at h hs⊢
  by_cases h2:decide ((combP 1 (selsP ps):Int)>400)=true
  ·rw [if_pos h2] at h;cases h
  rw [if_neg h2] at h hs⊢
  by_cases h3:(!rulesF [] l.card||!rulesF [] l.ord)=true
  ·rw [if_pos h3] at h;cases h
  rw [if_neg h3] at hs⊢
  have hv:validP ps=true:=by simpa using h1
  have hvb:validB ps=true:=by rw [<-valid_same];exact hv
  have hl:(!rulesF [] l.card||!rulesF [] l.ord)=false:=by simpa using h3
  refine ⟨hs,?_,?_,?_,?_⟩
  ·simp only [varsOf,List.length_map,List.length_range]
   exact combP_pos _ (fun s hs=>(sels_keys ps s hs).1) 1 (Nat.le_refl _)
  ·intro v hm
   obtain ⟨i,_,rfl⟩:=List.mem_map.1 hm
   have hb:=res_bare (pkP l (selsP ps) (decK (selsP ps) i).1) (picks_of _ _ _) _ ps (Nat.lt_succ_self _) (valid_wf hvb) [] [] (by simp only [allPs])
   exact ⟨hb,vars_wt l hvb _ _,fun hvv=>flat_bare l hb hvv hl⟩
  ·intro hp
   have hf:=hvb
   unfold validB at hf
   rw [Bool.and_eq_true,Bool.and_eq_true] at hf
   have hb:=plain_bare ps _ _ hp hf.1.1
   have:=flat_bare l hb hv hl
   unfold flatP at this
   rw [if_neg h1,if_neg h2,if_neg h3] at this
   exact congrArg (fun x=>x.1.2) this
  ·intro s hs
   obtain ⟨t,ht,rfl⟩:=List.mem_map.1 hs
   exact nameB_len ((sels_colls hvb).nm t ht).2
 ·left
  refine ⟨h,?_⟩
  unfold flatP at h⊢
  by_cases h1:(!validP ps)=true
  ·rw [if_pos h1]
  rw [if_neg h1] at h⊢
  by_cases h2:decide ((combP 1 (selsP ps):Int)>400)=true
  ·rw [if_pos h2]
  rw [if_neg h2] at h⊢
  by_cases h3:(!rulesF [] l.card||!rulesF [] l.ord)=true
  ·rw [if_pos h3]
  rw [if_neg h3] at h
  exact absurd rfl h
end Go.Ir
namespace Go.Ir
open Go.Proofs
variable (W0 : World)
theorem c_countsB:∀(N:Nat) (ps:List Part),wtPs ps<N->wtPs ps<=2^24->allPs Bare ps->RetS Tryz.prog W0 14 [.sl (ps.map Part.enc)] [] (.b false) []:=by
 intro N
 induction N with
 | zero=>intro ps h;omega
 | succ N ih=>
 intro ps hN hb hB
 have hlen:=len_wtPs ps
 refine fn_retW (vs:=[.b false]) f14ok (by simp) (by simp) fun n0 hn0=>?_
 clear hn0
 simp only [push_cast,seval,reduceEqDiff]
 intros
 refine aWP_loopW ps.length (Inv:=fun m st=>∃done rest n,ps=done++rest/\m=rest.length/\allPs Bare rest/\st=⟨[(0,.sl (ps.map Part.enc)),(3,.i .i64 done.length)],[],n⟩) ⟨_,StLe.refl,[],ps,_,rfl,rfl,hB,rfl⟩ ?_
 clear hB
 rintro m _ ⟨done,rest,n,hz,rfl,hB,rfl⟩
 cases rest with
 | nil=>
  simp only [push_cast,seval,reduceEqDiff,hz]
  repeat' (first|(((first|apply condU_s|apply gdU_t|apply gdU_f)<;>intro _h)<;>simp only [push_cast,seval,reduceEqDiff,_h])|intro _)
  exact finW_ret (by simp [get])
 | cons p rest=>
  have hbd:=zip_bd hz
  have hw:=wtPs_mem (ps:=ps) (p:=p) (by rw [hz];simp)
  rw [p.wt_eq] at hw
  rw [allPs_cons] at hB
  obtain ⟨hp,_,hps⟩:=(Part.all_eq _ _).1 hB.1
  have h10:=hp.ten
  have hcs:=hp.cs
  have hre:=ih p.parts (by omega) (by omega) hps
  rw [hz]
  simp only [push_cast,seval,reduceEqDiff,wrap_zip p (done:=done) (by omega),h10,hcs,List.map_nil,List.length_nil]
  repeat' (first|(((first|apply condU_s|apply gdU_t|apply gdU_f)<;>intro _h)<;>simp only [push_cast,seval,reduceEqDiff,_h,wrap_zip p (done:=done) (by omega),h10,hcs,List.map_nil,List.length_nil])|(refine c_call (by exact hre) ?_;simp only [push_cast,seval,reduceEqDiff,wrap_zip p (done:=done) (by omega),h10,hcs,List.map_nil,List.length_nil])|intro _)
  rename_i a1 a2 a3 a4
  refine aWP_loopW 0 (Inv:=fun m st=>∃n',st=⟨[(0,.sl ((done++p::rest).map Part.enc)),(3,.i .i64 done.length),(4,.ref (n+1+a1,4) 0),(5,.i .i64 0)],[((n+1+a1,4),.box (.agg [.i .i64 p.kind,.s p.text,.s p.name,.s p.style,.sl [],.sl (p.parts.map Part.enc)]))],n'⟩) ⟨_,StLe.refl,_,rfl⟩ ?_
  rintro m _ ⟨n',rfl⟩
  simp only [push_cast,seval,reduceEqDiff,wrap_zip p (done:=done) (by omega),h10,hcs,List.map_nil,List.length_nil]
  intros
  exact ⟨_,_,Nat.lt_succ_self _,StLe.drop1 (by simp [lk]) (Nat.le_refl _),done++[p],rest,_,by simp,rfl,hB.2,rfl⟩
theorem u8_wf {a:Int} (h:(Lit.int .u8 a).wf=true):0<=a/\a<256:=by
 have h1:IntKind.u8.min=0:=rfl
 have h2:IntKind.u8.max=255:=rfl
 simp [Lit.wf,h1,h2] at h
 omega
set_option maxHeartbeats 4000000 in
theorem c_VariantsPlain (l:Loc) (ps:List Part) (a:Int) (hrl:l.rest.length=11) (hb:wtRules l.card+wtRules l.ord<=2^20) (hw:wtPs ps<=2^20) (ha:(Lit.int .u8 a).wf=true) :
  RetS Tryz.prog W0 3 [l.enc,.sl (ps.map Part.enc),.i .u8 a] [] (.b true) []:=by
 obtain ⟨ha1,ha2⟩:=u8_wf ha
 have haw:=c_awake W0
 have hfr:=c_fewRules W0 l rfl (by omega)
 have hfe:=c_few W0 ps (by omega)
 have hfl:=c_FlatG W0 l ps hrl (by omega) hw
 obtain ⟨b1,b2,b3,b4⟩:=flatP_bounds l ps hw
 have hfv:=fun v (hv:wtPs v<=2^20)=>c_FlatG W0 l v hrl (by omega) hv
 have hrp:=c_rPlain W0 _ ps (Nat.lt_succ_self _) (by omega)
 obtain ⟨r1,r2,r3,r4,r5,r6,r7,r8,r9,r10,r11,hrest⟩:=rest11 hrl
 have hLV:l.enc = .agg [.s l.tag,.s l.parent,.s l.dir,.sl (l.card.map Rule.enc),.sl (l.ord.map Rule.enc),r1,r2,r3,r4,r5,r6,r7,r8,r9,r10,r11]:=by
  rw [Loc.enc_eq,hrest]
 have hok:=flat_ok l ps
 rw [hLV] at hfl hfv hfr⊢
 generalize (fewRs l.card&&fewRs l.ord)=FR at *
 generalize fewPs ps=FP at *
 cases FR
 ·refine fn_retW (vs:=[.b true]) f3ok (by simp) (by simp) fun n0 hn0=>?_
  clear hn0
  simp only [push_cast,seval,reduceEqDiff]
  repeat' (first|(((first|apply condU_s|apply gdU_t|apply gdU_f)<;>intro _h)<;>simp only [push_cast,seval,reduceEqDiff,_h])|((first|refine c_call (by exact haw) ?_|refine c_call (by exact hfr) ?_);simp only [push_cast,seval,reduceEqDiff])|intro _)
  all_goals (first|(refine finW_ret ?_;simp [get]<;>(intros;omega);done)|(refine finW_rets ?_;simp [push_cast,get];done)|skip)
 cases FP
 ·refine fn_retW (vs:=[.b true]) f3ok (by simp) (by simp) fun n0 hn0=>?_
  clear hn0
  simp only [push_cast,seval,reduceEqDiff]
  repeat' (first|(((first|apply condU_s|apply gdU_t|apply gdU_f)<;>intro _h)<;>simp only [push_cast,seval,reduceEqDiff,_h])|((first|refine c_call (by exact haw) ?_|refine c_call (by exact hfr) ?_|refine c_call (by exact hfe) ?_);simp only [push_cast,seval,reduceEqDiff])|intro _)
  all_goals (first|(refine finW_ret ?_;simp [get]<;>(intros;omega);done)|(refine finW_rets ?_;simp [push_cast,get];done)|skip)
 generalize (flatP l ps).2=E at *
 generalize hFE:(flatP l ps).1=F at *
 rcases hok with ⟨hE,rfl⟩|⟨rfl,hF⟩
 ·unfold formV at hfl
  have hE2:(E != 0)=true:=by simpa using hE
  refine fn_retW (vs:=[.b true]) f3ok (by simp) (by simp) fun n0 hn0=>?_
  clear hn0
  simp only [push_cast,seval,reduceEqDiff,hE2,List.map_nil]
  repeat' (first|(((first|apply condU_s|apply gdU_t|apply gdU_f)<;>intro _h)<;>simp only [push_cast,seval,reduceEqDiff,_h,hE2,List.map_nil])|((first|refine c_call (by exact haw) ?_|refine c_call (by exact hfr) ?_|refine c_call (by exact hfe) ?_|refine c_call (by exact hfl) ?_);simp only [push_cast,seval,reduceEqDiff,hE2,List.map_nil])|intro _)
  all_goals (first|(refine finW_ret ?_;simp [get]<;>(intros;omega);done)|(refine finW_rets ?_;simp [push_cast,get];done)|skip)
 obtain ⟨L,VS⟩:=F
 obtain ⟨f1,f2,f3,f4,f5⟩:=hF
 simp only at b1 b2 b3 b4 f2 f3 f4 f5
 have hso:=c_Sound W0 (L,VS) (by simp only;omega) (fun s hs=>⟨b3 s hs,by have:=f5 s hs;omega⟩)
 rw [f1] at hso
 unfold formV at hfl hso
 simp only at hfl hso
 obtain ⟨v,hv⟩:∃v,VS[a.toNat % VS.length]? = some v:=⟨_,List.getElem?_eq_getElem (Nat.mod_lt _ f2)⟩
 have hvm:=List.mem_of_getElem? hv
 obtain ⟨vb,vw,vf⟩:=f3 v hvm
 have hlen0:((VS.length:Int) == 0)=false:=beq_eq_false_iff_ne.2 (by omega)
 have hpl:=c_plain W0 _ v (Nat.lt_succ_self _) (by omega)
 rw [bare_plain _ v (Nat.lt_succ_self _) vb] at hpl
 have hct:=c_countsB W0 _ v (Nat.lt_succ_self _) (by omega) vb
 have hfl2:=hfv v (by omega)
 have hva:=c_Valid W0 v (by omega)
 have hee:=c_sEqual W0 _ v v (Nat.lt_succ_self _) (by omega)
 rw [eqPs_refl] at hee
 have hwa:IntKind.i64.wrap a=a:=wrap64 (by omega) (by omega)
 have hmo:a.tmod (VS.length:Int)=((a.toNat % VS.length:Nat):Int):=by
  have:a=(a.toNat:Int):=by omega
  rw [this]
  rfl
 have hget:(VS.map vEnc)[a.toNat % VS.length]? = some (.sl (v.map Part.enc)):=by rw [List.getElem?_map,hv];rfl
 have hlt:=Nat.mod_lt a.toNat f2
 generalize a.toNat % VS.length=i at *
 have hne:((VS.length:Int)=0)=False:=eq_false (by omega)
 have hone:plainPs ps=true->((VS.length:Int) == 1)=true/\ps=v:=by
  intro h
  have:=f4 h
  subst this
  simp only [List.mem_singleton] at hvm
  exact ⟨rfl,hvm.symm⟩
 clear b1 b2 b3 b4 f1 f3 f4 f5
 cases hvv:validP v with
 | false=>
  rw [hvv] at hva
  unfold formV at hfl2
  generalize (flatP l v).1.1=G1 at *
  generalize (flatP l v).1.2=G2 at *
  generalize (flatP l v).2=G3 at *
  cases hp:plainPs ps with
  | false=>
   rw [hp] at hrp
   refine fn_retW (vs:=[.b true]) f3ok (by simp) (by simp) fun n0 hn0=>?_
   clear hn0
   simp only [push_cast,seval,reduceEqDiff,hlen0,hwa,hmo,hget,if_pos hlt,List.length_map,hne]
   repeat' (first|(((first|apply condU_s|apply gdU_t|apply gdU_f)<;>intro _h)<;>simp only [push_cast,seval,reduceEqDiff,_h,hlen0,hwa,hmo,hget,if_pos hlt,List.length_map,hne])|((first|refine c_call (by exact haw) ?_|refine c_call (by exact hfr) ?_|refine c_call (by exact hfe) ?_|refine c_call (by exact hfl) ?_|refine c_call (by exact hso) ?_|refine c_call (by exact hpl) ?_|refine c_call (by exact hct) ?_|refine c_call (by exact hfl2) ?_|refine c_call (by exact hva) ?_|refine c_call (by exact hrp) ?_);simp only [push_cast,seval,reduceEqDiff,hlen0,hwa,hmo,hget,if_pos hlt,List.length_map,hne])|intro _)
   all_goals (first|(refine finW_ret ?_;simp [get]<;>(intros;omega);done)|(refine finW_rets ?_;simp [push_cast,get];done)|skip)
  | true=>
   obtain ⟨h1,rfl⟩:=hone hp
   rw [hp] at hrp
   refine fn_retW (vs:=[.b true]) f3ok (by simp) (by simp) fun n0 hn0=>?_
   clear hn0
   simp only [push_cast,seval,reduceEqDiff,hlen0,hwa,hmo,hget,if_pos hlt,List.length_map,hne,h1]
   repeat' (first|(((first|apply condU_s|apply gdU_t|apply gdU_f)<;>intro _h)<;>simp only [push_cast,seval,reduceEqDiff,_h,hlen0,hwa,hmo,hget,if_pos hlt,List.length_map,hne,h1])|((first|refine c_call (by exact haw) ?_|refine c_call (by exact hfr) ?_|refine c_call (by exact hfe) ?_|refine c_call (by exact hfl) ?_|refine c_call (by exact hso) ?_|refine c_call (by exact hpl) ?_|refine c_call (by exact hct) ?_|refine c_call (by exact hfl2) ?_|refine c_call (by exact hva) ?_|refine c_call (by exact hrp) ?_|refine c_call (by exact hee) ?_);simp only [push_cast,seval,reduceEqDiff,hlen0,hwa,hmo,hget,if_pos hlt,List.length_map,hne,h1])|intro _)
   all_goals (first|(refine finW_ret ?_;simp [get]<;>(intros;omega);done)|(refine finW_rets ?_;simp [push_cast,get];done)|skip)
 | true=>
  rw [hvv] at hva
  rw [vf hvv] at hfl2
  unfold formV vEnc at hfl2
  simp only [List.map_cons,List.map_nil] at hfl2
  cases hp:plainPs ps with
  | false=>
   rw [hp] at hrp
   refine fn_retW (vs:=[.b true]) f3ok (by simp) (by simp) fun n0 hn0=>?_
   clear hn0
   simp only [push_cast,seval,reduceEqDiff,hlen0,hwa,hmo,hget,if_pos hlt,List.length_map,hne]
   repeat' (first|(((first|apply condU_s|apply gdU_t|apply gdU_f)<;>intro _h)<;>simp only [push_cast,seval,reduceEqDiff,_h,hlen0,hwa,hmo,hget,if_pos hlt,List.length_map,hne])|((first|refine c_call (by exact haw) ?_|refine c_call (by exact hfr) ?_|refine c_call (by exact hfe) ?_|refine c_call (by exact hfl) ?_|refine c_call (by exact hso) ?_|refine c_call (by exact hpl) ?_|refine c_call (by exact hct) ?_|refine c_call (by exact hfl2) ?_|refine c_call (by exact hva) ?_|refine c_call (by exact hrp) ?_|refine c_call (by exact hee) ?_);simp only [push_cast,seval,reduceEqDiff,hlen0,hwa,hmo,hget,if_pos hlt,List.length_map,hne])|intro _)
   all_goals (first|(refine finW_ret ?_;simp [get]<;>(intros;omega);done)|(refine finW_rets ?_;simp [push_cast,get];done)|skip)
  | true=>
   obtain ⟨h1,rfl⟩:=hone hp
   rw [hp] at hrp
   rw [vf hvv] at hFE
   simp only [Prod.mk.injEq] at hFE
   obtain ⟨rfl,rfl⟩:=hFE
   simp only [List.map_cons,List.map_nil,vEnc] at hfl hso
   obtain rfl:i=0:=by simpa using hlt
   have hmo2:a.tmod (([ps].length:Nat):Int)=0:=hmo
   simp only [List.length_cons,List.length_nil,Nat.zero_add] at hmo2
   have hmo3:a.tmod 1=0:=hmo2
   refine fn_retW (vs:=[.b true]) f3ok (by simp) (by simp) fun n0 hn0=>?_
   clear hn0
   simp only [push_cast,seval,reduceEqDiff,hwa,hmo3,show ((((1:Nat):Int) == 0)=false) from rfl,show (((1:Nat):Int)=0)=False from eq_false (by decide),show ((((1:Nat):Int) == 1)=true) from rfl]
   repeat' (first|(((first|apply condU_s|apply gdU_t|apply gdU_f)<;>intro _h)<;>simp only [push_cast,seval,reduceEqDiff,_h,hwa,hmo3,show ((((1:Nat):Int) == 0)=false) from rfl,show (((1:Nat):Int)=0)=False from eq_false (by decide),show ((((1:Nat):Int) == 1)=true) from rfl])|((first|refine c_call (by exact haw) ?_|refine c_call (by exact hfr) ?_|refine c_call (by exact hfe) ?_|refine c_call (by exact hfl) ?_|refine c_call (by exact hso) ?_|refine c_call (by exact hpl) ?_|refine c_call (by exact hct) ?_|refine c_call (by exact hva) ?_|refine c_call (by exact hrp) ?_|refine c_call (by exact hee) ?_);simp only [push_cast,seval,reduceEqDiff,hwa,hmo3,show ((((1:Nat):Int) == 0)=false) from rfl,show (((1:Nat):Int)=0)=False from eq_false (by decide),show ((((1:Nat):Int) == 1)=true) from rfl])|intro _)
   all_goals (first|(refine finW_ret ?_;simp [get]<;>(intros;omega);done)|(refine finW_rets ?_;simp [push_cast,get];done)|skip)
end Go.Ir
