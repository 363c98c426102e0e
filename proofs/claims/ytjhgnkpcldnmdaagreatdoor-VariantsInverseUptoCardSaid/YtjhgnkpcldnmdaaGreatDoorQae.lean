/-
  The two checks of a message agree, and what a message has ..
  What a message has that the checks accept: the cases of its ..
  How heavy resolved parts are.
  Flat forms as plain Lean data: the two sides agree.
  Contracts: Clone of cases, cloned.
  Contracts: Flat, of the reference.
  What an input reads as, as an abstract value: plain data ..
  The end of a law's proof: from the contract of the law to ..
  Inputs that are messages: every well-formed slice of parts ..
  Inputs that are locales: their rules, and the rest.
  Contracts: SameForm of a form with itself, formOf.
  Contracts: leaves, of the program
  Contracts: leaves and Leaves, of the program.
  Contracts: Sound, of the program.
  Contracts: awake, and the law VariantsFlat.
  The IR of functions of the program, printed by our own tool
  What a flat form has: its variants have neither selections ..
  The flat form of a message that the check accepts is sound.
  Flat forms: what the law VariantsPlain asks, in plain Lean.
  Contracts: Counts of a message without selections and ..
  Contract: the law VariantsPlain.
  Shapes, leaves and what is built of them, as plain Lean ..
  Shapes of messages that the check accepts are such
  The paths of leaves are different
  How many leaves a message of a shape takes, and its weight
  Contracts: within and shape, of the program.
  Contracts: the builder of the program.
  Contracts: number, shape of the reference.
  Contracts: leaves of the reference.
  Contracts: At, filled of the reference.
  Contracts: lists of leaves
  Contracts: Build of both sides
  Contracts: the laws VariantsInverse and VariantsReplace.
-/
import Derived.Test.YtjhgnkpcldnmdaaGreatDoorQad
import Derived.Test.YtjhgnkpcldnmdaaGreatDoorRows
import Derived.ChangeArms
import Derived.Carry
import Derived.ChangeSame
import Derived.OpenShut
import Derived.Test.YtjhgnkpcldnmdaaGreatDoorChecked
set_option linter.all false
set_option linter.defProp false
set_option linter.unusedSimpArgs false
set_option linter.unusedVariables false
open Nat (reduceEqDiff)
section
namespace Go.Ir
section tree
variable {P : Part → Prop} {Q : List Part → Prop} {R : List Case → Prop}
theorem tree_ind (hp:∀p:Part,R p.cases->Q p.parts->P p) (q0:Q []) (q1:∀p ps,P p->Q ps->Q (p::ps)) (r0:R []) (r1:∀(c:Case) (cs:List Case),Q c.2->R cs->R (c::cs)) :
  ∀N,(∀p:Part,p.wt<N->P p)/\(∀ps,wtPs ps<N->Q ps)/\(∀cs,wtCs cs<N->R cs):=by
 intro N
 induction N with
 | zero=>exact ⟨fun p h=>by omega,fun p h=>by omega,fun p h=>by omega⟩
 | succ N ih=>
  have h1:∀p:Part,p.wt<N+1->P p:=fun p h=>by
   rw [p.wt_eq] at h
   exact hp p (ih.2.2 _ (by omega)) (ih.2.1 _ (by omega))
  have h2:∀ps,wtPs ps<N+1->Q ps:=by
   intro ps
   induction ps with
   | nil=>intro _;exact q0
   | cons p ps ih2=>intro h;rw [wtPs_cons] at h;exact q1 p ps (h1 p (by omega)) (ih2 (by omega))
  refine ⟨h1,h2,fun cs=>?_⟩
  induction cs with
  | nil=>intro _;exact r0
  | cons c cs ih2=>intro h;rw [wtCs_cons] at h;exact r1 c cs (h2 c.2 (by omega)) (ih2 (by omega))
theorem tree_Q (hp:∀p:Part,R p.cases->Q p.parts->P p) (q0:Q []) (q1:∀p ps,P p->Q ps->Q (p::ps)) (r0:R []) (r1:∀(c:Case) (cs:List Case),Q c.2->R cs->R (c::cs)) (ps:List Part):Q ps:=
 (tree_ind hp q0 q1 r0 r1 _).2.1 ps (Nat.lt_succ_self _)
end tree
theorem nameB_ne {s:Bytes} (h:nameB s=true):s≠[]:=by rintro rfl;cases h
theorem selB_iff (k:Int):selB k=true↔k=7\/k=8\/k=9:=by unfold selB;simp;omega
theorem len0 {α:Type} {l:List α} (h:((l.length:Int) == 0)=true):l=[]:=by
 have:(l.length:Int)=0:=by simpa using h
 exact List.length_eq_zero_iff.1 (by omega)
theorem fields_plain (p:Part) (c:Bool) (h11:(p.kind == 11)=false) (hs:selB p.kind=false):plainB p c=(p.fieldsB&&!(p.kind == 10&&!c)):=by
 obtain ⟨k,t,nm,st,cs,ps⟩:=p
 simp only at h11 hs
 have h7:(k == 7)=false/\(k == 8)=false/\(k == 9)=false:=by
  have:¬(k=7\/k=8\/k=9):=fun h=>by rw [(selB_iff k).2 h] at hs;cases hs
  simp;omega
 obtain ⟨h7,h8,h9⟩:=h7
 unfold plainB plainK wT wN wS Part.fieldsB fieldsK
 simp only
 have ht:(t == t)=true:=by simp
 have hn:(nm == nm)=true:=by simp
 have hss:(st == st)=true:=by simp
 by_cases h1:k=1
 ·subst h1
  simp only [bq,if_true,if_false,Int.reduceBEq,reduceCtorEq,Int.reduceBEq,ht,hn,hss]
  generalize (t == [])=a1;generalize (nm == [])=a2;generalize (st == [])=a3;generalize ((cs.length:Int) == 0)=a4;generalize ((ps.length:Int) == 0)=a5
  cases a1<;>cases a2<;>cases a3<;>cases a4<;>cases a5<;>rfl
 by_cases h10:k=10
 ·subst h10
  simp only [bq,if_true,if_false,Int.reduceBEq,reduceCtorEq,Int.reduceBEq,ht,hn,hss]
  generalize (t == [])=a1;generalize (nm == [])=a2;generalize (st == [])=a3;generalize ((cs.length:Int) == 0)=a4;generalize ((ps.length:Int) == 0)=a5
  cases a1<;>cases a2<;>cases a3<;>cases a4<;>cases a5<;>cases c<;>rfl
 by_cases h2:k=2
 ·subst h2
  simp only [bq,if_true,if_false,Int.reduceBEq,reduceCtorEq,Int.reduceBEq,ht,hn,hss]
  generalize (t == [])=a1;generalize nameB nm=a2;generalize (st == [])=a3;generalize ((cs.length:Int) == 0)=a4;generalize ((ps.length:Int) == 0)=a5
  cases a1<;>cases a2<;>cases a3<;>cases a4<;>cases a5<;>rfl
 by_cases h3:k=3
 ·subst h3
  simp only [bq,if_true,if_false,Int.reduceBEq,reduceCtorEq,Int.reduceBEq,ht,hn,hss,numSt]
  generalize (t == [])=a1;generalize nameB nm=a2;generalize (st == [])=a3;generalize ((cs.length:Int) == 0)=a4;generalize ((ps.length:Int) == 0)=a5
  generalize (st == [105,110,116,101,103,101,114])=a6;generalize (st == [112,101,114,99,101,110,116])=a7
  cases a1<;>cases a2<;>cases a3<;>cases a4<;>cases a5<;>cases a6<;>cases a7<;>rfl
 by_cases h4:k=4
 ·subst h4
  simp only [bq,if_true,if_false,Int.reduceBEq,reduceCtorEq,Int.reduceBEq,ht,hn,hss]
  generalize (t == [])=a1;generalize nameB nm=a2;generalize nameB st=a3;generalize ((cs.length:Int) == 0)=a4;generalize ((ps.length:Int) == 0)=a5
  cases a1<;>cases a2<;>cases a3<;>cases a4<;>cases a5<;>rfl
 by_cases h5:k=5
 ·subst h5
  simp only [bq,if_true,if_false,Int.reduceBEq,reduceCtorEq,Int.reduceBEq,ht,hn,hss]
  generalize (t == [])=a1;generalize nameB nm=a2;generalize skeletonB st=a3;generalize ((cs.length:Int) == 0)=a4;generalize ((ps.length:Int) == 0)=a5
  cases a1<;>cases a2<;>cases a3<;>cases a4<;>cases a5<;>rfl
 by_cases h6:k=6
 ·subst h6
  simp only [bq,if_true,if_false,Int.reduceBEq,reduceCtorEq,Int.reduceBEq,ht,hn,hss]
  generalize (t == [])=a1;generalize nameB nm=a2;generalize nameB st=a3;generalize ((cs.length:Int) == 0)=a4;generalize ((ps.length:Int) == 0)=a5
  cases a1<;>cases a2<;>cases a3<;>cases a4<;>cases a5<;>rfl
 have e:∀j:Int,k≠j->(k == j)=false:=fun j h=>by simpa using h
 simp [e 1 h1,e 10 h10,e 2 h2,e 3 h3,e 4 h4,e 5 h5,e 6 h6,h7,h8,h9,h11]
theorem pos_dec (n:Nat):decide ((n:Int)>0) = !((n:Int) == 0):=by
 by_cases h:n=0
 ·subst h;rfl
 ·have h1:((n:Nat):Int)>0:=by omega
  have h2:¬((n:Int)=0):=by omega
  rw [decide_eq_true h1,beq_eq_false_iff_ne.2 h2];rfl
theorem cnt_sel {k:Int} (h:selB k=true):cntB k=(k != 9):=by
 rcases (selB_iff k).1 h with rfl|rfl|rfl<;>rfl
theorem chk_formed0 (ps:List Part):∀d c prev l,(chkPs ps d c prev l).1=formedPs ps (d+1) c prev:=by
 refine tree_Q (P:=fun p=>∀d c l,((p.fieldsB&&!(p.kind == 10&&!c))&&(p.chk d c l).1)=p.formedB (d+1) c)
  (Q:=fun ps=>∀d c prev l,(chkPs ps d c prev l).1=formedPs ps (d+1) c prev)
  (R:=fun cs=>∀k d c n seen l,selB k=true->(chkCs cs k d c n seen l).1=(decide ((n:Int)<=20)&&formedCs cs k d c seen)) ?_ ?_ ?_ ?_ ?_ ps
 ·intro p hr hq d c l
  rw [p.chk_eq,p.formedB_eq]
  by_cases h11:p.kind=11
  ·have hs:selB p.kind=false:=by rw [h11];rfl
   have h11':(p.kind == 11)=true:=by simpa using h11
   have h:=hq (d+1) c false l
   simp only [h11',hs,if_true,if_false,Bool.false_eq_true]
   have hf:p.fieldsB=(nameB p.name&&(p.text == []&&(p.style == []&&((p.cases.length:Int) == 0)))):=by
    unfold Part.fieldsB fieldsK;rw [h11];simp
   have h10:(p.kind == 10)=false:=by rw [h11];rfl
   have hd:decide (d+1>8)=decide (d>=8):=by simp;omega
   have hc:=pos_dec p.cases.length
   rw [hf,h10]
   unfold elHead
   rw [hd,hc,<-h]
   generalize nameB p.name=a1;generalize (p.text == [])=a2;generalize (p.style == [])=a3;generalize ((p.cases.length:Int) == 0)=a4
   cases decide (d>=8) with
   | true=>cases a1<;>cases a2<;>cases a3<;>cases a4<;>rfl
   | false=>
    simp only [Bool.false_eq_true,if_false]
    generalize chkPs p.parts (d+1) c false l=r
    obtain ⟨b,l1⟩:=r
    cases b<;>cases a1<;>cases a2<;>cases a3<;>cases a4<;>rfl
  ·have h11':(p.kind == 11)=false:=by simpa using h11
   simp only [h11',if_false,Bool.false_eq_true]
   cases hs:selB p.kind with
   | true=>
    have h:=hr p.kind (d+1) c p.cases.length [] l hs
    have hf:p.fieldsB=(nameB p.name&&(p.text == []&&(p.style == []&&((p.parts.length:Int) == 0)))):=by
     unfold Part.fieldsB fieldsK;rcases (selB_iff _).1 hs with e|e|e<;>(rw [e];simp)
    have h10:(p.kind == 10)=false:=by rcases (selB_iff _).1 hs with e|e|e<;>(rw [e];rfl)
    have hd:decide (d+1>8)=decide (d>=8):=by simp;omega
    have hc:=pos_dec p.parts.length
    have h20:decide ((p.cases.length:Int)>20) = !decide ((p.cases.length:Int)<=20):=by
     rw [Bool.eq_iff_iff];simp
    have h1:decide ((p.cases.length:Int)<1)=true->formedCs p.cases p.kind (d+1) c []=false:=by
     intro hh
     have:p.cases=[]:=List.length_eq_zero_iff.1 (by simp at hh;omega)
     rw [this];simp [formedCs]
    rw [hf,h10]
    unfold selHead
    rw [hd,hc,h20]
    simp only [if_true]
    generalize nameB p.name=a1;generalize (p.text == [])=a2;generalize (p.style == [])=a3;generalize ((p.parts.length:Int) == 0)=a4
    generalize decide ((p.cases.length:Int)<1)=a5 at *
    generalize formedCs p.cases p.kind (d+1) c []=F at *
    generalize decide ((p.cases.length:Int)<=20)=a6 at *
    cases decide (d>=8) with
    | true=>cases a1<;>cases a2<;>cases a3<;>cases a4<;>rfl
    | false=>
     simp only [Bool.false_eq_true,if_false]
     generalize chkCs p.cases p.kind (d+1) c p.cases.length [] l=r at *
     obtain ⟨b,l1⟩:=r
     simp only at h
     subst h
     cases a5 with
     | true=>rw [h1 rfl];cases a1<;>cases a2<;>cases a3<;>cases a4<;>cases a6<;>rfl
     | false=>cases F<;>cases a1<;>cases a2<;>cases a3<;>cases a4<;>cases a6<;>rfl
   | false=>
    simp only [if_false,Bool.false_eq_true]
    rw [fields_plain p c h11' hs];simp
 ·intro d c prev l;rfl
 ·intro p ps hp hq d c prev l
  rw [chkPs_cons,formedPs_cons,<-hp d c l]
  have hq2:=hq d c (p.kind == 1)
  generalize p.fieldsB=a1;generalize (p.kind == 10&&!c)=a2
  rw [Bool.and_comm (p.kind == 1) prev]
  generalize (prev&&p.kind == 1)=a3
  generalize p.chk d c l=r
  obtain ⟨b,l1⟩:=r
  simp only
  cases a1<;>cases a2<;>cases a3<;>cases b<;>simp [hq2]
 ·intro k d c n seen l _;simp [chkCs,formedCs]
 ·intro x cs hq hr k d c n seen l hs
  rw [chkCs_cons,formedCs_cons,cnt_sel hs,<-hq d (c||(k != 9)) false l]
  generalize (!keyB k x.1||seen.contains x.1)=a1
  generalize chkPs x.2 d (c||(k != 9)) false l=r
  obtain ⟨b,l1⟩:=r
  have:=hr k d c n (seen++[x.1]) l1 hs
  simp only
  cases a1<;>cases b<;>simp [this]
theorem text_len_eq (ps:List Part):∀d c prev,formedPs ps d c prev=true->lenPs ps=(textPs ps).length:=by
 refine tree_Q (P:=fun p=>∀d c,p.formedB d c=true->p.lenB=p.textB.length)
  (Q:=fun ps=>∀d c prev,formedPs ps d c prev=true->lenPs ps=(textPs ps).length)
  (R:=fun cs=>∀k d c keys,formedCs cs k d c keys=true->lenCs cs=(textCs cs).length) ?_ ?_ ?_ ?_ ?_ ps
 ·intro p hr hq d c h
  rw [p.formedB_eq] at h
  rw [p.lenB_eq,p.textB_eq]
  by_cases h11:p.kind=11
  ·have h1:(p.kind == 1)=false:=by rw [h11];rfl
   have h10:(p.kind == 10)=false:=by rw [h11];rfl
   have h11':(p.kind == 11)=true:=by simpa using h11
   rw [h11',if_pos rfl,Bool.and_eq_true] at h
   have h3:=hq _ _ _ h.2
   simp only [h1,h10,h11',if_true,if_false,Bool.false_eq_true]
   cases p.parts.isEmpty<;>simp [h3]<;>omega
  ·have h11':(p.kind == 11)=false:=by simpa using h11
   rw [h11',if_neg (by simp)] at h
   cases hs:selB p.kind with
   | true=>
    rw [hs,if_pos rfl,Bool.and_eq_true] at h
    have h3:=hr _ _ _ _ h.2
    have e1:(p.kind == 1)=false/\(p.kind == 10)=false/\(p.kind == 2)=false/\(decide (p.kind>=3)&&decide (p.kind<=9))=true:=by
     rcases (selB_iff _).1 hs with e|e|e<;>(rw [e];decide)
    obtain ⟨e1,e10,e2,e39⟩:=e1
    simp only [e1,e10,e2,h11',e39,if_true,if_false,Bool.false_eq_true]
    unfold useN useH useS useC
    rw [if_pos e39,hs]
    cases hst:(p.style == [])<;>simp [h3]<;>omega
   | false=>
    rw [hs,if_neg (by simp)] at h
    unfold plainB at h
    simp only [Bool.and_eq_true] at h
    obtain ⟨⟨⟨⟨⟨hk,hc⟩,hp⟩,ht⟩,hn⟩,hst⟩:=h
    have hc:=len0 hc
    rw [hc]
    by_cases k1:p.kind=1
    ·simp [k1]
    by_cases k10:p.kind=10
    ·simp [k10]
    have e:∀j:Int,p.kind≠j->(p.kind == j)=false:=fun j h=>by simpa using h
    by_cases k2:p.kind=2
    ·have hst2:p.style=[]:=by unfold wS at hst;rw [k2] at hst;simpa using hst
     rw [k2,hst2]
     simp [useN,selB,lenCs]<;>omega
    have k36:p.kind=3\/p.kind=4\/p.kind=5\/p.kind=6:=by
     unfold plainK at hk
     rw [e 1 k1,e 10 k10,e 2 k2] at hk
     simp only [Bool.false_eq_true,if_false] at hk
     split at hk
     ·rename_i hh;simp at hh;omega
     ·cases hk
    have e39:(decide (p.kind>=3)&&decide (p.kind<=9))=true:=by simp;omega
    simp only [e 1 k1,e 10 k10,e 2 k2,h11',e39,if_true,if_false,Bool.false_eq_true]
    unfold useN useH useS useC
    rw [if_pos e39,hs]
    cases hst:(p.style == [])<;>simp [lenCs,textCs]<;>omega
 ·intro d c prev _;simp [lenPs,textPs]
 ·intro p ps hp hq d c prev h
  rw [formedPs_cons,Bool.and_eq_true,Bool.and_eq_true] at h
  rw [lenPs_cons,textPs_cons,List.length_append,hp _ _ h.2.1,hq _ _ _ h.2.2]
 ·intro k d c keys _;simp [lenCs,textCs]
 ·intro x cs hq hr k d c keys h
  rw [formedCs_cons,Bool.and_eq_true,Bool.and_eq_true] at h
  rw [lenCs_cons,textCs_cons,hq _ _ _ h.2.1,hr _ _ _ _ h.2.2]
  simp<;>omega
mutual
def Part.nms:Part->List Bytes
 | ⟨k,_,n,_,cs,ps⟩=>(if decide (k>=2)&&decide (k<=9) then [n] else [])++(nmsPs ps++nmsCs cs)
def nmsPs:List Part->List Bytes
 | []=>[]
 | p::ps=>p.nms++nmsPs ps
def nmsCs:List (Bytes × List Part)->List Bytes
 | []=>[]
 | (_,ps)::cs=>nmsPs ps++nmsCs cs
end
theorem Part.nms_eq (p:Part):p.nms=(if decide (p.kind>=2)&&decide (p.kind<=9) then [p.name] else [])++(nmsPs p.parts++nmsCs p.cases):=by cases p;simp only [Part.nms]
theorem nmsPs_cons (p:Part) (ps:List Part):nmsPs (p::ps)=p.nms++nmsPs ps:=by simp only [nmsPs]
theorem nmsCs_cons (c:Case) (cs:List Case):nmsCs (c::cs)=nmsPs c.2++nmsCs cs:=by obtain ⟨k,q⟩:=c;simp only [nmsCs]
def Grew (l l' m:List Bytes):Prop:=(∀x,x∈l'↔x∈l\/x∈m)/\(l.Nodup->l'.Nodup)
theorem Grew.refl (l:List Bytes):Grew l l []:=⟨fun x=>by simp,fun h=>h⟩
theorem Grew.trans {a b c m n:List Bytes} (h:Grew a b m) (k:Grew b c n):Grew a c (m++n):=
 ⟨fun x=>by rw [k.1,h.1];simp [or_assoc],fun hn=>k.2 (h.2 hn)⟩
theorem Grew.same {a b m n:List Bytes} (h:Grew a b m) (hm:∀x,x∈m↔x∈n):Grew a b n:=⟨fun x=>by rw [h.1,hm],h.2⟩
theorem nodup_snoc {l:List Bytes} {x:Bytes} (h:l.Nodup) (hx:x ∉ l):(l++[x]).Nodup:=by
 rw [List.nodup_append]
 exact ⟨h,by simp,fun a ha b hb=>by simp at hb;subst hb;rintro rfl;exact hx ha⟩
theorem put_grew (x:Bytes) (l:List Bytes):Grew l (putN x l) [x]:=by
 unfold putN
 cases h:l.contains x with
 | true=>
  have hm:x∈l:=by simpa using h
  exact ⟨fun y=>by simp;rintro rfl;exact hm,fun h=>h⟩
 | false=>
  have hm:x ∉ l:=by simpa using h
  exact ⟨fun y=>by simp,fun h=>nodup_snoc h hm⟩
theorem add_grew (k:Int) (x:Bytes) (l:List Bytes):Grew l (addN k x l) (if decide (k>=2)&&decide (k<=9) then [x] else []):=by
 unfold addN
 cases hk:(decide (k>=2)&&decide (k<=9)) with
 | false=>simp only [Bool.false_and,Bool.false_eq_true,if_false];exact Grew.refl l
 | true=>
  have:=put_grew x l
  unfold putN at this
  cases h:l.contains x with
  | true=>rw [h] at this;simpa using this
  | false=>rw [h] at this;simpa using this
theorem names_grew (ps:List Part):∀l,Grew l (namesPs ps l) (nmsPs ps):=by
 refine tree_Q (P:=fun p=>∀l,Grew l (p.names l) p.nms) (Q:=fun ps=>∀l,Grew l (namesPs ps l) (nmsPs ps)) (R:=fun cs=>∀l,Grew l (namesCs cs l) (nmsCs cs)) ?_ ?_ ?_ ?_ ?_ ps
 ·intro p hr hq l
  rw [p.names_eq,p.nms_eq]
  exact (add_grew _ _ _).trans ((hq _).trans (hr _))
 ·intro l;simp only [namesPs,nmsPs];exact Grew.refl l
 ·intro p ps hp hq l;rw [namesPs_cons,nmsPs_cons];exact (hp l).trans (hq _)
 ·intro l;simp only [namesCs,nmsCs];exact Grew.refl l
 ·intro c cs hq hr l;rw [namesCs_cons,nmsCs_cons];exact (hq l).trans (hr _)
theorem fields_name {p:Part} (h:p.fieldsB=true):(if decide (p.kind>=2)&&decide (p.kind<=9) then [p.name] else [])=(if !(p.kind == 11)&&!(p.name == []) then [p.name] else []):=by
 obtain ⟨k,t,nm,st,cs,ps⟩:=p
 unfold Part.fieldsB fieldsK at h
 simp only at h⊢
 have e:∀j:Int,k≠j->(k == j)=false:=fun j h=>by simpa using h
 by_cases k1:k=1
 ·subst k1;simp at h;simp [h.2.1]
 by_cases k10:k=10
 ·subst k10;simp at h;simp [h.2.1]
 rw [e 1 k1,e 10 k10] at h
 simp only [Bool.false_eq_true,if_false,Bool.and_eq_true] at h
 have hn:=nameB_ne h.1
 have hn':(nm == [])=false:=by simpa using hn
 by_cases k11:k=11
 ·subst k11;rfl
 by_cases hk:2<=k/\k<=9
 ·have:(decide (k>=2)&&decide (k<=9))=true:=by simp;omega
  rw [this,e 11 k11,hn'];rfl
 ·have h2:=h.2.2
  rw [e 2 (by omega),e 11 k11,e 7 (by omega),e 8 (by omega),e 9 (by omega),e 3 (by omega),e 4 (by omega),e 6 (by omega),e 5 (by omega)] at h2
  simp at h2
theorem fields_cases {p:Part} (h:p.fieldsB=true):(selB p.kind=false->p.cases=[])/\((p.kind == 11)=false->p.parts=[])/\(p.kind == 11||selB p.kind->p.text=[]/\p.style=[]):=by
 obtain ⟨k,t,nm,st,cs,ps⟩:=p
 unfold Part.fieldsB fieldsK at h
 simp only at h⊢
 have e:∀j:Int,k≠j->(k == j)=false:=fun j h=>by simpa using h
 have nil:∀{α:Type} (l:List α),((l.length:Int) == 0)=true->l=[]:=fun l h=>len0 h
 by_cases k1:k=1
 ·subst k1;simp only [Int.reduceBEq,if_true,Bool.and_eq_true] at h
  exact ⟨fun _=>nil _ h.2.2.2.1,fun _=>nil _ h.2.2.2.2,fun hh=>by cases hh⟩
 by_cases k10:k=10
 ·subst k10;simp only [Int.reduceBEq,if_true,if_false,Bool.false_eq_true,Bool.and_eq_true] at h
  exact ⟨fun _=>nil _ h.2.2.2.1,fun _=>nil _ h.2.2.2.2,fun hh=>by cases hh⟩
 rw [e 1 k1,e 10 k10] at h
 simp only [Bool.false_eq_true,if_false,Bool.and_eq_true] at h
 obtain ⟨hn,ht,h⟩:=h
 by_cases k2:k=2
 ·subst k2;simp only [Int.reduceBEq,if_true,Bool.and_eq_true] at h
  exact ⟨fun _=>nil _ h.2.1,fun _=>nil _ h.2.2,fun hh=>by cases hh⟩
 by_cases k11:k=11
 ·subst k11;simp only [Int.reduceBEq,if_true,if_false,Bool.false_eq_true,Bool.and_eq_true] at h
  exact ⟨fun _=>nil _ h.2,fun hh=>(by cases hh),fun _=>⟨by simpa using ht,by simpa using h.1⟩⟩
 rw [e 2 k2,e 11 k11] at h
 simp only [Bool.false_eq_true,if_false] at h
 by_cases hs:selB k=true
 ·have h789:(k == 7||k == 8||k == 9)=true:=by rcases (selB_iff k).1 hs with rfl|rfl|rfl<;>rfl
  rw [h789,if_pos rfl,Bool.and_eq_true] at h
  exact ⟨fun hh=>(by rw [hs] at hh;cases hh),fun _=>nil _ h.2,fun _=>⟨by simpa using ht,by simpa using h.1⟩⟩
 ·have hs':selB k=false:=by simpa using hs
  have n7:k≠7/\k≠8/\k≠9:=⟨fun e=>hs ((selB_iff k).2 (.inl e)),fun e=>hs ((selB_iff k).2 (.inr (.inl e))),fun e=>hs ((selB_iff k).2 (.inr (.inr e)))⟩
  rw [e 7 n7.1,e 8 n7.2.1,e 9 n7.2.2] at h
  simp only [Bool.or_self,Bool.false_eq_true,if_false] at h
  have hx:((cs.length:Int) == 0)=true/\((ps.length:Int) == 0)=true:=by
   split at h
   ·simp only [Bool.and_eq_true] at h;exact h.2
   ·split at h
    ·simp only [Bool.and_eq_true] at h;exact h.2
    ·split at h
     ·simp only [Bool.and_eq_true] at h;exact h.2
     ·cases h
  refine ⟨fun _=>nil _ hx.1,fun _=>nil _ hx.2,fun hh=>?_⟩
  rw [e 11 k11,hs'] at hh;cases hh
theorem chk_grew (ps:List Part):∀d c prev l,(chkPs ps d c prev l).1=true->Grew l (chkPs ps d c prev l).2 (nmsPs ps):=by
 refine tree_Q (P:=fun p=>p.fieldsB=true->∀d c l,(p.chk d c l).1=true->Grew l (p.chk d c l).2 p.nms)
  (Q:=fun ps=>∀d c prev l,(chkPs ps d c prev l).1=true->Grew l (chkPs ps d c prev l).2 (nmsPs ps))
  (R:=fun cs=>∀k d c n seen l,(chkCs cs k d c n seen l).1=true->Grew l (chkCs cs k d c n seen l).2 (nmsCs cs)) ?_ ?_ ?_ ?_ ?_ ps
 ·intro p hr hq hf d c l h
  obtain ⟨hc,hp,_⟩:=fields_cases hf
  rw [p.chk_eq] at h⊢
  rw [p.nms_eq,fields_name hf]
  have hfin:∀l2 m,Grew l l2 m->Grew l (if !(p.kind == 11)&&!(p.name == []) then putN p.name l2 else l2) ((if !(p.kind == 11)&&!(p.name == []) then [p.name] else [])++m):=by
   intro l2 m hm
   cases (!(p.kind == 11)&&!(p.name == [])) with
   | true=>
    simp only [if_true]
    exact (hm.trans (put_grew p.name l2)).same fun x=>by simp;constructor<;>(intro h;rcases h with h|h<;>simp [h])
   | false=>simpa using hm
  by_cases h11:p.kind=11
  ·have hs:selB p.kind=false:=by rw [h11];rfl
   have h11':(p.kind == 11)=true:=by simpa using h11
   rw [hc hs]
   have h0:nmsCs []=[]:=by simp only [nmsCs]
   rw [h0,List.append_nil]
   have h2:=hq (d+1) c false l
   simp only [h11',hs,if_true,if_false,Bool.false_eq_true] at h hfin⊢
   by_cases hd:decide (d>=8)=true
   ·rw [hd] at h;simp at h
   ·have hd':decide (d>=8)=false:=by simpa using hd
    rw [hd'] at h⊢
    simp only [Bool.false_eq_true,if_false] at h⊢
    generalize chkPs p.parts (d+1) c false l=r at *
    obtain ⟨b,l1⟩:=r
    cases b with
    | false=>simp at h
    | true=>exact hfin l1 _ (h2 rfl)
  ·have h11':(p.kind == 11)=false:=by simpa using h11
   rw [hp h11']
   have h0:nmsPs []=[]:=by simp only [nmsPs]
   rw [h0,List.nil_append]
   simp only [h11',if_false,Bool.false_eq_true] at h hfin⊢
   cases hs:selB p.kind with
   | false=>
    rw [hs] at h
    rw [hc hs]
    have h0:nmsCs []=[]:=by simp only [nmsCs]
    rw [h0]
    simp only [if_false,Bool.false_eq_true] at h⊢
    exact hfin l [] (Grew.refl l)
   | true=>
    rw [hs] at h
    have h2:=hr p.kind (d+1) c p.cases.length [] l
    simp only [if_true] at h⊢
    by_cases hd:decide (d>=8)=true
    ·rw [hd] at h;simp at h
    ·have hd':decide (d>=8)=false:=by simpa using hd
     rw [hd'] at h⊢
     simp only [Bool.false_eq_true,if_false] at h⊢
     generalize chkCs p.cases p.kind (d+1) c p.cases.length [] l=r at *
     obtain ⟨b,l1⟩:=r
     cases b with
     | false=>simp at h
     | true=>exact hfin l1 _ (h2 rfl)
 ·intro d c prev l _;simp only [chkPs,nmsPs];exact Grew.refl l
 ·intro p ps hp hq d c prev l h
  rw [chkPs_cons] at h⊢
  rw [nmsPs_cons]
  split at h
  ·cases h
  ·rename_i hn
   rw [if_neg hn]
   have hf:p.fieldsB=true:=by
    cases hh:p.fieldsB with
    | true=>rfl
    | false=>exfalso;apply hn;rw [hh];simp
   have h1:=hp hf d c l
   generalize p.chk d c l=r at *
   obtain ⟨b,l1⟩:=r
   cases b with
   | false=>simp at h
   | true=>exact (h1 rfl).trans (hq _ _ _ _ h)
 ·intro k d c n seen l _;simp only [chkCs,nmsCs];exact Grew.refl l
 ·intro x cs hq hr k d c n seen l h
  rw [chkCs_cons] at h⊢
  rw [nmsCs_cons]
  split at h
  ·cases h
  ·rename_i hn
   rw [if_neg hn]
   have h1:=hq d (c||(k != 9)) false l
   generalize chkPs x.2 d (c||(k != 9)) false l=r at *
   obtain ⟨b,l1⟩:=r
   cases b with
   | false=>simp at h
   | true=>exact (h1 rfl).trans (hr _ _ _ _ _ _ h)
theorem nodup_sub {a b:List Bytes} (ha:a.Nodup) (h:∀x∈a,x∈b):a.length<=b.length:=by
 induction a generalizing b with
 | nil=>simp
 | cons x a ih=>
  rw [List.nodup_cons] at ha
  have hx:x∈b:=h x (by simp)
  have:=ih (b:=b.erase x) ha.2 fun y hy=>by
   have hne:y≠x:=fun e=>ha.1 (e ▸ hy)
   exact (List.mem_erase_of_ne hne).2 (h y (by simp [hy]))
  rw [List.length_erase_of_mem hx] at this
  have:0<b.length:=List.length_pos_of_mem hx
  simp;omega
theorem valid_same (ps:List Part):validP ps=validB ps:=by
 unfold validP validB
 rw [chk_formed0 ps 0 false false []]
 have h01:(0:Int)+1=1:=rfl
 rw [h01]
 cases hf:formedPs ps 1 false false with
 | false=>simp
 | true=>
  have h1:=chk_grew ps 0 false false [] (by rw [chk_formed0,h01,hf])
  have h2:=names_grew ps []
  have h3:=text_len_eq ps _ _ _ hf
  have ha:=nodup_sub (h1.2 List.nodup_nil) fun x hx=>(h2.1 x).2 ((h1.1 x).1 hx)
  have hb:=nodup_sub (h2.2 List.nodup_nil) fun x hx=>(h1.1 x).2 ((h2.1 x).1 hx)
  have:(chkPs ps 0 false false []).2.length=(namesPs ps []).length:=Nat.le_antisymm ha hb
  rw [this,h3]
end Go.Ir
end
namespace Go.Ir
structure WfP (p:Part):Prop where
 keys:selB p.kind=true->∀c∈p.cases,keyB p.kind c.1=true
 other:selB p.kind=true->∃c∈p.cases,c.1=kOtherS
 cases0:selB p.kind=false->p.cases=[]
 parts0:(p.kind == 11)=false->p.parts=[]
 elem:(p.kind == 11)=true->p.text=[]/\p.style=[]
 name:selB p.kind=true->p.name.length<=40
theorem nameB_len {s:Bytes} (h:nameB s=true):s.length<=40:=by
 cases s with
 | nil=>simp
 | cons c r=>
  unfold nameB at h
  simp only [Bool.and_eq_true,decide_eq_true_eq] at h
  omega
theorem plain_fields {p:Part} {c:Bool} (h11:(p.kind == 11)=false) (hs:selB p.kind=false) (h:plainB p c=true):p.fieldsB=true:=by
 rw [fields_plain p c h11 hs,Bool.and_eq_true] at h
 exact h.1
theorem formed_wf (ps:List Part):∀d c prev,formedPs ps d c prev=true->allPs WfP ps:=by
 refine tree_Q (P:=fun p=>∀d c,p.formedB d c=true->p.all WfP)
  (Q:=fun ps=>∀d c prev,formedPs ps d c prev=true->allPs WfP ps)
  (R:=fun cs=>∀k d c keys,formedCs cs k d c keys=true->allCs WfP cs/\(∀x∈cs,keyB k x.1=true)/\(keys.contains kOtherS=true\/∃x∈cs,x.1=kOtherS)) ?_ ?_ ?_ ?_ ?_ ps
 ·intro p hr hq d c h
  rw [p.formedB_eq] at h
  rw [p.all_eq]
  cases h11:p.kind == 11 with
  | true=>
   have hs:selB p.kind=false:=by
    have:p.kind=11:=by simpa using h11
    rw [this];rfl
   rw [h11,if_pos rfl,Bool.and_eq_true] at h
   obtain ⟨h1,h2⟩:=h
   unfold elHead at h1
   simp at h1
   have hc:p.cases=[]:=by simpa using h1.2
   refine ⟨⟨fun hh=>(by rw [hs] at hh;cases hh),fun hh=>(by rw [hs] at hh;cases hh),fun _=>hc,fun hh=>(by rw [h11] at hh;cases hh),fun _=>⟨h1.1.1.2,h1.1.2⟩,fun hh=>(by rw [hs] at hh;cases hh)⟩,?_,hq _ _ _ h2⟩
   rw [hc];simp only [allCs]
  | false=>
   rw [h11,if_neg (by simp)] at h
   cases hs:selB p.kind with
   | true=>
    rw [hs,if_pos rfl,Bool.and_eq_true] at h
    obtain ⟨h1,h2⟩:=h
    unfold selHead at h1
    simp at h1
    have hp:p.parts=[]:=by simpa using h1.1.1.2
    obtain ⟨a1,a2,a3⟩:=hr _ _ _ _ h2
    refine ⟨⟨fun _=>a2,fun _=>?_,fun hh=>(by rw [hs] at hh;cases hh),fun _=>hp,fun hh=>(by rw [h11] at hh;cases hh),fun _=>nameB_len h1.1.1.1.1.1.2⟩,a1,?_⟩
    ·rcases a3 with a3|a3
     ·cases a3
     ·exact a3
    ·rw [hp];simp only [allPs]
   | false=>
    rw [hs,if_neg (by simp)] at h
    obtain ⟨f1,f2,f3⟩:=fields_cases (plain_fields h11 hs h)
    refine ⟨⟨fun hh=>(by rw [hs] at hh;cases hh),fun hh=>(by rw [hs] at hh;cases hh),f1,f2,fun hh=>(by rw [h11] at hh;cases hh),fun hh=>(by rw [hs] at hh;cases hh)⟩,?_,?_⟩
    ·rw [f1 hs];simp only [allCs]
    ·rw [f2 h11];simp only [allPs]
 ·intro d c prev _;simp only [allPs]
 ·intro p ps hp hq d c prev h
  rw [formedPs_cons,Bool.and_eq_true,Bool.and_eq_true] at h
  rw [allPs_cons]
  exact ⟨hp _ _ h.2.1,hq _ _ _ h.2.2⟩
 ·intro k d c keys h
  refine ⟨by simp only [allCs],fun x hx=>(by cases hx),.inl ?_⟩
  simpa only [formedCs] using h
 ·intro x cs hq hr k d c keys h
  rw [formedCs_cons,Bool.and_eq_true,Bool.and_eq_true] at h
  obtain ⟨h0,h1,h2⟩:=h
  obtain ⟨a1,a2,a3⟩:=hr _ _ _ _ h2
  have hk:keyB k x.1=true:=by
   cases hh:keyB k x.1 with
   | true=>rfl
   | false=>rw [hh] at h0;simp at h0
  rw [allCs_cons]
  refine ⟨⟨hq _ _ _ h1,a1⟩,fun y hy=>?_,?_⟩
  ·rcases List.mem_cons.1 hy with rfl|hy
   ·exact hk
   ·exact a2 y hy
  ·rcases a3 with a3|⟨y,hy,hy2⟩
   ·have:kOtherS∈keys\/kOtherS=x.1:=by simpa using a3
    rcases this with h|h
    ·left;simpa using h
    ·right;exact ⟨x,by simp,h.symm⟩
   ·right;exact ⟨y,by simp [hy],hy2⟩
theorem valid_wf {ps:List Part} (h:validB ps=true):allPs WfP ps:=by
 unfold validB at h
 rw [Bool.and_eq_true,Bool.and_eq_true] at h
 exact formed_wf ps _ _ _ h.1.1
theorem all_imp {f g:Part->Prop} (hfg:∀p,f p->g p) (ps:List Part):allPs f ps->allPs g ps:=by
 refine tree_Q (P:=fun p=>p.all f->p.all g) (Q:=fun ps=>allPs f ps->allPs g ps) (R:=fun cs=>allCs f cs->allCs g cs) ?_ ?_ ?_ ?_ ?_ ps
 ·intro p hr hq;rw [p.all_eq,p.all_eq];exact fun h=>⟨hfg p h.1,hr h.2.1,hq h.2.2⟩
 ·intro _;simp only [allPs]
 ·intro p ps hp hq;rw [allPs_cons,allPs_cons];exact fun h=>⟨hp h.1,hq h.2⟩
 ·intro _;simp only [allCs]
 ·intro c cs hq hr;rw [allCs_cons,allCs_cons];exact fun h=>⟨hq h.1,hr h.2⟩
theorem all_and {f g:Part->Prop} (ps:List Part):allPs f ps->allPs g ps->allPs (fun p=>f p/\g p) ps:=by
 refine tree_Q (P:=fun p=>p.all f->p.all g->p.all (fun p=>f p/\g p)) (Q:=fun ps=>allPs f ps->allPs g ps->allPs (fun p=>f p/\g p) ps) (R:=fun cs=>allCs f cs->allCs g cs->allCs (fun p=>f p/\g p) cs) ?_ ?_ ?_ ?_ ?_ ps
 ·intro p hr hq;rw [p.all_eq,p.all_eq,p.all_eq];exact fun h k=>⟨⟨h.1,k.1⟩,hr h.2.1 k.2.1,hq h.2.2 k.2.2⟩
 ·intro _ _;simp only [allPs]
 ·intro p ps hp hq;rw [allPs_cons,allPs_cons,allPs_cons];exact fun h k=>⟨hp h.1 k.1,hq h.2 k.2⟩
 ·intro _ _;simp only [allCs]
 ·intro c cs hq hr;rw [allCs_cons,allCs_cons,allCs_cons];exact fun h k=>⟨hq h.1 k.1,hr h.2 k.2⟩
theorem all_short (ps:List Part):∀M,wtPs ps<=M->allPs (fun p=>∀c∈p.cases,c.1.length<=M) ps:=by
 refine tree_Q (P:=fun p=>∀M,p.wt<=M->p.all (fun p=>∀c∈p.cases,c.1.length<=M)) (Q:=fun ps=>∀M,wtPs ps<=M->allPs (fun p=>∀c∈p.cases,c.1.length<=M) ps) (R:=fun cs=>∀M,wtCs cs<=M->allCs (fun p=>∀c∈p.cases,c.1.length<=M) cs) ?_ ?_ ?_ ?_ ?_ ps
 ·intro p hr hq M h
  rw [p.wt_eq] at h
  rw [p.all_eq]
  exact ⟨fun c hc=>by have:=wtCs_mem hc;omega,hr M (by omega),hq M (by omega)⟩
 ·intro M _;simp only [allPs]
 ·intro p ps hp hq M h;rw [wtPs_cons] at h;rw [allPs_cons];exact ⟨hp M (by omega),hq M (by omega)⟩
 ·intro M _;simp only [allCs]
 ·intro c cs hq hr M h;rw [wtCs_cons] at h;rw [allCs_cons];exact ⟨hq M (by omega),hr M (by omega)⟩
theorem collPs_ext (ps:List Part) (l:List Sel):SelExt l (collPs ps l):=(coll_same _ ps (Nat.lt_succ_self _) l).2
theorem collCs_ext (cs:List Case):∀j l,SelExt l (collCs cs j l):=by
 induction cs with
 | nil=>intro j l;simp only [collCs];exact SelExt.refl l
 | cons c cs ih=>intro j l;rw [collCs_cons];exact ((SelExt.mod l j c.1).trans (collPs_ext c.2 _)).trans (ih _ _)
theorem selAdd_ext (l:List Sel) (k:Int) (n:Bytes):SelExt l (selAdd l k n):=by
 unfold selAdd
 split
 ·exact SelExt.app _ _
 ·exact SelExt.refl _
def FoundP (L:List Sel) (p:Part):Prop:=selB p.kind=true->¬findI L p.kind p.name<0
theorem FoundP.mono {L L':List Sel} (h:SelExt L L') {p:Part} (hp:FoundP L p):FoundP L' p:=fun hs=>by
 have:=hp hs
 rw [findI_ext h _ _ this];exact this
theorem coll_found (ps:List Part):allPs WfP ps->∀l,allPs (FoundP (collPs ps l)) ps:=by
 refine tree_Q (P:=fun p=>p.all WfP->∀l,p.all (FoundP (p.coll l))) (Q:=fun ps=>allPs WfP ps->∀l,allPs (FoundP (collPs ps l)) ps) (R:=fun cs=>allCs WfP cs->∀j l,allCs (FoundP (collCs cs j l)) cs) ?_ ?_ ?_ ?_ ?_ ps
 ·intro p hr hq h l
  rw [p.all_eq] at h⊢
  obtain ⟨h1,h2,h3⟩:=h
  rw [p.coll_eq]
  have hp:=hq h3 l
  cases hs:selB p.kind with
  | true=>
   simp only [if_true]
   have e1:=selAdd_ext (collPs p.parts l) p.kind p.name
   have e2:=collCs_ext p.cases (selAt (collPs p.parts l) p.kind p.name) (selAdd (collPs p.parts l) p.kind p.name)
   refine ⟨fun _=>?_,hr h2 _ _,all_imp (fun q hq=>FoundP.mono (e1.trans e2) hq) _ hp⟩
   have:=(selAt_ge (collPs p.parts l) p.kind p.name).1
   rw [findI_ext e2 _ _ this];exact this
  | false=>
   simp only [if_false,Bool.false_eq_true]
   refine ⟨fun hh=>(by rw [hs] at hh;cases hh),?_,hp⟩
   rw [h1.cases0 hs];simp only [allCs]
 ·intro _ l;simp only [allPs]
 ·intro p ps hp hq h l
  rw [allPs_cons] at h⊢
  rw [collPs_cons]
  have e:=collPs_ext ps (p.coll l)
  refine ⟨?_,hq h.2 _⟩
  have h3:=hp h.1 l
  have:=all_imp (f:=FoundP (p.coll l)) (g:=FoundP (collPs ps (p.coll l))) (fun q hq=>FoundP.mono e hq) [p] (by rw [allPs_cons];exact ⟨h3,by simp only [allPs]⟩)
  rw [allPs_cons] at this
  exact this.1
 ·intro _ j l;simp only [allCs]
 ·intro c cs hq hr h j l
  rw [allCs_cons] at h⊢
  rw [collCs_cons]
  have e:=collCs_ext cs j (collPs c.2 (l.modify j (addKey c.1)))
  exact ⟨all_imp (fun q hq=>FoundP.mono e hq) _ (hq h.1 _),hr h.2 _ _⟩
def KS (G:Int->Bytes->Prop) (l:List Sel):Prop:=∀s∈l,∀k∈s.keys,G s.kind k
theorem KS.mod {G:Int->Bytes->Prop} {l:List Sel} (h:KS G l) {j:Nat} {key:Bytes} {s:Sel} (hs:l[j]? = some s) (hk:G s.kind key):KS G (l.modify j (addKey key)):=by
 intro t ht k hkt
 obtain ⟨i,hi⟩:=List.getElem?_of_mem ht
 rw [List.getElem?_modify] at hi
 by_cases hj:j=i
 ·subst hj
  rw [hs] at hi
  have h2:addKey key s=t:=by simpa using hi
  subst h2
  have hm:=List.mem_of_getElem? hs
  unfold addKey at hkt⊢
  split at hkt
  ·rename_i hc;rw [if_pos hc];exact h s hm k hkt
  ·rename_i hc;rw [if_neg hc]
   simp only [List.mem_append,List.mem_singleton] at hkt
   rcases hkt with hkt|rfl
   ·exact h s hm k hkt
   ·exact hk
 ·have:l[i]? = some t:=by
   cases hl:l[i]? with
   | none=>rw [hl] at hi;simp at hi
   | some u=>rw [hl] at hi;simp [hj] at hi;rw [hi]
  exact h t (List.mem_of_getElem? this) k hkt
theorem KS.add {G:Int->Bytes->Prop} {l:List Sel} (h:KS G l) (k:Int) (n:Bytes):KS G (selAdd l k n):=by
 unfold selAdd
 split
 ·intro s hs k hk
  rcases List.mem_append.1 hs with hs|hs
  ·exact h s hs k hk
  ·simp at hs;subst hs;cases hk
 ·exact h
def KeysG (G:Int->Bytes->Prop) (p:Part):Prop:=selB p.kind=true->∀c∈p.cases,G p.kind c.1
theorem selAdd_at (l:List Sel) (k:Int) (n:Bytes):∃s,(selAdd l k n)[selAt l k n]? = some s/\s.kind=k:=by
 unfold selAdd selAt
 by_cases h:findI l k n<0
 ·rw [if_pos h,if_pos h]
  exact ⟨⟨k,n,[]⟩,by simp,rfl⟩
 ·rw [if_neg h,if_neg h]
  unfold findI at h⊢
  induction l with
  | nil=>exact absurd (by simp [idxI]) h
  | cons s l ih=>
   simp only [idxI] at h⊢
   cases hs:selIs k n s with
   | true=>
    refine ⟨s,rfl,?_⟩
    unfold selIs at hs;simp at hs;exact hs.1
   | false=>
    simp only [hs,cond_false] at h⊢
    have h2:¬idxI (selIs k n) l<0:=by intro hlt;rw [if_pos hlt] at h;exact h (by decide)
    obtain ⟨t,h3,h4⟩:=ih h2
    rw [if_neg h2]
    refine ⟨t,?_,h4⟩
    have:(idxI (selIs k n) l+1).toNat=(idxI (selIs k n) l).toNat+1:=by omega
    rw [this];exact h3
theorem ext_at {l l':List Sel} (h:SelExt l l') {j:Nat} {k:Int} (hj:∃s,l[j]? = some s/\s.kind=k):∃s,l'[j]? = some s/\s.kind=k:=by
 obtain ⟨s,h1,h2⟩:=hj
 have hi:j<l'.length:=Nat.lt_of_lt_of_le (List.getElem?_eq_some_iff.1 h1).1 h.1
 exact ⟨l'[j],List.getElem?_eq_getElem hi,by rw [<-(h.2 j s _ h1 (List.getElem?_eq_getElem hi)).1];exact h2⟩
theorem coll_keys (G:Int->Bytes->Prop) (ps:List Part):allPs (KeysG G) ps->∀l,KS G l->KS G (collPs ps l):=by
 refine tree_Q (P:=fun p=>p.all (KeysG G)->∀l,KS G l->KS G (p.coll l)) (Q:=fun ps=>allPs (KeysG G) ps->∀l,KS G l->KS G (collPs ps l))
  (R:=fun cs=>allCs (KeysG G) cs->∀k,(∀c∈cs,G k c.1)->∀j l,(∃s,l[j]? = some s/\s.kind=k)->KS G l->KS G (collCs cs j l)) ?_ ?_ ?_ ?_ ?_ ps
 ·intro p hr hq h l hl
  rw [p.all_eq] at h
  rw [p.coll_eq]
  have h1:=hq h.2.2 l hl
  cases hs:selB p.kind with
  | true=>
   simp only [if_true]
   exact hr h.2.1 p.kind (h.1 hs) _ _ (selAdd_at _ _ _) (h1.add _ _)
  | false=>simpa using h1
 ·intro _ l hl;simpa only [collPs] using hl
 ·intro p ps hp hq h l hl
  rw [allPs_cons] at h
  rw [collPs_cons]
  exact hq h.2 _ (hp h.1 l hl)
 ·intro _ k _ j l _ hl;simpa only [collCs] using hl
 ·intro c cs hq hr h k hk j l hj hl
  rw [allCs_cons] at h
  rw [collCs_cons]
  obtain ⟨s,hs,hsk⟩:=hj
  have h2:=hq h.1 _ (hl.mod hs (by rw [hsk];exact hk c (by simp)))
  exact hr h.2 k (fun d hd=>hk d (by simp [hd])) j _ (ext_at ((SelExt.mod l j c.1).trans (collPs_ext c.2 _)) ⟨s,hs,hsk⟩) h2
theorem findI_ord (l:List Sel) (k:Int) (n:Bytes):findI (l.map Sel.ord) k n=findI l k n:=by
 unfold findI
 induction l with
 | nil=>rfl
 | cons s l ih=>
  have:selIs k n s.ord=selIs k n s:=rfl
  simp only [List.map_cons,idxI,this,ih]
theorem findC_ne {cs:List Case} {k:Bytes} (h:∃c∈cs,c.1=k):findC cs k≠none:=by
 obtain ⟨c,hc,hk⟩:=h
 intro hn
 have:(cs.find? fun c=>c.1 == k)=none:=by
  unfold findC at hn;simpa using hn
 have:=List.find?_eq_none.1 this c hc
 simp [hk] at this
theorem ord_mem {kind:Int} {keys:List Bytes} {k:Bytes} (h:k∈ordK kind keys):k∈keys\/k=kOtherS:=by
 unfold ordK at h
 simp only [List.mem_append,List.mem_singleton] at h
 rcases h with h|h|h
 ·left;exact (List.mem_filter.1 h).1
 ·unfold clsK at h
  split at h
  ·cases h
  ·left;have:=(List.mem_filter.1 h).2;simpa using this
 ·right;exact h
theorem ord_ne (kind:Int) (keys:List Bytes):ordK kind keys≠[]:=by unfold ordK;simp
theorem ord_len (kind:Int) (keys:List Bytes):(ordK kind keys).length<=keys.length+6:=by
 unfold ordK
 rw [List.length_append,List.length_append]
 have h1:=List.length_filter_le (keepK kind) keys
 have h2:(clsK kind keys).length<=5:=by
  unfold clsK
  split
  ·simp
  ·exact List.length_filter_le _ kFive
 simp;omega
theorem sels_len (ps:List Part):(selsP ps).length<=wtPs ps:=by
 unfold selsP
 rw [List.length_map]
 have:=collPs_w ps []
 have h2:=len_selW (collPs ps [])
 simp only [selW] at this;omega
theorem sels_keys (ps:List Part):∀s∈selsP ps,s.keys≠[]/\s.keys.length<=wtPs ps+6:=by
 intro s hs
 obtain ⟨t,ht,rfl⟩:=List.mem_map.1 hs
 refine ⟨ord_ne _ _,?_⟩
 have h1:=ord_len t.kind t.keys
 have h2:=keys_selW ht
 have h3:=collPs_w ps []
 simp only [selW] at h3
 show (ordK t.kind t.keys).length<=_
 omega
theorem KS.nil (G:Int->Bytes->Prop):KS G []:=fun s hs=>by cases hs
theorem sels_klen (ps:List Part):∀s∈selsP ps,∀k∈s.keys,k.length<=wtPs ps+5:=by
 intro s hs k hk
 obtain ⟨t,ht,rfl⟩:=List.mem_map.1 hs
 have h:=coll_keys (fun _ k=>k.length<=wtPs ps) ps (all_imp (fun p hp _ c hc=>hp c hc) ps (all_short ps _ (Nat.le_refl _))) [] (KS.nil _)
 rcases ord_mem (kind:=t.kind) (keys:=t.keys) hk with h1|rfl
 ·have:=h t ht k h1;omega
 ·show 5<=_;omega
theorem valid_ok {ps:List Part} (h:allPs WfP ps):allPs (resOk (selsP ps)) ps:=by
 refine all_imp (fun p hp=>?_) ps (all_and ps h (coll_found ps h []))
 intro hs
 refine ⟨?_,findC_ne (hp.1.other hs)⟩
 unfold selsP
 rw [findI_ord];exact hp.2 hs
theorem wtPs_app (a b:List Part):wtPs (a++b)=wtPs a+wtPs b:=by
 induction a with
 | nil=>simp [wtPs_nil]
 | cons x a ih=>rw [List.cons_append,wtPs_cons,wtPs_cons,ih];omega

end Go.Ir
namespace Go.Ir
open Go.Proofs
variable (W0 : World)
theorem okCe (l:List Case):∀y∈l.map Case.enc,y.ok=true:=by
 intro y hy;obtain ⟨x,_,rfl⟩:=List.mem_map.1 hy;rfl
theorem celCe (l:List Case):∀y∈l.map Case.enc,(cells y).length=2:=by
 intro y hy;obtain ⟨x,_,rfl⟩:=List.mem_map.1 hy;rfl
def TCs:Nat:=77
theorem c_cloneC (cs:List Case) (hl:cs.length<=2^30):RetN Tryz.prog W0 145 [.sl (cs.map Case.enc)] [] (.arr TCs 2 (cs.map Case.enc)) []:=by
 refine fn_newW (s:=2) f145ok (by simp) (by simp [lk]) fun n0 hn0=>?_
 clear hn0
 have hll:cs.length<=LLim:=by unfold LLim;omega
 cases cs with
 | nil=>
  simp only [push_cast,seval,reduceEqDiff,List.map_nil,List.length_nil,eq_true (show 0<=LLim by decide),eq_true (celCe [])]
  intros
  refine ⟨?_,?_⟩
  ·intros
   exact ⟨_,StLe.own (s:=2) (e:=TCs) (sz:=2) (k:=0) rfl,_,rfl,by simp [lk],rfl,fun _ _ h=>by cases h⟩
  ·intros
   exact finNW_i rfl (by simp [lk,TCs])
 | cons c cs=>
  have hcel:=celCe (c::cs)
  rw [List.map_cons] at hcel
  rw [List.map_cons,Case.enc_eq] at *
  rw [List.length_cons] at hll
  simp only [push_cast,seval,reduceEqDiff,List.length_nil,eq_true (show 0<=LLim by decide),eq_true hcel,List.nil_append,eq_true hll]
  intros
  exact finNW_i rfl (by simp [lk,TCs,Case.enc_eq])
theorem frz_boxM {W0:World} {nt n n' e sz:Nat} {env env':Env} {σ τ:Sto} {rid kid:Id} {A B es:List V} (hrk:rid≠kid) (hr:lk σ rid=some (.box (.agg (A ++ .arr kid::B)))) (hk:lk σ kid=some (.arr e sz es)) (hτ:∀i e',lk τ i=some e'->lk σ i=some e'/\i≠kid) (hτr:lk τ rid=none) (hok:∀y∈es,y.ok=true) (henv:∀s,get env' s=get env s\/get env' s = .any) (hn:n<=n') :
  StLe W0 nt ⟨env,σ,n⟩ ⟨env',(rid,.box (.agg (A ++ .sl es::B)))::τ,n'⟩:=by
 refine StLe.weak (fun i=>if i=kid then some es else none) (fun i es' h=>?_) (fun s=>?_) (fun i e' h=>?_) hn
 ·split at h
  ·rename_i hi;subst hi;cases h
   refine ⟨⟨e,sz,hk⟩,?_⟩
   simp only [lk,if_neg hrk]
   cases hl:lk τ i with
   | none=>rfl
   | some x=>exact absurd rfl (hτ i x hl).2
  ·cases h
 ·rcases henv s with h|h
  ·rw [h];exact .refl _
  ·rw [h];exact .any _
 ·simp only [lk] at h
  by_cases hi:rid=i
  ·rw [if_pos hi] at h
   cases h
   subst hi
   refine ⟨_,hr,.box _ _ (.agg _ _ (by simp) fun k c c' h1 h2=>?_) (by simp [cells]) rfl rfl⟩
   by_cases hk:k<A.length
   ·rw [List.getElem?_append_left hk] at h1 h2
    rw [h1] at h2;cases h2;exact .refl _
   ·rw [List.getElem?_append_right (by omega)] at h1 h2
    cases hq:k-A.length with
    | zero=>
     rw [hq] at h1 h2
     simp at h1 h2
     subst h1 h2
     refine .arr kid es es (by simp) rfl (fun k c c' h1 h2=>?_) (fun k c c' h1 h2=>?_)
     ·rw [h1] at h2;cases h2;exact .refl _
     ·rw [h1] at h2;cases h2
      have:=hok c (List.mem_of_getElem? h1)
      exact ⟨rfl,this,this⟩
    | succ q=>
     rw [hq] at h1 h2
     simp only [List.getElem?_cons_succ] at h1 h2
     rw [h1] at h2;cases h2;exact .refl _
  ·rw [if_neg hi] at h
   exact ⟨_,(hτ i e' h).1,.refl _⟩
theorem retS_of_retN {P:Program} {W0:World} {f:FuncId} {args:List V} {σ σ':Sto} {e sz:Nat} {es:List V} (h:RetN P W0 f args σ (.arr e sz es) σ') (hok:∀y∈es,y.ok=true):RetS P W0 f args σ (.sl es) σ':=by
 refine ⟨h.callable,h.dom,fun n w μ H vals hp hv=>Calls.mono (h.run n w μ H vals hp hv) ?_⟩
 rintro e' w' ⟨val,μ',H',n',id,rfl,hm,h1,hn0,hl,hp',hn,hf,hold⟩
 have hat:=init_at (W0:=W0) (nt:=1) (args:=[.arr id]) (by simp) hp' (VRels.cons (.arr _ _ hm h1) VRels.nil_)
 obtain ⟨μ2,H2,hr,hp2,hf2,hold2,hbn⟩:=hat.weak (fun i=>if i=id then some es else none) (env':=[(0,.sl es)]) (σ':=σ') (fun i es' hi=>by
   split at hi
   ·rename_i h0;subst h0;cases hi;exact ⟨⟨e,sz,by simp [lk]⟩,hl⟩
   ·cases hi) (fun s=>by
   cases s with
   | zero=>
    simp only [params,get,if_true]
    refine .arr id es es (by simp) rfl (fun k c c' h1 h2=>?_) (fun k c c' h1 h2=>?_)
    ·rw [h1] at h2;cases h2;exact .refl _
    ·rw [h1] at h2;cases h2
     have:=hok c (List.mem_of_getElem? h1)
     exact ⟨rfl,this,this⟩
   | succ s=>exact .refl _) (fun i e2 hi=>⟨e2,by
   simp only [lk]
   rw [if_neg]
   ·exact hi
   ·rintro rfl;rw [hl] at hi;exact absurd hi (by simp),.refl _⟩) (Nat.le_refl _)
 refine ⟨val,μ2,H2,n',rfl,?_,hp2,hn,hf.trans hf2,fun i hi h0=>hold2 i (by simp only;omega) (hold i hi h0)⟩
 have:=hr.at_ 0
 simpa [get] using this
set_option maxHeartbeats 4000000 in
theorem c_clonedN:∀(N:Nat) (ps:List Part),wtPs ps<N->wtPs ps<=2^24->RetN Tryz.prog W0 115 [.sl (ps.map Part.enc)] [] (.arr TPt 6 (ps.map Part.enc)) []:=by
 intro N
 induction N with
 | zero=>intro ps h;omega
 | succ N ihN=>
 have ih:=fun ps h1 h2=>retS_of_retN (ihN ps h1 h2) (okPt _)
 intro ps hN hw0
 have hlen:=len_wtPs ps
 refine fn_newW (s:=2) f115ok (by simp) (by simp [lk]) fun n0 hn0=>?_
 clear hn0
 simp only [push_cast,seval,reduceEqDiff]
 intro k1 k2 k3
 refine aWP_loopW ps.length (Inv:=fun m st=>∃done rest n id,ps=done++rest/\m=rest.length/\id.1<n/\st=⟨[(3,.arr id),(7,.sl (ps.map Part.enc)),(8,.i .i64 ps.length),(9,.i .i64 done.length)],[(id,.arr TPt 6 (done.map Part.enc))],n⟩) ⟨_,(StLe.own (s:=3) (e:=TPt) (sz:=6) (k:=99) rfl).trans (StLe.envD (fun t=>?_) (Nat.le_refl _)),[],ps,_,_,rfl,rfl,?_,rfl⟩ ?_
 ·left
  by_cases h3:3=t
  ·subst h3;rfl
  ·simp [get,h3]
 ·simp
 rintro m _ ⟨done,rest,n,id,hz,rfl,hin,rfl⟩
 cases rest with
 | nil=>
  simp only [List.append_nil] at hz
  subst hz
  simp only [push_cast,seval,reduceEqDiff]
  intros
  exact finNW_i rfl (by simp [lk])
 | cons p rest=>
  have hbd:=zip_bd hz
  have hwp:=wtPs_mem (ps:=ps) (p:=p) (by rw [hz];simp)
  have hpw:=p.wt_eq
  have hre:=ih p.parts (by omega) (by omega)
  have hlc:=len_wtCs p.cases
  have hcl:=c_cloneC W0 p.cases (by omega)
  have fix:∀k j,(id=(n+1+k,j))=False:=fun k j=>eq_false fun he=>by rw [he] at hin;simp at hin;omega
  have fxi:∀k j,((n+1+k,j)=id)=False:=fun k j=>eq_false fun he=>of_eq_false (fix k j) he.symm
  have hll:done.length+1<=LLim:=by have:ps.length=done.length+(rest.length+1):=by rw [hz];simp
                                   unfold LLim;omega
  simp only [push_cast,seval,reduceEqDiff,hz,wrap_zip p (done:=done) (by omega),fix,fxi,List.length_map]
  repeat' (first|(((first|apply condU_s|apply gdU_t|apply gdU_f)<;>intro _h)<;>simp only [push_cast,seval,reduceEqDiff,_h,hz,wrap_zip p (done:=done) (by omega),fix,fxi,List.length_map])|(refine c_call (by exact hre) ?_;simp only [push_cast,seval,reduceEqDiff,hz,wrap_zip p (done:=done) (by omega),fix,fxi,List.length_map])|intro _)
  refine c_calln hcl (fun i e h=>by simp [lk] at h) ?_
  rw [over_nil]
  have hTC:TCs=77:=rfl
  simp only [push_cast,seval,reduceEqDiff,hz,wrap_zip p (done:=done) (by omega),fix,fxi,List.length_map]
  intros
  rename_i a1 a2 a3 a4 a5
  have hlt:n<n+1+a1/\n+1+a1<n+1+a1+1+a2+1+a3/\n+1+a1+1+a2+1+a3<n+1+a1+1+a2+1+a3+1+a4+1+a5:=by omega
  generalize n+1+a1+1+a2+1+a3+1+a4+1+a5=n3 at *
  generalize n+1+a1+1+a2+1+a3=c0 at *
  generalize n+1+a1=x0 at *
  obtain ⟨hx0,hc0,hn3⟩:=hlt
  have gic:(id=(c0,19))=False:=eq_false fun he=>by rw [he] at hin;simp at hin;omega
  have gci:((c0,19)=id)=False:=eq_false fun he=>of_eq_false gic he.symm
  have gix:(id=(x0,5))=False:=eq_false fun he=>by rw [he] at hin;simp at hin;omega
  have gxi:((x0,5)=id)=False:=eq_false fun he=>of_eq_false gix he.symm
  refine aWP_loopW p.cases.length (Inv:=fun m st=>∃cd cr n',p.cases=cd++cr/\m=cr.length/\c0<n'/\st=⟨[(3,.arr id),(5,.ref (x0,5) 0),(7,.sl ((done++p::rest).map Part.enc)),(8,.i .i64 (done++p::rest).length),(9,.i .i64 done.length),(23,.i .i64 p.cases.length),(24,.i .i64 cd.length)],[((c0,19),.arr TCs 2 (p.cases.map Case.enc)),((x0,5),.box (.agg [.i .i64 p.kind,.s p.text,.s p.name,.s p.style,.arr (c0,19),.sl (p.parts.map Part.enc)])),(id,.arr TPt 6 (done.map Part.enc))],n'⟩) ⟨_,StLe.refl,[],p.cases,_,rfl,rfl,hn3,rfl⟩ ?_
  clear hre hcl
  rintro m _ ⟨cd,cr,n',hcz,rfl,hn',rfl⟩
  cases cr with
  | nil=>
   have hlt0:decide ((cd.length:Int)<(p.cases.length:Int))=false:=by rw [hcz];simp
   simp only [push_cast,seval,reduceEqDiff,hlt0]
   intros
   refine wkW_i (frz_boxM (e:=TCs) (sz:=2) (rid:=(x0,5)) (kid:=(c0,19)) (A:=[.i .i64 p.kind,.s p.text,.s p.name,.s p.style]) (B:=[.sl (p.parts.map Part.enc)]) (es:=p.cases.map Case.enc) (τ:=[(id,.arr TPt 6 (done.map Part.enc))]) (by simp) (by simp [lk]) (by simp [lk]) (fun i e' h=>?_) (by simp [lk,gix]) (okCe _) (fun s=>.inl rfl) (Nat.le_refl _)) ?_
   ·simp only [lk] at h
    split at h
    ·rename_i he;subst he;cases h
     exact ⟨by simp [lk,gci,gxi],fun h=>of_eq_false gic h⟩
    ·cases h
   have hps:((done++[p]).map Part.enc)=done.map Part.enc++[.agg [.i .i64 p.kind,.s p.text,.s p.name,.s p.style,.sl (p.cases.map Case.enc),.sl (p.parts.map Part.enc)]]:=by simp [Part.enc_eq]
   have gxi2:=gxi
   simp only [push_cast,seval,reduceEqDiff,List.cons_append,List.nil_append,gxi,gix,eq_true hll,List.length_map,<-hps,TPt,wrap_zip p (done:=done) (by omega)]
   intros
   exact ⟨_,_,Nat.lt_succ_self _,StLe.drop (fun i e h=>lk_app_left (τ:=[_]) h) (Nat.le_refl _),done++[p],rest,_,_,by simp,rfl,by (try simp);omega,rfl⟩
  | cons c cr=>
   have hlt0:decide ((cd.length:Int)<(p.cases.length:Int))=true:=by rw [hcz];simp;omega
   have hcb:=zip_bd hcz
   have hcw:=wtCs_mem (cs:=p.cases) (c:=c) (by rw [hcz];simp)
   have hrc:=ih c.2 (by omega) (by omega)
   have hget:(p.cases.map Case.enc)[cd.length]? = some (.agg [.s c.1,.sl (c.2.map Part.enc)]):=by
    rw [hcz,List.getElem?_map,List.getElem?_append_right (by simp)];simp [Case.enc_eq]
   have hset:(p.cases.map Case.enc).set cd.length (.agg [.s c.1,.sl (c.2.map Part.enc)])=p.cases.map Case.enc:=by
    rw [hcz];simp [List.set_append,Case.enc_eq]
   simp only [push_cast,seval,reduceEqDiff,hlt0,hget,hset,if_pos hcb,wrap_zip c (done:=cd) (by omega),List.length_map,TCs]
   repeat' (first|(((first|apply condU_s|apply gdU_t|apply gdU_f)<;>intro _h)<;>simp only [push_cast,seval,reduceEqDiff,_h,hlt0,hget,hset,if_pos hcb,wrap_zip c (done:=cd) (by omega),List.length_map,TCs])|(refine c_call (by exact hrc) ?_;simp only [push_cast,seval,reduceEqDiff,hlt0,hget,hset,if_pos hcb,wrap_zip c (done:=cd) (by omega),List.length_map,TCs])|intro _)
   exact ⟨_,_,Nat.lt_succ_self _,StLe.refl,cd++[c],cr,_,by rw [hcz];simp,rfl,by omega,rfl⟩
theorem c_cloned (N:Nat) (ps:List Part) (h:wtPs ps<N) (hw:wtPs ps<=2^24):RetS Tryz.prog W0 115 [.sl (ps.map Part.enc)] [] (.sl (ps.map Part.enc)) []:=retS_of_retN (c_clonedN W0 N ps h hw) (okPt _)

end Go.Ir
section
namespace Go.Ir
open Go.RowKit Go.Proofs.YtjhgnkpcldnmdaaGreatDoor
def mkEl (ag:Bool) (c:List V):V:=if ag then .agg c else c.headD .any
inductive WtV (P:Program):TypeId->List V->Prop where
 | bool (t:TypeId) (b:Bool) (h:P.underlying t=some .bool):WtV P t [.b b]
 | int (t:TypeId) (k:IntKind) (n:Int) (h:P.underlying t=some (.int k)) (hw:(Lit.int k n).wf=true):WtV P t [.i k n]
 | str (t:TypeId) (l:List UInt8) (h:P.underlying t=some .string):WtV P t [.s l]
 | sl (t e:TypeId) (es:List V) (h:P.underlying t=some (.slice e)) (he:∀el∈es,∃c,el=mkEl ((aggT P e).getD false) c/\cells el=c) (hc:∀el∈es,(cells el).length=P.cellsOf e) (hw:∀el∈es,WtV P e (cells el)):WtV P t [.sl es]
 | st (t:TypeId) (fs:Array Field) (vs:List V) (h:P.underlying t=some (.struct fs)) (hl:vs.length=P.cellsOf t) (hf:∀f∈fs.toList,WtV P f.type ((vs.drop f.offset).take (P.cellsOf f.type))):WtV P t vs
mutual
def bulkV:V->Nat
 | .s l=>l.length+1
 | .sl es=>bulkVs es+1
 | .agg cs=>bulkVs cs
 | _=>1
def bulkVs:List V->Nat
 | []=>0
 | v::vs=>bulkV v+bulkVs vs
end
theorem bulkVs_append (a b:List V):bulkVs (a++b)=bulkVs a+bulkVs b:=by
 induction a with
 | nil=>simp [bulkVs]
 | cons x a ih=>simp [bulkVs,ih];omega
def layB (P:Program):List Field->Nat->Option Nat
 | [],off=>some off
 | f::fs,off=>if f.offset=off then layB P fs (off+P.cellsOf f.type) else none
def plnB (P:Program) (T:List TypeId):Bool:=T.all fun t=>match P.underlying t with
 | some .bool|some (.int _)|some .string=>P.cellsOf t == 1
 | some (.slice e)=>P.cellsOf t == 1&&T.contains e&&decide (0<P.cellsOf e)
 | some (.struct fs)=>fs.toList.all (fun f=>T.contains f.type)&&layB P fs.toList 0 == some (P.cellsOf t)
 | _=>false
section
variable {H : Type} {enc : TypeId × Value → H} {P : Program} {w : World} {base : Nat} {spare : Nat → Bool} {held : Bool} {T : List TypeId}
theorem bulkAll_mem {d:DataW H} {ds:List (DataW H)} (h:d∈ds):Rows.uptoBulk d<=Rows.uptoBulkAll ds:=by
 induction ds with
 | nil=>cases h
 | cons x ds ih=>
  simp only [Rows.uptoBulkAll]
  rcases List.mem_cons.1 h with rfl|h
  ·omega
  ·have:=ih h;omega
theorem read_fields {μ:Id->Option Value} {Hc:Addr->Option Value} {cs:List Value} :
  ∀(fs:List Field) (off tot:Nat) (ds:List (DataW H)),layB P fs off=some tot->cs.length=tot->ds.length=fs.length->
   (∀(i:Nat) (f:Field) (d:DataW H),fs[i]? = some f->ds[i]? = some d->∃vs,CRel μ Hc vs ((cs.drop f.offset).take (P.cellsOf f.type))/\WtV P f.type vs/\bulkVs vs<=Rows.uptoBulk d)->
   off<=tot/\∃vs,CRel μ Hc vs (cs.drop off)/\(∀pre:List V,pre.length=off->∀f∈fs,WtV P f.type (((pre++vs).drop f.offset).take (P.cellsOf f.type)))/\bulkVs vs<=Rows.uptoBulkAll ds
 | [],off,tot,ds,hlay,hcs,hds,h=>by
  simp only [layB,Option.some.injEq] at hlay
  subst hlay
  refine ⟨Nat.le_refl _,[],?_,fun _ _ f hf=>(by cases hf),by simp [bulkVs]⟩
  rw [List.drop_of_length_le (by omega)]
  exact CRel.nil_
 | f::fs,off,tot,ds,hlay,hcs,hds,h=>by
  simp only [layB] at hlay
  split at hlay
  ·rename_i ho
   cases ds with
   | nil=>simp at hds
   | cons d ds=>
    obtain ⟨hle,vs,h1,h2,h3⟩:=read_fields fs _ tot ds hlay hcs (by simpa using hds) (fun i f' d' hf hd=>h (i+1) f' d' (by simpa using hf) (by simpa using hd))
    obtain ⟨us,g1,g2,g3⟩:=h 0 f d rfl rfl
    rw [ho] at g1
    have hul:us.length=P.cellsOf f.type:=by
     have:=g1.len
     rw [List.length_take,List.length_drop] at this
     omega
    refine ⟨by omega,us++vs,?_,?_,?_⟩
    ·have:=g1.append h1
     rw [<-List.drop_drop,List.take_append_drop] at this
     exact this
    ·intro pre hpre f' hf'
     rcases List.mem_cons.1 hf' with rfl|hf'
     ·rw [ho,<-hpre,List.drop_left,<-hul,List.take_left]
      exact g2
     ·have:=h2 (pre++us) (by simp [hpre,hul]) f' hf'
      rwa [List.append_assoc] at this
    ·rw [bulkVs_append]
     simp only [Rows.uptoBulkAll]
     omega
  ·cases hlay
theorem mkEl_cells {t:TypeId} {vs:List V} {ag:Bool} (hag:aggT P t=some ag) (h:WtV P t vs):cells (mkEl ag vs)=vs:=by
 cases ag with
 | true=>rfl
 | false=>
  cases h with
  | st t fs vs h hl hf=>simp [aggT,h,aggD] at hag
  | _=>rfl
theorem mkEl_bulk {t:TypeId} {vs:List V} {ag:Bool} (hag:aggT P t=some ag) (h:WtV P t vs):bulkV (mkEl ag vs)=bulkVs vs:=by
 cases ag with
 | true=>simp [mkEl,bulkV]
 | false=>
  cases h with
  | st t fs vs h hl hf=>simp [aggT,h,aggD] at hag
  | _=>simp [mkEl,bulkVs]
theorem read_plain {μ:Id->Option Value} (hT:plnB P T=true):∀(n:Nat) (t:TypeId) (cs:List Value) (x:DataW H × List MemPlace),t∈T->DataW.trod enc P w base spare held n t cs=some x->Rows.uptoBulk x.1<=1048576->
  ∃vs,CRel μ (fun ad=>w.cell? ad) vs cs/\WtV P t vs/\bulkVs vs<=Rows.uptoBulk x.1:=by
 intro n
 induction n with
 | zero=>intro t cs x _ h;simp [DataW.trod] at h
 | succ n ih=>
  intro t cs x ht h hb
  have hpl:=List.all_eq_true.1 hT t ht
  have one:∀{c:V} {v:Value},VRel μ (fun ad=>w.cell? ad) c v->v.oneCell'=true->CRel μ (fun ad=>w.cell? ad) [c] [v]:=fun hv h1=>
   ⟨VRels.cons hv VRels.nil_,fun v' hv'=>by rw [List.mem_singleton.1 hv'];exact h1⟩
  cases hu:P.underlying t with
  | none=>simp [hu] at hpl
  | some d=>
   cases d<;>simp only [hu] at hpl<;>(try (cases hpl;done))
   case bool=>
    unfold DataW.trod at h
    rw [hu] at h
    match cs,h with
    | [.bool b],h=>cases h;exact ⟨[.b b],one (.b b) rfl,.bool t b hu,by simp [bulkVs,bulkV,Rows.uptoBulk]⟩
   case int k=>
    unfold DataW.trod at h
    rw [hu] at h
    match cs,h with
    | [.int k' m],h=>
     simp only at h
     split at h
     ·rename_i hk
      obtain ⟨rfl,hw⟩:=hk
      cases h
      exact ⟨[.i k' m],one (.i k' m) rfl,.int t k' m hu hw,by simp [bulkVs,bulkV,Rows.uptoBulk]⟩
     ·cases h
   case string=>
    unfold DataW.trod at h
    rw [hu] at h
    match cs,h with
    | [.string s],h=>
     simp only at h
     split at h
     ·rename_i hs
      cases h
      simp only [Rows.uptoBulk] at hb
      refine ⟨[.s s.data.toList],one ?_ rfl,.str t _ hu,by simp [bulkVs,bulkV,Rows.uptoBulk]⟩
      have:=VRel.s (μ:=μ) (H:=fun ad=>w.cell? ad) s.data.toList (by unfold SLim;omega)
      simpa using this
     ·cases h
   case slice e=>
    simp only [Bool.and_eq_true,beq_iff_eq,List.contains_eq_mem,decide_eq_true_eq] at hpl
    obtain ⟨⟨hc1,heT⟩,hpos⟩:=hpl
    rcases DataW.trod_slice hu h with ⟨rfl,rfl⟩|⟨a,len,cap,elems,rest,m,hm,rfl,rfl,hbase,hlc,hcm,hel,helem,_,_⟩
    ·exact ⟨[.sl []],one (.slE none 0) rfl,.sl t e [] hu (fun _ h=>by cases h) (fun _ h=>by cases h) (fun _ h=>by cases h),by simp [bulkVs,bulkV,Rows.uptoBulk]⟩
    ·cases hm
     simp only [Rows.uptoBulk] at hb
     have hepl:=List.all_eq_true.1 hT e heT
     obtain ⟨ag,hag⟩:∃ag,aggT P e=some ag:=by
      unfold aggT
      cases hue:P.underlying e with
      | none=>simp [hue] at hepl
      | some d=>exact ⟨_,rfl⟩
     have each:∀i,i<len->∃(vs:List V) (seg:List Value) (y:DataW H × List MemPlace),elems[i]? = some y/\seg.length=P.cellsOf e/\(∀k,k<P.cellsOf e->w.cell? (a.add (i*P.cellsOf e+k))=seg[k]?)/\CRel μ (fun ad=>w.cell? ad) vs seg/\WtV P e vs/\bulkVs vs<=Rows.uptoBulk y.1:=by
      intro i hi
      have h1:=helem i hi
      have hlt:i<elems.length:=by omega
      rw [List.getElem?_eq_getElem hlt] at h1
      cases hcs:w.cells? base (a.add (i*P.cellsOf e)) (P.cellsOf e) with
      | none=>rw [hcs] at h1;cases h1
      | some seg=>
       rw [hcs] at h1
       obtain ⟨_,hl,hcell⟩:=World.cells?_some hcs
       have hmem:elems[i].1∈elems.map (·.1):=List.mem_map.2 ⟨_,List.getElem_mem hlt,rfl⟩
       have:=bulkAll_mem hmem
       obtain ⟨vs,r1,r2,r3⟩:=ih e seg elems[i] heT h1 (by omega)
       refine ⟨vs,seg,elems[i],List.getElem?_eq_getElem hlt,hl,fun k hk=>?_,r1,r2,r3⟩
       have:=hcell k hk
       rwa [show (a.add (i*P.cellsOf e)).add k=a.add (i*P.cellsOf e+k) from by
        unfold Addr.add
        by_cases hi:i*P.cellsOf e=0<;>by_cases hj:k=0<;>simp [hi,hj,Nat.add_assoc]] at this
     have all:∀j,j<=len->∃(es:List V) (vals:List Value),es.length=j/\vals.length=j*P.cellsOf e/\(∀el∈es,(∃c,el=mkEl ag c/\cells el=c)/\(cells el).length=P.cellsOf e/\WtV P e (cells el))/\CRel μ (fun ad=>w.cell? ad) (flat es) vals/\
       (∀(k:Nat) (v:Value),vals[k]? = some v->w.cell? (a.add k)=some v)/\bulkVs es<=Rows.uptoBulkAll ((elems.map (·.1)).take j):=by
      intro j
      induction j with
      | zero=>intro _;exact ⟨[],[],rfl,by simp,fun _ h=>(by cases h),CRel.nil_,fun k v h=>(by simp at h),by simp [bulkVs]⟩
      | succ j ihj=>
       intro hj
       obtain ⟨es,vals,g1,g2,g3,g4,g5,g6⟩:=ihj (by omega)
       obtain ⟨vs,seg,y,e1,e2,e3,e4,e5,e6⟩:=each j (by omega)
       have hcl:cells (mkEl ag vs)=vs:=mkEl_cells hag e5
       refine ⟨es++[mkEl ag vs],vals++seg,by simp [g1],by rw [List.length_append,g2,e2,Nat.succ_mul],?_,?_,?_,?_⟩
       ·intro el hel'
        rcases List.mem_append.1 hel' with h'|h'
        ·exact g3 el h'
        ·rw [List.mem_singleton.1 h',hcl]
         exact ⟨⟨vs,rfl,rfl⟩,by rw [e4.len,e2],e5⟩
       ·rw [flat_append]
        refine g4.append ?_
        have:flat [mkEl ag vs]=vs:=by simp [flat,hcl]
        rw [this];exact e4
       ·intro k v hk
        rcases Nat.lt_or_ge k vals.length with hlt|hge
        ·rw [List.getElem?_append_left hlt] at hk;exact g5 k v hk
        ·rw [List.getElem?_append_right hge] at hk
         have hklt:k-vals.length<seg.length:=(List.getElem?_eq_some_iff.1 hk).1
         have:=e3 (k-vals.length) (by omega)
         rw [hk,g2,show j*P.cellsOf e+(k-j*P.cellsOf e)=k by omega] at this
         exact this
       ·rw [bulkVs_append]
        have ht:(elems.map (·.1)).take (j+1)=(elems.map (·.1)).take j++[y.1]:=by
         rw [List.take_add_one,List.getElem?_map,e1];rfl
        have hba:∀(a b:List (DataW H)),Rows.uptoBulkAll (a++b)=Rows.uptoBulkAll a+Rows.uptoBulkAll b:=by
         intro a b
         induction a with
         | nil=>simp [Rows.uptoBulkAll]
         | cons x a ih=>simp [Rows.uptoBulkAll,ih];omega
        rw [ht,hba]
        have:=mkEl_bulk hag e5
        simp only [bulkVs,Rows.uptoBulkAll]
        omega
     obtain ⟨es,vals,g1,g2,g3,g4,g5,g6⟩:=all len (Nat.le_refl _)
     have hlen:∀(ds:List (DataW H)),ds.length<=Rows.uptoBulkAll ds:=by
      intro ds
      induction ds with
      | nil=>simp [Rows.uptoBulkAll]
      | cons d ds ih=>
       have:1<=Rows.uptoBulk d:=by
        cases d<;>(try simp only [Rows.uptoBulk])<;>(try omega)
        rename_i l;cases l<;>simp [Rows.uptoBulk]
       simp only [Rows.uptoBulkAll,List.length_cons]
       omega
     have hl1:=hlen (elems.map (·.1))
     rw [List.length_map,hel] at hl1
     refine ⟨[.sl es],one ?_ rfl,.sl t e es hu (by rw [hag];exact fun el h=>(g3 el h).1) (fun el h=>(g3 el h).2.1) (fun el h=>(g3 el h).2.2),?_⟩
     ·have:=VRel.slC (μ:=μ) (H:=fun ad=>w.cell? ad) es a cap (P.cellsOf e) vals (by omega) (by unfold LLim;omega) (fun el hel'=>(g3 el hel').2.1) g4.len g4.one g5 g4.at_
      rw [g1] at this
      exact this
     ·rw [List.take_of_length_le (by simp;omega)] at g6
      simp only [bulkVs,bulkV,Rows.uptoBulk]
      omega
   case struct fs=>
    simp only [Bool.and_eq_true,beq_iff_eq] at hpl
    obtain ⟨hfT,hlay⟩:=hpl
    obtain ⟨xs,m,hm,rfl,hcs,hxl,hf⟩:=DataW.trod_struct hu h
    cases hm
    simp only [Rows.uptoBulk] at hb
    obtain ⟨_,vs,r1,r2,r3⟩:=read_fields (P:=P) (μ:=μ) (Hc:=fun ad=>w.cell? ad) (cs:=cs) fs.toList 0 (P.cellsOf t) (xs.map (·.1)) hlay hcs (by simp [hxl]) (fun i f d hfi hdi=>by
     have hfi':fs[i]? = some f:=by rw [<-Array.getElem?_toList];exact hfi
     have h1:=hf i f hfi'
     rw [List.getElem?_map] at hdi
     cases hx:xs[i]? with
     | none=>rw [hx] at hdi;cases hdi
     | some y=>
      rw [hx] at hdi h1
      cases hdi
      have hmem:y.1∈xs.map (·.1):=List.mem_map.2 ⟨y,List.mem_of_getElem? hx,rfl⟩
      have:=bulkAll_mem hmem
      have hft:f.type∈T:=by
       have:=List.all_eq_true.1 hfT f (List.mem_of_getElem? hfi)
       simpa using this
      exact ih f.type _ y hft h1 (by omega))
    rw [List.drop_zero] at r1
    refine ⟨vs,r1,.st t fs vs hu (by rw [r1.len,hcs]) (fun f hf'=>by simpa using r2 [] rfl f hf'),?_⟩
    simp only [Rows.uptoBulk]
    omega
end
end Go.Ir
end
section
namespace Go.Ir
open Go.RowKit Go.ChangeShapes Go.WideShapes
section
variable {H : Type} {enc : TypeId × Value → H} {P : Program} {W W' : World}
theorem trodAll_stays (hl:laidOutB P=true) (hb:Below W.heap.size W W') {sp:Nat->Bool}:∀(ts:List TypeId) (vs:List Value) (ds:List (DataW H)) (ps:List MemPlace),(∀t∈ts,P.readableRec t=true/\t<P.types.size)->
  DataW.TrodAll enc P W 0 (fun _=>true) true ts vs ds ps->(∀x∈ps,x.block<W.heap.size)->(∀x∈ps,sp x.block=true)->DataW.TrodAll enc P W' 0 sp true ts vs ds ps
 | [],vs,ds,ps,_,h,_,_=>by
  obtain ⟨rfl,rfl,rfl⟩:=trodAll_nil h
  exact trodAll_mk0
 | t::ts,vs,ds,ps,hts,h,hlt,hsp=>by
  obtain ⟨v,vs',d,ds',p,q,rfl,rfl,rfl,h1,h2⟩:=trodAll_cons h
  obtain ⟨hr,hrow⟩:=hts t (by simp)
  refine trodAll_cons_mk (WideElems.Trod_stays hl hr hrow h1 (fun x hx=>hb.same (hlt x (by simp [hx]))) (fun x hx=>hsp x (by simp [hx]))) (trodAll_stays hl hb ts vs' ds' q (fun t' ht'=>hts t' (by simp [ht'])) h2 (fun x hx=>hlt x (by simp [hx])) (fun x hx=>hsp x (by simp [hx])))
theorem post_true {f:Func} {s:ChangeSpec} {apart fresh handsOn again:Bool} {args:Array Value} {ds gs:List (DataW H)} {before:List MemPlace} {tb:TypeId}
  (hl:laidOutB P=true) (hts:∀t∈f.params.toList,P.readableRec t=true/\t<P.types.size) (hrt:f.resultTypes = #[tb]) (htb:P.underlying tb=some .bool) (hv:s.vars=[])
  (hfn:s.fn H (ds++gs)={ results:=[.lit (.bool true)],args:=ds })
  (hW:DataW.Whole enc P f.params.toList s.vars apart W args.toList ds gs before) (hb:Below W.heap.size W W'):s.post enc P f apart fresh handsOn again W args (.bool true) W':=by
 have hlt:∀p∈before,p.block<W.heap.size:=fun p hp=>hW.lt p hp
 have hW':=hW
 obtain ⟨p,q,hA,hV,rfl,hz,hn⟩:=hW
 rw [hv] at hV
 obtain ⟨rfl,rfl⟩:=trodVars_none hV
 simp only [List.append_nil] at *
 have hold:∀x∈p,(fun b=>decide (b<W.heap.size)) x.block=true:=fun x hx=>by simpa using hlt x hx
 have hargs:∀sp:Nat->Bool,(∀x∈p,sp x.block=true)->DataW.TrodAll enc P W' 0 sp true f.params.toList args.toList ds p:=fun sp hsp=>trodAll_stays hl hb _ _ _ _ hts hA hlt hsp
 have hres:∀(b:Nat) (sp:Nat->Bool) (hd:Bool),DataW.TrodAll enc P W' b sp hd f.resultTypes.toList ((Value.bool true).resultList f.resultTypes.size) [.lit (.bool true)] []:=by
  intro b sp hd
  rw [hrt]
  exact trodAll_cons_mk (p:=[]) (p':=[]) (shut_bool htb _) trodAll_mk0
 refine ⟨ds,[],p,[],p,[],hW',?_,?_,?_,World.keptBut_mono (fun x hx=>⟨hx,.inr (.inl hx)⟩) (hb.frame _),fun _=>?_⟩
 ·rw [List.append_nil,hfn];exact hres _ _ _
 ·rw [List.append_nil,hfn];exact hargs _ hold
 ·rw [hv,List.append_nil,hfn];rfl
 ·refine ⟨ok_one hrt rfl (okWide_bool_mk htb _),.lit (.bool true)::ds,[],p,⟨p,[],?_,by rw [hv];rfl,by simp,?_,?_⟩,fun x hx _=>hx⟩
  ·rw [hrt]
   exact trodAll_cons_mk (p:=[]) (shut_bool htb _) (hargs _ (fun _ _=>rfl))
  ·intro b off hp
   have:=hlt _ hp
   have hfz:=hb.frozen (p:=⟨b,off,none⟩) this
   rw [hfz]
   exact hz b off (by simpa using hp)
  ·intro ha;exact hn ha
theorem Hp.start (W:World) (n:Nat):Hp W [] n (fun _=>none) (fun ad=>W.cell? ad) W where
 base:=Below.refl _ _
 pins _ _ h:=h
 ents _ _ h:=by simp [lk] at h
 unp bk ho:=by obtain ⟨id,e,h,_⟩:=ho;simp [lk] at h
 sep _ _ _ _ _ h:=by simp [lk] at h
 bd _ _:=rfl
theorem calls_true {f:FuncId} {args:List V} {vals:List Value} (h:RetS P W f args [] (.b true) []) (hv:VRels (fun _=>none) (fun ad=>W.cell? ad) args vals) :
  Calls P f vals.toArray W fun e W'=>e = .returned (.bool true)/\Below W.heap.size W W':=
 (h.run 0 W _ _ vals (Hp.start W 0) hv).mono fun e W' ⟨val,μ',H',n',he,hr,hp,_⟩=>⟨by rw [he,hr.b_inv],hp.base⟩
end
end Go.Ir
end
section
namespace Go.Ir
open Go.Proofs
section
variable {P : Program}
theorem WtV.int_inv {t:TypeId} {k:IntKind} {v:V} (h:WtV P t [v]) (ht:P.underlying t=some (.int k)):∃n,v = .i k n/\(Lit.int k n).wf=true:=by
 cases h with
 | int _ k' n h hw=>rw [ht] at h;cases h;exact ⟨n,rfl,hw⟩
 | bool _ b h=>rw [ht] at h;cases h
 | str _ l h=>rw [ht] at h;cases h
 | sl _ e es h _ _ _=>rw [ht] at h;cases h
 | st _ fs vs h _ _=>rw [ht] at h;cases h
theorem WtV.str_inv {t:TypeId} {v:V} (h:WtV P t [v]) (ht:P.underlying t=some .string):∃l,v = .s l:=by
 cases h with
 | int _ k' n h hw=>rw [ht] at h;cases h
 | bool _ b h=>rw [ht] at h;cases h
 | str _ l h=>exact ⟨l,rfl⟩
 | sl _ e es h _ _ _=>rw [ht] at h;cases h
 | st _ fs vs h _ _=>rw [ht] at h;cases h
theorem WtV.sl_inv {t e:TypeId} {v:V} (h:WtV P t [v]) (ht:P.underlying t=some (.slice e)):∃es,v = .sl es/\(∀el∈es,∃c,el=mkEl ((aggT P e).getD false) c/\cells el=c)/\(∀el∈es,(cells el).length=P.cellsOf e)/\(∀el∈es,WtV P e (cells el)):=by
 cases h with
 | int _ k' n h hw=>rw [ht] at h;cases h
 | bool _ b h=>rw [ht] at h;cases h
 | str _ l h=>rw [ht] at h;cases h
 | sl _ e' es h h1 h2 h3=>rw [ht] at h;cases h;exact ⟨es,rfl,h1,h2,h3⟩
 | st _ fs vs h _ _=>rw [ht] at h;cases h
theorem WtV.st_inv {t:TypeId} {fs:Array Field} {vs:List V} (h:WtV P t vs) (ht:P.underlying t=some (.struct fs)):vs.length=P.cellsOf t/\∀f∈fs.toList,WtV P f.type ((vs.drop f.offset).take (P.cellsOf f.type)):=by
 cases h with
 | int _ k' n h hw=>rw [ht] at h;cases h
 | bool _ b h=>rw [ht] at h;cases h
 | str _ l h=>rw [ht] at h;cases h
 | sl _ e' es h h1 h2 h3=>rw [ht] at h;cases h
 | st _ fs' vs h h1 h2=>rw [ht] at h;cases h;exact ⟨h1,h2⟩
end
theorem len2 {l:List V} (h:l.length=2):∃a b,l=[a,b]:=by
 match l,h with
 | [a,b],_=>exact ⟨a,b,rfl⟩
theorem len6 {l:List V} (h:l.length=6):∃a b c d e f,l=[a,b,c,d,e,f]:=by
 match l,h with
 | [a,b,c,d,e,f],_=>exact ⟨a,b,c,d,e,f,rfl⟩
theorem c9:Tryz.prog.cellsOf 9=1:=by kernel_rfl
theorem c3:Tryz.prog.cellsOf 3=1:=by kernel_rfl
theorem c31:Tryz.prog.cellsOf 31=1:=by kernel_rfl
theorem c50:Tryz.prog.cellsOf 73=1:=by kernel_rfl
theorem c52:Tryz.prog.cellsOf 75=6:=by kernel_rfl
theorem c54:Tryz.prog.cellsOf 77=2:=by kernel_rfl
theorem a52:aggT Tryz.prog 75=some true:=by kernel_rfl
theorem a54:aggT Tryz.prog 77=some true:=by kernel_rfl
theorem parts_of:∀(N:Nat) (v:V),bulkV v<=N->WtV Tryz.prog 31 [v]->∃ps,v = .sl (encPs ps)/\wtPs ps<=bulkV v:=by
 intro N
 induction N with
 | zero=>intro v h;cases v<;>simp [bulkV] at h<;>intro hw<;>obtain ⟨es,he,_⟩:=hw.sl_inv Tryz.underlying31<;>cases he
 | succ N ih=>
  intro v hN hw
  obtain ⟨es,rfl,h1,h2,h3⟩:=hw.sl_inv Tryz.underlying31
  rw [a52] at h1
  simp only [Option.getD_some] at h1
  simp only [bulkV] at hN⊢
  have hcs:∀v:V,bulkV v<=N->WtV Tryz.prog 73 [v]->∃cs,v = .sl (encCs cs)/\wtCs cs<=bulkV v:=by
   intro v hv hw
   obtain ⟨es,rfl,h1,h2,h3⟩:=hw.sl_inv Tryz.underlying73
   rw [a54] at h1
   simp only [Option.getD_some] at h1
   simp only [bulkV] at hv⊢
   have:∃cs,es=encCs cs/\wtCs cs<=bulkVs es:=by
    clear hw
    induction es with
    | nil=>exact ⟨[],by simp [encCs],by simp [wtCs]⟩
    | cons el es ihe=>
     simp only [bulkVs] at hv⊢
     obtain ⟨cs,hcs,hcw⟩:=ihe (by omega) (fun x hx=>h1 x (List.mem_cons_of_mem _ hx)) (fun x hx=>h2 x (List.mem_cons_of_mem _ hx)) (fun x hx=>h3 x (List.mem_cons_of_mem _ hx))
     obtain ⟨c,rfl,_⟩:=h1 el (by simp)
     have hst:=h3 (mkEl true c) (by simp)
     have hc:cells (mkEl true c)=c:=rfl
     rw [hc] at hst
     obtain ⟨hl,hf⟩:=hst.st_inv Tryz.underlying77
     rw [c54] at hl
     obtain ⟨x0,x1,rfl⟩:=len2 hl
     have f0:=hf _ (by exact List.mem_cons_self)
     have f1:=hf _ (by exact List.mem_cons_of_mem _ List.mem_cons_self)
     simp only [c9,c31,List.drop_zero,List.drop_succ_cons,List.take_succ_cons,List.take_zero] at f0 f1
     obtain ⟨k,rfl⟩:=f0.str_inv Tryz.underlying9
     have hb:bulkV (mkEl true [.s k,x1])=k.length+1+bulkV x1:=by simp [mkEl,bulkV,bulkVs]
     rw [hb] at hv⊢
     obtain ⟨ps,rfl,hpw⟩:=ih x1 (by omega) f1
     refine ⟨(k,ps)::cs,by rw [hcs];simp [encCs,mkEl],?_⟩
     rw [wtCs_cons]
     simp only
     omega
   obtain ⟨cs,rfl,hw⟩:=this
   exact ⟨cs,rfl,by omega⟩
  have:∃ps,es=encPs ps/\wtPs ps<=bulkVs es:=by
   clear hw
   induction es with
   | nil=>exact ⟨[],by simp [encPs],by simp [wtPs]⟩
   | cons el es ihe=>
    simp only [bulkVs] at hN⊢
    obtain ⟨ps,hps,hpw⟩:=ihe (by omega) (fun x hx=>h1 x (List.mem_cons_of_mem _ hx)) (fun x hx=>h2 x (List.mem_cons_of_mem _ hx)) (fun x hx=>h3 x (List.mem_cons_of_mem _ hx))
    obtain ⟨c,rfl,_⟩:=h1 el (by simp)
    have hst:=h3 (mkEl true c) (by simp)
    have hc:cells (mkEl true c)=c:=rfl
    rw [hc] at hst
    obtain ⟨hl,hf⟩:=hst.st_inv Tryz.underlying75
    rw [c52] at hl
    obtain ⟨x0,x1,x2,x3,x4,x5,rfl⟩:=len6 hl
    have f0:=hf _ (by exact List.mem_cons_self)
    have f1:=hf _ (by exact List.mem_cons_of_mem _ List.mem_cons_self)
    have f2:=hf _ (by exact List.mem_cons_of_mem _ (List.mem_cons_of_mem _ List.mem_cons_self))
    have f3:=hf _ (by exact List.mem_cons_of_mem _ (List.mem_cons_of_mem _ (List.mem_cons_of_mem _ List.mem_cons_self)))
    have f4:=hf _ (by exact List.mem_cons_of_mem _ (List.mem_cons_of_mem _ (List.mem_cons_of_mem _ (List.mem_cons_of_mem _ List.mem_cons_self))))
    have f5:=hf _ (by exact List.mem_cons_of_mem _ (List.mem_cons_of_mem _ (List.mem_cons_of_mem _ (List.mem_cons_of_mem _ (List.mem_cons_of_mem _ List.mem_cons_self)))))
    simp only [c9,c31,c3,c50,List.drop_zero,List.drop_succ_cons,List.take_succ_cons,List.take_zero] at f0 f1 f2 f3 f4 f5
    obtain ⟨k,rfl,hk⟩:=f0.int_inv Tryz.underlying3
    obtain ⟨t,rfl⟩:=f1.str_inv Tryz.underlying9
    obtain ⟨n,rfl⟩:=f2.str_inv Tryz.underlying9
    obtain ⟨s,rfl⟩:=f3.str_inv Tryz.underlying9
    have hb:bulkV (mkEl true [.i .i64 k,.s t,.s n,.s s,x4,x5])=1+(t.length+1)+(n.length+1)+(s.length+1)+bulkV x4+bulkV x5:=by simp [mkEl,bulkV,bulkVs];omega
    rw [hb] at hN⊢
    obtain ⟨cs,rfl,hcw⟩:=hcs x4 (by omega) f4
    obtain ⟨qs,rfl,hqw⟩:=ih x5 (by omega) f5
    refine ⟨⟨k,t,n,s,cs,qs⟩::ps,by rw [hps];simp [encPs,Part.enc,mkEl],?_⟩
    rw [wtPs_cons,Part.wt_eq]
    simp only
    omega
  obtain ⟨ps,rfl,hw'⟩:=this
  exact ⟨ps,rfl,by omega⟩
end Go.Ir
end
section
namespace Go.Ir
open Go.Proofs
section
variable {P : Program}
end
end Go.Ir
end
namespace Go.Ir
open Go.Proofs
variable (W0 : World)
theorem eqPs_self:∀(N:Nat),(∀ps,wtPs ps<N->eqPs ps ps=true)/\(∀cs,wtCs cs<N->eqCs cs cs=true):=by
 intro N
 induction N with
 | zero=>exact ⟨fun _ h=>by omega,fun _ h=>by omega⟩
 | succ N ih=>
  have h1:∀ps,wtPs ps<N+1->eqPs ps ps=true:=by
   intro ps
   induction ps with
   | nil=>intro _;simp [eqPs]
   | cons p ps ih2=>
    intro h;rw [wtPs_cons] at h
    have hp:=p.wt_eq
    rw [eqPs_cons,p.eqB_eq,ih2 (by omega),ih.1 p.parts (by omega),ih.2 p.cases (by omega)];simp
  refine ⟨h1,fun cs=>?_⟩
  induction cs with
  | nil=>intro _;simp [eqCs]
  | cons c cs ih2=>
   intro h;rw [wtCs_cons] at h
   rw [eqCs_cons,h1 c.2 (by omega),ih2 (by omega)];simp
def TRs:Nat:=100
def sS (lo:Option Id) (L:List Sel):Sto:=match lo with
 | none=>[]
 | some id=>[(id,.arr TRs 3 (L.map Sel.enc))]
theorem eqPs_refl (ps:List Part):eqPs ps ps=true:=(eqPs_self _).1 ps (Nat.lt_succ_self _)
end Go.Ir
section
namespace Go.Ir
open Go.Proofs
variable (W0 : World)
theorem retN_nil {P:Program} {W0:World} {f:FuncId} {args:List V} {x:Ent} {e sz:Nat} (h:∀id,RetN P W0 f (.arr id::args) [(id,.arr e sz [])] x []):RetN P W0 f (.nil::args) [] x [] where
 callable:=(h (0,0)).callable
 dom:=fun id h=>by simp [lk] at h
 run:=by
  intro n w μ H vals hp hv
  have hnone:μ (n,0)=none:=hp.bd _ (Nat.le_refl _)
  have hmono:=setμ_mono (v:=.slice none 0 0) hnone
  have hnew:=(hp.more (Nat.le_succ n)).new_ (n':=n+1) (w':=w) (R:=fun _=>False) ⟨rfl,rfl,rfl,Nat.le_refl _,fun _ _ _=>rfl⟩ (fun _ h=>h.elim) (σ1:=[]) (fun id e h=>⟨h,fun _ _ h=>h⟩) (id:=(n,0)) (e:=.arr e sz []) (val:=.slice none 0 0) hnone (Nat.lt_succ_self _) (Nat.le_refl _) (fun bk hb=>by simp [blk] at hb)
   ⟨.slice none 0 0,[],setμ_self _ _ _,rfl,World.ownsRow_nil w _ e sz,Nat.zero_le _,(fun x hx=>by cases hx),CRel.nil_⟩
  obtain ⟨v0,vs,rfl⟩:∃v0 vs,vals=v0::vs:=by
   cases vals with
   | nil=>have:=hv.len;simp at this
   | cons a b=>exact ⟨a,b,rfl⟩
  have h0:=hv.at_ 0 _ _ rfl rfl
  have hv':VRels (setμ μ (n,0) (.slice none 0 0)) H (.arr (n,0)::args) (v0::vs):=by
   refine VRels.cons ?_ ⟨by have:=hv.len;simpa using this,fun k c v h1 h2=>(hv.at_ (k+1) c v (by simpa using h1) (by simpa using h2)).mono hmono (fun _ _ h=>h)⟩
   rw [h0.nil_inv]
   exact .arr _ _ (setμ_self _ _ _) rfl
  refine Calls.mono ((h (n,0)).run (n+1) w _ H _ hnew.1 hv') ?_
  rintro e' w' ⟨val,μ',H',n',id,h1,h2,h3,h4,h5,h6,h7,h8,h9⟩
  refine ⟨val,μ',H',n',id,h1,h2,h3,?_,h5,h6,by omega,hnew.2.trans h8,fun i hi h0=>h9 i (by omega) ?_⟩
  ·cases hm:μ id with
   | none=>rfl
   | some y=>have:=hmono id y hm;rw [h4] at this;cases this
  ·rw [setμ_ne _ _ (by rintro rfl;simp at hi)];exact h0
theorem c_solid (p:Part) (hw:p.wt<=2^24):RetS Tryz.prog W0 50 [p.v] [] (.b p.solid) []:=by
 have hp:=p.wt_eq
 have hlc:=len_wtCs p.cases
 have case1:∀(c:Case),wtPs c.2<=2^24->RetS Tryz.prog W0 95 [Case.v c] [] (.b (!plainPs c.2)) []:=by
  intro c h2
  have:=c_plain W0 _ c.2 (Nat.lt_succ_self _) h2
  unfold Case.v
  refine fn_retW (vs:=[.b (!plainPs c.2)]) f95ok (by simp) (by simp) fun n0 hn0=>?_
  clear hn0
  simp only [push_cast,seval,reduceEqDiff]
  repeat' (first|(((first|apply condU_s|apply gdU_t|apply gdU_f)<;>intro _h)<;>simp only [push_cast,seval,reduceEqDiff,_h])|(refine c_call (by exact this) ?_;simp only [push_cast,seval,reduceEqDiff])|intro _)
  all_goals (first|(refine finW_ret ?_;simp [get]<;>(intros;omega);done)|(refine finW_rets ?_;simp [push_cast,get];done)|skip)
 have hany:RetS Tryz.prog W0 94 [.sl (p.cases.map Case.enc),.fn 95 [] []] [] (.b (p.cases.any fun c=>!plainPs c.2)) []:=
  anyCase W0 (by omega) (fun c hc=>by have:=wtCs_mem hc;exact case1 c (by omega))
 have hpl:=c_plain W0 _ p.parts (Nat.lt_succ_self _) (by omega)
 rw [Part.solid_eq,<-plainCs_any]
 generalize hS:(!selB p.kind&&plainPs p.parts&&!p.cases.any fun c=>!plainPs c.2)=S
 unfold Part.v
 refine fn_retW (vs:=[.b S]) f50ok (by simp) (by simp) fun n0 hn0=>?_
 clear hn0
 simp only [push_cast,seval,reduceEqDiff]
 repeat' (first|(((first|apply condU_s|apply gdU_t|apply gdU_f)<;>intro _h)<;>(simp only [push_cast,seval,reduceEqDiff,_h];try (have _g:=_h;simp at _g)))|((first|refine c_call (by exact c_sSel W0 _) ?_|refine c_call (by exact hpl) ?_);simp only [push_cast,seval,reduceEqDiff])|intro _)
 all_goals (try (refine c_callsq hany ?_;simp only [push_cast,seval,reduceEqDiff]))
 repeat' (first|(((first|apply condU_s|apply gdU_t|apply gdU_f)<;>intro _h)<;>(simp only [push_cast,seval,reduceEqDiff,_h];try (have _g:=_h;simp at _g)))|intro _)
 all_goals (first|(refine finW_ret ?_;simp [get,<-hS, *]<;>(intros;omega);done)|(refine finW_rets ?_;simp [push_cast,get,<-hS, *];done)|skip)
abbrev Leaf:=Bytes × List Part
def leafV (l:Leaf):V:=.agg [.s l.1,.sl (l.2.map Part.enc)]
theorem leafV_eq (l:Leaf):leafV l = .agg [.s l.1,.sl (l.2.map Part.enc)]:=rfl
def decN (n:Nat):Bytes:=Lib.decDigits n
mutual
def Part.lvs:Part->Bytes->List Leaf
 | ⟨k,_,_,_,cs,ps⟩,pa=>if selB k then lvsCs cs pa else lvsPs ps pa 0 []
def lvsPs:List Part->Bytes->Nat->List Part->List Leaf
 | [],pa,n,run=>[(pa++decN n,run)]
 | p::ps,pa,n,run=>if p.solid then lvsPs ps pa n (run++[p]) else (pa++decN n,run)::(p.lvs (pa++decN (n+1)++[47])++lvsPs ps pa (n+1) [])
def lvsCs:List (Bytes × List Part)->Bytes->List Leaf
 | [],_=>[]
 | (key,ps)::cs,pa=>lvsPs ps (pa++key++[47]) 0 []++lvsCs cs pa
end
theorem Part.lvs_eq (p:Part) (pa:Bytes):p.lvs pa=if selB p.kind then lvsCs p.cases pa else lvsPs p.parts pa 0 []:=by cases p;simp only [Part.lvs]
theorem lvsPs_nil (pa:Bytes) (n:Nat) (run:List Part):lvsPs [] pa n run=[(pa++decN n,run)]:=by simp only [lvsPs]
theorem lvsPs_cons (p:Part) (ps:List Part) (pa:Bytes) (n:Nat) (run:List Part):lvsPs (p::ps) pa n run=if p.solid then lvsPs ps pa n (run++[p]) else (pa++decN n,run)::(p.lvs (pa++decN (n+1)++[47])++lvsPs ps pa (n+1) []):=by simp only [lvsPs]
theorem lvsCs_cons (c:Case) (cs:List Case) (pa:Bytes):lvsCs (c::cs) pa=lvsPs c.2 (pa++c.1++[47]) 0 []++lvsCs cs pa:=by obtain ⟨k,q⟩:=c;simp only [lvsCs]
theorem lvs_len:∀(N:Nat) (ps:List Part),wtPs ps<N->∀pa n run,(lvsPs ps pa n run).length<=1+2*wtPs ps:=by
 intro N
 induction N with
 | zero=>intro ps h;omega
 | succ N ih=>
  have hcs:∀cs:List Case,wtCs cs<N->∀pa,(lvsCs cs pa).length<=2*wtCs cs:=by
   intro cs
   induction cs with
   | nil=>intro _ pa;simp [lvsCs]
   | cons c cs ih2=>
    intro h pa;rw [wtCs_cons] at h;rw [lvsCs_cons,wtCs_cons,List.length_append]
    have h1:=ih c.2 (by omega) (pa++c.1++[47]) 0 [];have h2:=ih2 (by omega) pa;omega
  intro ps
  induction ps with
  | nil=>intro _ pa n run;simp [lvsPs]
  | cons p ps ih2=>
   intro h pa n run;rw [wtPs_cons] at h;rw [lvsPs_cons,wtPs_cons]
   have hw:=p.wt_eq
   split
   ·have:=ih2 (by omega) pa n (run++[p]);omega
   ·have h3:=ih2 (by omega) pa (n+1) []
    have h4:(p.lvs (pa++decN (n+1)++[47])).length+1<=2*p.wt:=by
     rw [p.lvs_eq]
     split
     ·have:=hcs p.cases (by omega) (pa++decN (n+1)++[47]);omega
     ·have:=ih p.parts (by omega) (pa++decN (n+1)++[47]) 0 [];omega
    rw [List.length_cons,List.length_append];omega
theorem lvsPs_len (ps:List Part) (pa:Bytes) (n:Nat) (run:List Part):(lvsPs ps pa n run).length<=1+2*wtPs ps:=lvs_len _ ps (Nat.lt_succ_self _) pa n run
def TL:Nat:=68
def LvR (bid lid:Id) (o:List Leaf) (n n':Nat) (v:V) (σ':Sto):Prop:=v = .tup []/\∃id:Id,(id=lid\/n<=id.1)/\id.1<n'/\σ'=[(id,.arr TL 2 (o.map leafV)),(bid,.box (.arr id))]
theorem c_leavesFn (q:List Part) (pa:Bytes) (o:List Leaf) (bid lid:Id) (hne:lid≠bid)
  (h:RetN Tryz.prog W0 69 [.arr lid,.sl (q.map Part.enc),.s pa] [(lid,.arr TL 2 (o.map leafV))] (.arr TL 2 ((o++lvsPs q pa 0 []).map leafV)) []) :
  RetE Tryz.prog W0 117 [.sl (q.map Part.enc),.s pa,.ref bid 0] [(lid,.arr TL 2 (o.map leafV)),(bid,.box (.arr lid))] (LvR bid lid (o++lvsPs q pa 0 [])):=by
 refine fn_retEW f117ok (by simp) fun n0 hn0=>?_
 have hb:bid.1<n0:=hn0 bid (.box (.arr lid)) (by simp [lk,hne])
 clear hn0
 have h1:(lid=bid)=False:=eq_false hne
 have h3:∀j:Nat,((n0,j)=bid)=False:=fun j=>ne_idx hb
 have h4:∀a b:Id,(isA (V.arr a)=isA (V.arr b))=True:=fun _ _=>eq_true rfl
 have hov:over [(lid,Ent.arr TL 2 (o.map leafV))] [] [(lid,.arr TL 2 (o.map leafV)),(bid,.box (.arr lid))]=[(bid,.box (.arr lid))]:=by
  simp [over,lk,h1,List.filter]
 simp only [push_cast,seval,reduceEqDiff,h1,h3,h4]
 refine c_calln h (fun i e h=>lk_app_left (τ:=[_]) h) ?_
 rw [hov]
 simp only [push_cast,seval,reduceEqDiff,h1,h3,h4]
 intros
 exact ⟨_,StLe.refl,[],_,trivial,fun _ _ h=>h,rfl,_,.inr (Nat.le_refl _),by simp only;omega,rfl⟩
theorem over_x2 {x a b:Id} {X A B:Ent} {σo:Sto} (h1:x≠a) (h2:x≠b):over [(a,A),(b,B)] σo [(x,X),(a,A),(b,B)]=σo++[(x,X)]:=by
 by_cases hab:a=b
 ·subst hab;simp [over,lk,List.filter,h1,Ne.symm h1]
 ·simp [over,lk,List.filter,h1,h2,Ne.symm h1,Ne.symm h2,hab]
theorem lk_x2 {x a b:Id} {A B:Ent} (h1:x≠a) (h2:x≠b):lk [(a,A),(b,B)] x=none:=by
 simp [lk,Ne.symm h1,Ne.symm h2]
set_option maxHeartbeats 4000000 in
theorem c_lists (p:Part) (pa:Bytes) (bid:Id) (hw:p.wt<=2^24) (hpa:pa.length+32*p.wt<=2^32+32) (M:Nat)
  (hcl:∀(q:List Part) (pa':Bytes) (o:List Leaf) (lid:Id),wtPs q<p.wt->pa'.length+32*wtPs q<=2^32->lid≠bid->o.length+2*wtPs q+1<=M->
   RetE Tryz.prog W0 117 [.sl (q.map Part.enc),.s pa',.ref bid 0] [(lid,.arr TL 2 (o.map leafV)),(bid,.box (.arr lid))] (LvR bid lid (o++lvsPs q pa' 0 [])))
  (o:List Leaf) (lid:Id) (hne:lid≠bid) (ho:o.length+2*p.wt<=M) :
  RetE Tryz.prog W0 116 [p.v,.s pa,.fn 117 [] [.ref bid 0]] [(lid,.arr TL 2 (o.map leafV)),(bid,.box (.arr lid))] (LvR bid lid (o++p.lvs pa)):=by
 have hpw:=p.wt_eq
 have hlc:=len_wtCs p.cases
 have hsel:=c_sSel W0 p.kind
 generalize hS:o++p.lvs pa=S
 rw [p.lvs_eq] at hS
 unfold Part.v
 refine fn_retEW f116ok (by simp) fun n0 hn0=>?_
 have hb:bid.1<n0:=hn0 bid (.box (.arr lid)) (by simp [lk,hne])
 have hl:lid.1<n0:=hn0 lid (.arr TL 2 (o.map leafV)) (by simp [lk])
 clear hn0
 have h1:(lid=bid)=False:=eq_false hne
 have h2:∀j:Nat,((n0,j)=bid)=False:=fun j=>ne_idx hb
 have h3:∀j:Nat,((n0,j)=lid)=False:=fun j=>ne_idx hl
 cases hs:selB p.kind with
 | false=>
  rw [hs] at hsel hS
  simp only [bq,if_true,if_false,Int.reduceBEq,reduceCtorEq] at hS
  subst hS
  simp only [push_cast,seval,reduceEqDiff,h1,h2,h3]
  repeat' (first|(((first|apply condU_s|apply gdU_t|apply gdU_f)<;>intro _h)<;>simp only [push_cast,seval,reduceEqDiff,_h,h1,h2,h3])|(refine c_call (by exact hsel) ?_;simp only [push_cast,seval,reduceEqDiff,h1,h2,h3])|intro _)
  refine c_callx (hcl p.parts pa o lid (by omega) (by omega) hne (by omega)) (lk_drop1 (lk_x2 (fun he=>of_eq_false (h3 _) he) (fun he=>of_eq_false (h2 _) he))) (fun n2 v σo hle hR=>?_)
  obtain ⟨rfl,id,hi1,hi2,rfl⟩:=hR
  rw [over_x2 (fun he=>of_eq_false (h3 _) he) (fun he=>of_eq_false (h2 _) he)]
  simp only [push_cast,seval,reduceEqDiff,h1,h2,h3]
  intros
  exact ⟨_,StLe.refl,[],_,trivial,fun i e h=>lk_app_left (τ:=[_]) h,rfl,id,by rcases hi1 with h|h;exact .inl h;exact .inr (by omega),by simp only;omega,rfl⟩
 | true=>
  rw [hs] at hsel hS
  simp only [bq,if_true,if_false,Int.reduceBEq,reduceCtorEq] at hS
  simp only [push_cast,seval,reduceEqDiff,h1,h2,h3,List.length_map]
  repeat' (first|(((first|apply condU_s|apply gdU_t|apply gdU_f)<;>intro _h)<;>simp only [push_cast,seval,reduceEqDiff,_h,h1,h2,h3,List.length_map])|(refine c_call (by exact hsel) ?_;simp only [push_cast,seval,reduceEqDiff,h1,h2,h3,List.length_map])|intro _)
  refine aWP_loopW p.cases.length (Inv:=fun m st=>∃cd cr n lid' o',p.cases=cd++cr/\m=cr.length/\o'++lvsCs cr pa=S/\o'.length+2*wtCs cr<=M/\(lid'=lid\/n0<=lid'.1)/\lid'.1<n/\n0<=n/\st=⟨[(1,.s pa),(2,.fn 117 [] [.ref bid 0]),(18,.sl (p.cases.map Case.enc)),(19,.i .i64 p.cases.length),(20,.i .i64 cd.length)],[(lid',.arr TL 2 (o'.map leafV)),(bid,.box (.arr lid'))],n⟩) ⟨_,StLe.drop (lk_drop1 (lk_x2 (fun he=>of_eq_false (h3 _) he) (fun he=>of_eq_false (h2 _) he))) (Nat.le_refl _),[],p.cases,_,lid,o,rfl,rfl,hS,by omega,.inl rfl,by (try simp only);omega,by (try simp only);omega,rfl⟩ ?_
  clear hS
  rintro m _ ⟨cd,cr,n,lid',o',hcz,rfl,hd,hM,hl1,hl2,hn,rfl⟩
  have hne':lid'≠bid:=by
   rcases hl1 with rfl|h
   ·exact hne
   ·rintro rfl;omega
  cases cr with
  | nil=>
   have hlt0:decide ((cd.length:Int)<(p.cases.length:Int))=false:=by rw [hcz];simp
   simp only [lvsCs,List.append_nil] at hd
   subst hd
   simp only [push_cast,seval,reduceEqDiff,hlt0]
   intros
   exact ⟨_,StLe.refl,[],_,trivial,fun _ _ h=>h,rfl,lid',hl1,by simp only;omega,rfl⟩
  | cons c cr=>
   have hlt0:decide ((cd.length:Int)<(p.cases.length:Int))=true:=by rw [hcz];simp;omega
   have hcb:=zip_bd hcz
   have hcw:=wtCs_mem (cs:=p.cases) (c:=c) (by rw [hcz];simp)
   have hget:(p.cases.map Case.enc)[cd.length]? = some (.agg [.s c.1,.sl (c.2.map Part.enc)]):=by
    rw [hcz,List.getElem?_map,List.getElem?_append_right (by simp)];simp [Case.enc_eq]
   rw [lvsCs_cons] at hd
   rw [wtCs_cons] at hM
   have hlv:=lvsPs_len c.2 (pa++c.1++[47]) 0 []
   have g1:(lid'=bid)=False:=eq_false hne'
   have g2:∀k j:Nat,((n+1+k,j)=bid)=False:=fun k j=>ne_idx (by omega)
   have g3:∀k j:Nat,((n+1+k,j)=lid')=False:=fun k j=>ne_idx (by omega)
   simp only [push_cast,seval,reduceEqDiff,hlt0,hget,if_pos hcb,wrap_zip c (done:=cd) (by omega),List.length_map,g1,g2,g3]
   repeat' (first|(((first|apply condU_s|apply gdU_t|apply gdU_f)<;>intro _h)<;>simp only [push_cast,seval,reduceEqDiff,_h,hlt0,hget,if_pos hcb,wrap_zip c (done:=cd) (by omega),List.length_map,g1,g2,g3])|(refine jp_i (by simp only [List.length_append,List.length_cons,List.length_nil,SLim]<;>omega) ?_;simp only [push_cast,seval,reduceEqDiff,hlt0,hget,if_pos hcb,wrap_zip c (done:=cd) (by omega),List.length_map,g1,g2,g3])|intro _)
   refine c_callx (hcl c.2 (pa++c.1++[47]) o' lid' (by omega) (by simp only [List.length_append,List.length_cons,List.length_nil];omega) hne' (by omega)) (lk_drop1 (lk_x2 (fun he=>of_eq_false (g3 _ _) he) (fun he=>of_eq_false (g2 _ _) he))) (fun n2 v σo hle hR=>?_)
   obtain ⟨rfl,id,hi1,hi2,rfl⟩:=hR
   rw [over_x2 (fun he=>of_eq_false (g3 _ _) he) (fun he=>of_eq_false (g2 _ _) he)]
   rw [<-List.append_assoc] at hd
   simp only [push_cast,seval,reduceEqDiff,hlt0,hget,if_pos hcb,wrap_zip c (done:=cd) (by omega),List.length_map,g1,g2,g3]
   intros
   refine ⟨_,_,Nat.lt_succ_self _,StLe.drop (fun i e h=>lk_app_left (τ:=[_]) h) (Nat.le_refl _),cd++[c],cr,_,id,_,by rw [hcz];simp,rfl,hd,?_,?_,?_,?_,rfl⟩
   ·rw [List.length_append];omega
   ·rcases hi1 with rfl|h
    ·exact hl1
    ·exact .inr (by omega)
   ·rcases hi1 with rfl|h<;>omega
   ·omega
end Go.Ir
end
namespace Go.Ir
open Go.Proofs
variable (W0 : World)
theorem lvsCs_len (cs:List Case) (pa:Bytes):(lvsCs cs pa).length<=2*wtCs cs:=by
 induction cs with
 | nil=>simp [lvsCs]
 | cons c cs ih=>rw [lvsCs_cons,wtCs_cons,List.length_append];have:=lvsPs_len c.2 (pa++c.1++[47]) 0 [];omega
theorem lvs_part (p:Part) (pa:Bytes):(p.lvs pa).length+1<=2*p.wt:=by
 rw [p.lvs_eq,p.wt_eq]
 split
 ·have:=lvsCs_len p.cases pa;omega
 ·have:=lvsPs_len p.parts pa 0 [];omega
theorem frz_slot {W0:World} {nt n n' s e sz:Nat} {env:Env} {σ τ:Sto} {rid:Id} {es:List V} (hs:get env s = .arr rid) (hr:lk σ rid=some (.arr e sz es)) (hτ:∀i e',lk τ i=some e'->lk σ i=some e'/\i≠rid) (hok:∀y∈es,y.ok=true) (hn:n<=n') :
  StLe W0 nt ⟨env,σ,n⟩ ⟨(s,.sl es)::env,τ,n'⟩:=by
 refine StLe.weak (fun i=>if i=rid then some es else none) (fun i es' h=>?_) (fun t=>?_) (fun i e' h=>⟨e',(hτ i e' h).1,.refl _⟩) hn
 ·split at h
  ·rename_i hi;subst hi;cases h
   refine ⟨⟨e,sz,hr⟩,?_⟩
   cases hl:lk τ i with
   | none=>rfl
   | some x=>exact absurd rfl (hτ i x hl).2
  ·cases h
 ·by_cases ht:s=t
  ·subst ht
   rw [hs]
   simp only [get,if_true]
   refine .arr rid es es (by simp) rfl (fun k c c' h1 h2=>?_) (fun k c c' h1 h2=>?_)
   ·rw [h1] at h2;cases h2;exact .refl _
   ·rw [h1] at h2;cases h2
    have:=hok c (List.mem_of_getElem? h1)
    exact ⟨rfl,this,this⟩
  ·simp only [get,if_neg ht];exact .refl _
theorem over_m2 {x a b:Id} {X A B:Ent} {σo:Sto} (h1:x≠a) (h2:x≠b):over [(a,A),(b,B)] σo [(a,A),(x,X),(b,B)]=σo++[(x,X)]:=by
 by_cases hab:a=b
 ·subst hab;simp [over,lk,List.filter,h1,Ne.symm h1]
 ·simp [over,lk,List.filter,h1,h2,Ne.symm h1,Ne.symm h2,hab]
theorem lk_m2 {x a b:Id} {X A B:Ent} (h1:x≠a) (h2:x≠b):∀i e,lk [(a,A),(b,B)] i=some e->lk [(a,A),(x,X),(b,B)] i=some e:=by
 intro i e h
 simp only [lk] at h⊢
 split at h
 ·rename_i ha;rw [if_pos ha];exact h
 ·rename_i ha
  rw [if_neg ha]
  split at h
  ·rename_i hb;subst hb;rw [if_neg h2,if_pos rfl];exact h
  ·cases h
set_option maxHeartbeats 4000000 in
theorem c_leavesA (K:Nat) (hI:∀i:Nat,i<=K->RetS Tryz.prog W0 114 [.i .i64 i] [] (.s (decN i)) []/\(decN i).length<=20) :
  ∀(N:Nat) (ps:List Part) (pa:Bytes) (o:List Leaf) (lid:Id),wtPs ps<N->wtPs ps<=2^24->wtPs ps<=K->pa.length+32*wtPs ps<=2^32->o.length+2*wtPs ps+1<=2^30->
  RetN Tryz.prog W0 69 [.arr lid,.sl (ps.map Part.enc),.s pa] [(lid,.arr TL 2 (o.map leafV))] (.arr TL 2 ((o++lvsPs ps pa 0 []).map leafV)) []:=by
 intro N
 induction N with
 | zero=>intro ps pa o lid h;omega
 | succ N ih=>
 intro ps pa o0 lid0 hN hw0 hK0 hpa hM
 have hlen:=len_wtPs ps
 generalize hS:o0++lvsPs ps pa 0 []=S
 refine fn_newW (s:=6) f69ok (by simp) (by simp [lk]) fun n0 hn0=>?_
 have hl0:lid0.1<n0:=hn0 lid0 (.arr TL 2 (o0.map leafV)) (by simp [lk])
 clear hn0
 simp only [push_cast,seval,reduceEqDiff]
 intros
 rename_i a1 a2 a3 a4
 have hn1:n0<n0+1+a1+1+a2+1+a3+1+a4:=by omega
 generalize n0+1+a1+1+a2+1+a3+1+a4=n1 at *
 refine aWP_loopW ps.length (Inv:=fun m st=>∃done rest n lid rid o run k,ps=done++rest/\m=rest.length/\o++lvsPs rest pa k run=S/\o.length+2*wtPs rest+1<=2^30/\k<=done.length/\run.length<=done.length/\wtPs run+wtPs rest<=wtPs ps/\n0<n/\lid.1<n/\rid.1<n/\lid≠(n0,3)/\rid≠(n0,3)/\rid≠lid/\st=⟨[(2,.s pa),(3,.ref (n0,3) 0),(7,.arr rid),(8,.i .i64 k),(11,.sl (ps.map Part.enc)),(12,.i .i64 ps.length),(13,.i .i64 done.length)],[(rid,.arr TPt 6 (run.map Part.enc)),(lid,.arr TL 2 (o.map leafV)),((n0,3),.box (.arr lid))],n⟩) ⟨_,(StLe.own (s:=7) (e:=TPt) (sz:=6) (k:=99) rfl).trans ((StLe.envD (fun t=>?_) (Nat.le_refl _)).trans (StLe.sub (σ':=[((n1,99),.arr TPt 6 []),(lid0,.arr TL 2 (o0.map leafV)),((n0,3),.box (.arr lid0))]) ?_ ?_ (Nat.le_refl _))),[],ps,_,lid0,(n1,99),o0,[],0,rfl,rfl,hS,hM,by simp,by simp,by simp [wtPs_nil],?_,?_,?_,?_,?_,?_,rfl⟩ ?_
 ·left
  by_cases h3:7=t
  ·subst h3;rfl
  ·simp [get,h3]
 ·have e1:((n1,99):Id)≠lid0:=fun he=>by rw [<-he] at hl0;simp at hl0;omega
  have e2:lid0≠((n0,3):Id):=fun he=>by rw [he] at hl0;simp at hl0
  have e3:((n1,99):Id)≠(n0,3):=fun he=>by injection he with h1 h2;omega
  simp [e1,e2,Ne.symm e1,Ne.symm e2]
 ·intro p hp
  simp at hp⊢
  rcases hp with h|h|h<;>simp [h]
 ·(try simp only);omega
 ·(try simp only);omega
 ·(try simp only);omega
 ·intro he;rw [he] at hl0;simp at hl0
 ·intro he;injection he with h1 h2;omega
 ·intro he;rw [<-he] at hl0;simp at hl0;omega
 clear hS
 rintro m _ ⟨done,rest,n,lid,rid,o,run,k,hz,rfl,hd,hM,hk,hrl,hrw,hn,hl,hr,hlb,hrb,hrl2,rfl⟩
 have d1:∀i j:Nat,((n+1+i,j)=lid)=False:=fun i j=>ne_idx (by omega)
 have d1':∀i j:Nat,(lid=(n+1+i,j))=False:=fun i j=>eq_false fun he=>of_eq_false (d1 i j) he.symm
 have d2:∀i j:Nat,((n+1+i,j)=rid)=False:=fun i j=>ne_idx (by omega)
 have d2':∀i j:Nat,(rid=(n+1+i,j))=False:=fun i j=>eq_false fun he=>of_eq_false (d2 i j) he.symm
 have d3:∀i j q:Nat,((n+1+i,j)=(n0,q))=False:=fun i j q=>eq_false fun he=>by injection he with h1 h2;omega
 have d3':∀i j q:Nat,((n0,q)=(n+1+i,j))=False:=fun i j q=>eq_false fun he=>of_eq_false (d3 i j q) he.symm
 have c1:(lid=(n0,3))=False:=eq_false hlb
 have c1':((n0,3)=lid)=False:=eq_false (Ne.symm hlb)
 have c2:(rid=(n0,3))=False:=eq_false hrb
 have c2':((n0,3)=rid)=False:=eq_false (Ne.symm hrb)
 have c3:(rid=lid)=False:=eq_false hrl2
 have c3':(lid=rid)=False:=eq_false (Ne.symm hrl2)
 have hia:∀a b:Id,(isA (V.arr a)=isA (V.arr b))=True:=fun _ _=>eq_true rfl
 cases rest with
 | nil=>
  have hlt0:decide ((done.length:Int)<(ps.length:Int))=false:=by rw [hz];simp
  have hpl:ps.length=done.length:=by rw [hz];simp
  rw [lvsPs_nil] at hd
  subst hd
  obtain ⟨hIk,hIl⟩:=hI k (by omega)
  have hcl:=c_cloned W0 _ run (Nat.lt_succ_self _) (by omega)
  generalize hdk:decN k=DK at *
  have hap:List.map leafV o++[.agg [.s (pa++DK),.sl (run.map Part.enc)]]=(o++[(pa++DK,run)]).map leafV:=by simp [leafV]
  have hll:o.length+1<=LLim:=by unfold LLim;omega
  simp only [push_cast,seval,reduceEqDiff,hlt0]
  intro k1
  refine wkW_i (frz_slot (s:=7) (rid:=rid) (e:=TPt) (sz:=6) (es:=run.map Part.enc) (τ:=[(lid,.arr TL 2 (o.map leafV)),((n0,3),.box (.arr lid))]) rfl (by simp [lk]) (fun i e' h=>?_) (okPt _) (Nat.le_refl _)) ?_
  ·refine ⟨lk_drop1 (by simp [lk,c3',c2']) i e' h,?_⟩
   rintro rfl
   simp [lk,c3',c2'] at h
  simp only [push_cast,seval,reduceEqDiff,c1,c1',c2,c2',c3,c3',d1,d1',hia,TL,hap,eq_true hll,List.length_map]
  repeat' (first|(((first|apply condU_s|apply gdU_t|apply gdU_f)<;>intro _h)<;>simp only [push_cast,seval,reduceEqDiff,_h,c1,c1',c2,c2',c3,c3',d1,d1',hia,TL,hap,eq_true hll,List.length_map])|((first|refine c_call (by exact hIk) ?_|refine c_call (by exact hcl) ?_|refine jp_i (by simp only [List.length_append,List.length_cons,List.length_nil,SLim]<;>omega) ?_);simp only [push_cast,seval,reduceEqDiff,c1,c1',c2,c2',c3,c3',d1,d1',hia,TL,hap,eq_true hll,List.length_map])|intro _)
  exact finNW_i rfl (by simp [lk])
 | cons p rest=>
  have hbd:=zip_bd hz
  have hwp:=wtPs_mem (ps:=ps) (p:=p) (by rw [hz];simp)
  have hpl:ps.length=done.length+(rest.length+1):=by rw [hz];simp
  have hlt0:decide ((done.length:Int)<(ps.length:Int))=true:=by simp;omega
  have hget:(ps.map Part.enc)[done.length]? = some p.enc:=by rw [hz,List.getElem?_map,List.getElem?_append_right (by simp)];simp
  rw [lvsPs_cons] at hd
  rw [wtPs_cons] at hM hrw
  have hso:=c_solid W0 p (by omega)
  unfold Part.v at hso
  cases hsl:p.solid with
  | true=>
   rw [hsl] at hso hd
   simp only [bq,if_true,if_false,Int.reduceBEq,reduceCtorEq] at hd
   have hll:run.length+1<=LLim:=by unfold LLim;omega
   have hap:List.map Part.enc run++[.agg [.i .i64 p.kind,.s p.text,.s p.name,.s p.style,.sl (p.cases.map Case.enc),.sl (p.parts.map Part.enc)]]=(run++[p]).map Part.enc:=by simp [Part.enc_eq]
   simp only [push_cast,seval,reduceEqDiff,hlt0,hget,if_pos hbd,wrap_zip p (done:=done) (by omega),List.length_map,c1,c1',c2,c2',c3,c3',d1,d1',d2,d2',d3,d3',TPt,hap,eq_true hll]
   repeat' (first|(((first|apply condU_s|apply gdU_t|apply gdU_f)<;>intro _h)<;>simp only [push_cast,seval,reduceEqDiff,_h,hlt0,hget,if_pos hbd,wrap_zip p (done:=done) (by omega),List.length_map,c1,c1',c2,c2',c3,c3',d1,d1',d2,d2',d3,d3',TPt,hap,eq_true hll])|(refine c_call (by exact hso) ?_;simp only [push_cast,seval,reduceEqDiff,hlt0,hget,if_pos hbd,wrap_zip p (done:=done) (by omega),List.length_map,c1,c1',c2,c2',c3,c3',d1,d1',d2,d2',d3,d3',TPt,hap,eq_true hll])|intro _)
   rename_i b1 b2 b3 b4 b5
   refine ⟨_,_,Nat.lt_succ_self _,StLe.dropM (by simp [lk,d1',d3']) (Nat.le_refl _),done++[p],rest,_,lid,_,o,run++[p],k,by rw [hz];simp,rfl,hd,by omega,by simp;omega,by simp;omega,?_,?_,?_,?_,hlb,?_,?_,rfl⟩
   ·rw [wtPs_app,wtPs_cons,wtPs_nil];omega
   ·omega
   ·omega
   ·simp only;omega
   ·intro he;injection he with h1 h2;omega
   ·intro he;rw [<-he] at hl;simp at hl;omega
  | false=>
   rw [hsl] at hso hd
   simp only [bq,if_true,if_false,Int.reduceBEq,reduceCtorEq] at hd
   simp only [push_cast,seval,reduceEqDiff,hlt0,hget,if_pos hbd,wrap_zip p (done:=done) (by omega),List.length_map,c1,c1',c2,c2',c3,c3',d1,d1',d2,d2',d3,d3']
   repeat' (first|(((first|apply condU_s|apply gdU_t|apply gdU_f)<;>intro _h)<;>simp only [push_cast,seval,reduceEqDiff,_h,hlt0,hget,if_pos hbd,wrap_zip p (done:=done) (by omega),List.length_map,c1,c1',c2,c2',c3,c3',d1,d1',d2,d2',d3,d3'])|(refine c_call (by exact hso) ?_;simp only [push_cast,seval,reduceEqDiff,hlt0,hget,if_pos hbd,wrap_zip p (done:=done) (by omega),List.length_map,c1,c1',c2,c2',c3,c3',d1,d1',d2,d2',d3,d3'])|intro _)
   rename_i b1 b2 b3
   have hx:n<n+1+b1/\n+1+b1<n+1+b1+1+b2+1+b3:=by omega
   generalize n+1+b1+1+b2+1+b3=n2 at *
   have g1:∀j:Nat,((n+1+b1,j)=lid)=False:=fun j=>d1 b1 j
   have g1':∀j:Nat,(lid=(n+1+b1,j))=False:=fun j=>d1' b1 j
   have g2:∀j:Nat,((n+1+b1,j)=rid)=False:=fun j=>d2 b1 j
   have g3:∀j q:Nat,((n+1+b1,j)=(n0,q))=False:=fun j q=>d3 b1 j q
   have g3':∀j q:Nat,((n0,q)=(n+1+b1,j))=False:=fun j q=>d3' b1 j q
   generalize n+1+b1=x0 at *
   obtain ⟨hx1,hx2⟩:=hx
   have e1:∀i j:Nat,((n2+1+i,j)=lid)=False:=fun i j=>ne_idx (by omega)
   have e1':∀i j:Nat,(lid=(n2+1+i,j))=False:=fun i j=>eq_false fun he=>of_eq_false (e1 i j) he.symm
   have e3:∀i j q:Nat,((n2+1+i,j)=(n0,q))=False:=fun i j q=>eq_false fun he=>by injection he with h1 h2;omega
   have e3':∀i j q:Nat,((n0,q)=(n2+1+i,j))=False:=fun i j q=>eq_false fun he=>of_eq_false (e3 i j q) he.symm
   have e4:∀i j q:Nat,((n2+1+i,j)=(x0,q))=False:=fun i j q=>eq_false fun he=>by injection he with h1 h2;omega
   have e4':∀i j q:Nat,((x0,q)=(n2+1+i,j))=False:=fun i j q=>eq_false fun he=>of_eq_false (e4 i j q) he.symm
   have f1:∀j:Nat,((n2,j)=lid)=False:=fun j=>ne_idx (by omega)
   have f3:∀j q:Nat,((n2,j)=(n0,q))=False:=fun j q=>eq_false fun he=>by injection he with h1 h2;omega
   have f3':∀j q:Nat,((n0,q)=(n2,j))=False:=fun j q=>eq_false fun he=>of_eq_false (f3 j q) he.symm
   have f4:∀j q:Nat,((n2,j)=(x0,q))=False:=fun j q=>eq_false fun he=>by injection he with h1 h2;omega
   have f4':∀j q:Nat,((x0,q)=(n2,j))=False:=fun j q=>eq_false fun he=>of_eq_false (f4 j q) he.symm
   obtain ⟨hIk,hIl⟩:=hI k (by omega)
   obtain ⟨hIk2',hIl2⟩:=hI (k+1) (by omega)
   have hIk2:RetS Tryz.prog W0 114 [.i .i64 ((k:Int)+1)] [] (.s (decN (k+1))) []:=hIk2'
   have hcl:=c_cloned W0 _ run (Nat.lt_succ_self _) (by omega)
   generalize decN k=DK at *
   generalize decN (k+1)=DL at *
   have hap:List.map leafV o++[.agg [.s (pa++DK),.sl (run.map Part.enc)]]=(o++[(pa++DK,run)]).map leafV:=by simp [leafV]
   have hll:o.length+1<=LLim:=by unfold LLim;omega
   have hwk:IntKind.i64.wrap ((k:Int)+1)=((k+1:Nat):Int):=by rw [wrap64 (by omega) (by omega)];simp
   refine wkW_i (frz_slot (s:=7) (rid:=rid) (e:=TPt) (sz:=6) (es:=run.map Part.enc) (τ:=[((x0,10),.box (.agg [.i .i64 p.kind,.s p.text,.s p.name,.s p.style,.sl (p.cases.map Case.enc),.sl (p.parts.map Part.enc)])),(lid,.arr TL 2 (o.map leafV)),((n0,3),.box (.arr lid))]) rfl (by simp [lk,g2]) (fun i e' h=>?_) (okPt _) (Nat.le_refl _)) ?_
   ·have hne:i≠rid:=by
     rintro rfl
     simp [lk,g2,c3',c2'] at h
    refine ⟨?_,hne⟩
    simp only [lk] at h⊢
    by_cases hx:(x0,10)=i
    ·rw [if_pos hx] at h⊢;exact h
    ·rw [if_neg hx] at h⊢;rw [if_neg (Ne.symm hne)];exact h
   simp only [push_cast,seval,reduceEqDiff,c1,c1',c2,c2',c3,c3',g1,g1',g3,g3',e1,e1',e3,e3',e4,e4',f1,f3,f3',f4,f4',hia,TL,hap,eq_true hll,List.length_map,hwk,wrap_zip p (done:=done) (by omega)]
   repeat' (first|(((first|apply condU_s|apply gdU_t|apply gdU_f)<;>intro _h)<;>simp only [push_cast,seval,reduceEqDiff,_h,c1,c1',c2,c2',c3,c3',g1,g1',g3,g3',e1,e1',e3,e3',e4,e4',f1,f3,f3',f4,f4',hia,TL,hap,eq_true hll,List.length_map,hwk,wrap_zip p (done:=done) (by omega)])|((first|refine c_call (by exact hIk) ?_|refine c_call (by exact hcl) ?_|refine c_call (by exact hIk2) ?_|refine jp_i (by simp only [List.length_append,List.length_cons,List.length_nil,SLim]<;>omega) ?_);simp only [push_cast,seval,reduceEqDiff,c1,c1',c2,c2',c3,c3',g1,g1',g3,g3',e1,e1',e3,e3',e4,e4',f1,f3,f3',f4,f4',hia,TL,hap,eq_true hll,List.length_map,hwk,wrap_zip p (done:=done) (by omega)])|intro _)
   have hli:=c_lists W0 p (pa++DL++[47]) (n0,3) (by omega) (by simp only [List.length_append,List.length_cons,List.length_nil];omega) (2^30)
    (fun q pa' o' lid' h1 h2 h3 h4=>c_leavesFn W0 q pa' o' (n0,3) lid' h3 (ih q pa' o' lid' (by omega) (by omega) (by omega) h2 (by omega))) (o++[(pa++DK,run)]) (n2,32) (fun he=>of_eq_false (f3 _ _) he) (by simp only [List.length_append,List.length_cons,List.length_nil];omega)
   unfold Part.v at hli
   refine c_callx hli (lk_m2 (fun he=>of_eq_false (f4' _ _) he) (fun he=>of_eq_false (g3 _ _) he)) (fun n5 v σo hle hR=>?_)
   obtain ⟨rfl,id,hi1,hi2,rfl⟩:=hR
   have hlp:=lvs_part p (pa++DL++[47])
   simp only [TL]
   rw [over_m2 (fun he=>of_eq_false (f4' _ _) he) (fun he=>of_eq_false (g3 _ _) he)]
   generalize p.lvs (pa++DL++[47])=LV at *
   rw [show o++(pa++DK,run)::(LV++lvsPs rest pa (k+1) [])=(o++[(pa++DK,run)]++LV)++lvsPs rest pa (k+1) [] by simp] at hd
   simp only [push_cast,seval,reduceEqDiff,c1,c1',c2,c2',c3,c3',g1,g1',g3,g3',e1,e1',e3,e3',e4,e4',f1,f3,f3',f4,f4',hia,TL,hap,eq_true hll,List.length_map,hwk,wrap_zip p (done:=done) (by omega)]
   intros
   rename_i b4 b5
   have hx3:n5<n5+1+b4+1+b5:=by omega
   generalize n5+1+b4+1+b5=n6 at *
   have hid:id.1<n6:=by omega
   have hid2:id=(n2,32)\/n0<id.1:=by
    rcases hi1 with h|h
    ·exact .inl h
    ·exact .inr (by omega)
   refine ⟨_,⟨[(2,.s pa),(3,.ref (n0,3) 0),(7,.arr (n6,99)),(8,.i .i64 ((k+1:Nat):Int)),(11,.sl (ps.map Part.enc)),(12,.i .i64 ps.length),(13,.i .i64 (done++[p]).length)],[((n6,99),.arr TPt 6 []),(id,.arr TL 2 ((o++[(pa++DK,run)]++LV).map leafV)),((n0,3),.box (.arr id))],n6+1⟩,Nat.lt_succ_self _,(StLe.own (s:=7) (e:=TPt) (sz:=6) (k:=99) rfl).trans ((StLe.envD (fun t=>?_) (Nat.le_refl _)).trans (StLe.drop (fun i e h=>lk_app_left (τ:=[_]) h) (Nat.le_refl _))),done++[p],rest,_,id,(n6,99),_,[],k+1,by rw [hz];simp,rfl,hd,?_,?_,?_,?_,?_,?_,?_,?_,?_,?_,rfl⟩
   ·left
    by_cases h3:7=t
    ·subst h3;rfl
    ·simp [get,h3]
   ·simp only [List.length_append,List.length_cons,List.length_nil];omega
   ·simp;omega
   ·simp
   ·rw [wtPs_nil];omega
   ·omega
   ·omega
   ·simp only;omega
   ·rcases hid2 with rfl|h
    ·exact fun he=>of_eq_false (f3 _ _) he
    ·rintro rfl;simp at h
   ·intro he;injection he with h1 h2;omega
   ·rintro rfl;simp at hid
theorem c_Leaves (K:Nat) (hI:∀i:Nat,i<=K->RetS Tryz.prog W0 114 [.i .i64 i] [] (.s (decN i)) []/\(decN i).length<=20) (ps:List Part) (hw:wtPs ps<=2^24) (hK:wtPs ps<=K) (hv:validP ps=true) :
  RetS Tryz.prog W0 30 [.sl (ps.map Part.enc)] [] (.tup [.sl ((lvsPs ps [] 0 []).map leafV),.i .i64 0]) []:=by
 have hva:=c_Valid W0 ps hw
 rw [hv] at hva
 have hle:=retN_nil (e:=TL) (sz:=2) (fun id=>c_leavesA W0 K hI _ ps [] [] id (Nat.lt_succ_self _) hw hK (by simp;omega) (by simp;omega))
 rw [List.nil_append] at hle
 refine fn_retW (vs:=[.sl ((lvsPs ps [] 0 []).map leafV),.i .i64 0]) f30ok (by simp) (by simp) fun n0 hn0=>?_
 clear hn0
 simp only [push_cast,seval,reduceEqDiff]
 repeat' (first|(((first|apply condU_s|apply gdU_t|apply gdU_f)<;>intro _h)<;>simp only [push_cast,seval,reduceEqDiff,_h])|(refine c_call (by exact hva) ?_;simp only [push_cast,seval,reduceEqDiff])|intro _)
 refine c_calln hle (fun i e h=>by simp [lk] at h) ?_
 rw [over_nil]
 simp only [push_cast,seval,reduceEqDiff]
 intros
 exact ⟨⟨_,[],_⟩,frz_slot (s:=2) (e:=TL) (sz:=2) (es:=(lvsPs ps [] 0 []).map leafV) rfl (by simp [lk]) (fun _ _ h=>by cases h) (fun y hy=>by obtain ⟨x,_,rfl⟩:=List.mem_map.1 hy;rfl) (Nat.le_refl _),⟨by simp [ResOk,get],by simp [ResOk,get],trivial⟩,fun _ _ h=>by cases h⟩
def nodupK:List Bytes->List Bytes->Bool
 | _,[]=>true
 | d,k::r=>!d.contains k&&nodupK (d++[k]) r
def lastOther (l:List Bytes):Bool:=match l.getLast? with
 | none=>false
 | some k=>k == kOtherS
def headS (s:Sel):Bool:=selB s.kind&&(nameB s.name&&lastOther s.keys)
def soundGo:List Sel->List Sel->Bool
 | _,[]=>true
 | d,s::r=>headS s&&(nodupK [] s.keys&&(!d.any (selIs s.kind s.name)&&soundGo (d++[s]) r))
def soundP (f:FormP):Bool:=soundGo [] f.1&&(decide ((combP 1 f.1:Int)<=400)&&((f.2.length:Int) == (combP 1 f.1:Int)))
theorem elSel (s:Sel):ElOk true 3 s.enc:=elOk_agg rfl
theorem ifSel:okFn Tryz.prog 87 19 (gIF_0 86 3 true) gIFR=true:=by kernel_rfl
theorem cfSel:okFn Tryz.prog 46 9 (gCF_0 87) gCFR=true:=by kernel_rfl
theorem anySel {l:List Sel} {g:FuncId} {first caps:List V} {σ:Sto} {p:Sel->Bool} (hl:l.length<2^62) (hg:∀x∈l,RetS Tryz.prog W0 g (first++[x.enc]++caps) σ (.b (p x)) σ) :
  RetS Tryz.prog W0 46 [.sl (l.map Sel.enc),.fn g first caps] σ (.b (l.any p)) σ:=by
 rw [<-idxI_ge]
 exact containsFunc_ret W0 cfSel _ _ _ _ (indexFunc_ret W0 ifSel Sel.enc l p g first caps σ (fun x _=>elSel x) hg hl)
theorem c_sound1 (t s:Sel) (sid:Id) (σ:Sto) (hs:lk σ sid=some (.box (.agg [.i .i64 s.kind,.s s.name,.sl (s.keys.map V.s)]))):RetS Tryz.prog W0 47 [t.enc,.ref sid 0] σ (.b (selIs s.kind s.name t)) σ:=by
 generalize hS:selIs s.kind s.name t=S
 unfold selIs at hS
 refine fn_retW (vs:=[.b S]) f47ok (by simp) (fun _ h=>h) fun n0 hn0=>?_
 have h1:∀j,((n0,j)=sid)=False:=fun j=>ne_idx (hn0 _ _ hs)
 simp only [push_cast,seval,reduceEqDiff,h1,hs]
 repeat' (first|(((first|apply condU_s|apply gdU_t|apply gdU_f)<;>intro _h)<;>simp only [push_cast,seval,reduceEqDiff,_h,h1,hs])|intro _)
 all_goals subst hS
 all_goals (refine finW_retS (by simp [get, *]) (fun i e h=>lk_fresh (hn0 i e h) h))
theorem last_cases (l:List Bytes):(l=[]/\lastOther l=false)\/∃d k,l=d++[k]/\lastOther l=(k == kOtherS):=by
 rcases List.eq_nil_or_concat l with h|⟨d,k,h⟩
 ·left;subst h;exact ⟨rfl,rfl⟩
 ·right;refine ⟨d,k,by rw [h,List.concat_eq_append],?_⟩
  subst h;rw [List.concat_eq_append];simp [lastOther]
set_option maxHeartbeats 4000000 in
theorem c_Sound (f:FormP) (h1:f.1.length<=2^26) (hk:∀s∈f.1,s.keys.length<=2^26/\s.name.length<=2^30):RetS Tryz.prog W0 12 [formV f] [] (.b (soundP f)) []:=by
 obtain ⟨L,VS⟩:=f
 simp only at h1 hk
 have hco:=c_comb W0 L (by omega) (fun s hs=>by have:=(hk s hs).1;omega)
 unfold soundP formV
 simp only
 generalize combP 1 L=CB at *
 generalize hT:(decide ((CB:Int)<=400)&&((VS.length:Int) == (CB:Int)))=T
 generalize hS:(soundGo [] L&&T)=S
 refine fn_retW (vs:=[.b S]) f12ok (by simp) (by simp) fun n0 hn0=>?_
 clear hn0
 simp only [push_cast,seval,reduceEqDiff,List.length_map]
 intros
 refine aWP_loopW L.length (Inv:=fun m st=>∃done rest n,L=done++rest/\m=rest.length/\(soundGo done rest&&T)=S/\n0<n/\st=⟨[(1,.ref (n0,1) 0),(9,.sl (L.map Sel.enc)),(10,.i .i64 L.length),(11,.i .i64 done.length)],[((n0,1),.box (.agg [.sl (L.map Sel.enc),.sl (VS.map vEnc)]))],n⟩) ⟨_,StLe.refl,[],L,_,rfl,rfl,hS,by (try simp only);omega,rfl⟩ ?_
 clear hS
 rintro m _ ⟨done,rest,n,hz,rfl,hd,hn,rfl⟩
 cases rest with
 | nil=>
  have hlt0:decide ((done.length:Int)<(L.length:Int))=false:=by rw [hz];simp
  rw [soundGo,Bool.true_and] at hd
  subst hd
  simp only [push_cast,seval,reduceEqDiff,hlt0,List.length_map]
  repeat' (first|(((first|apply condU_s|apply gdU_t|apply gdU_f)<;>intro _h)<;>simp only [push_cast,seval,reduceEqDiff,_h,hlt0,List.length_map])|(refine c_call (by exact hco) ?_;simp only [push_cast,seval,reduceEqDiff,hlt0,List.length_map])|intro _)
  all_goals (refine finW_ret ?_;simp only [<-hT];simp [get, *])
 | cons s rest=>
  have hlt0:decide ((done.length:Int)<(L.length:Int))=true:=by rw [hz];simp;omega
  have hbd:=zip_bd hz
  obtain ⟨hks,hns⟩:=hk s (by rw [hz];simp)
  have hget:(L.map Sel.enc)[done.length]? = some s.enc:=by rw [hz,List.getElem?_map,List.getElem?_append_right (by simp)];simp
  have hsel:=c_sSel W0 s.kind
  have hnm:=c_tName W0 s.name (by unfold SLim;omega)
  rw [soundGo] at hd
  unfold headS at hd
  have f1:∀k j q:Nat,((n+1+k,j)=(n0,q))=False:=fun k j q=>eq_false fun he=>by injection he with h1 h2;omega
  have f1':∀k j q:Nat,((n0,q)=(n+1+k,j))=False:=fun k j q=>eq_false fun he=>of_eq_false (f1 k j q) he.symm
  cases hs:selB s.kind with
  | false=>
   rw [hs] at hd hsel
   simp only [Bool.false_and] at hd
   subst hd
   simp only [push_cast,seval,reduceEqDiff,hlt0,hget,if_pos hbd,f1,f1',List.length_map]
   repeat' (first|(((first|apply condU_s|apply gdU_t|apply gdU_f)<;>intro _h)<;>simp only [push_cast,seval,reduceEqDiff,_h,hlt0,hget,if_pos hbd,f1,f1',List.length_map])|(refine c_call (by exact hsel) ?_;simp only [push_cast,seval,reduceEqDiff,hlt0,hget,if_pos hbd,f1,f1',List.length_map])|intro _)
   exact finW_ret (by simp [get])
  | true=>
  cases hm:nameB s.name with
  | false=>
   rw [hs] at hd hsel
   rw [hm] at hd hnm
   simp only [Bool.false_and,Bool.true_and] at hd
   subst hd
   simp only [push_cast,seval,reduceEqDiff,hlt0,hget,if_pos hbd,f1,f1',List.length_map]
   repeat' (first|(((first|apply condU_s|apply gdU_t|apply gdU_f)<;>intro _h)<;>simp only [push_cast,seval,reduceEqDiff,_h,hlt0,hget,if_pos hbd,f1,f1',List.length_map])|((first|refine c_call (by exact hsel) ?_|refine c_call (by exact hnm) ?_);simp only [push_cast,seval,reduceEqDiff,hlt0,hget,if_pos hbd,f1,f1',List.length_map])|intro _)
   exact finW_ret (by simp [get])
  | true=>
  rw [hs] at hd hsel
  rw [hm] at hd hnm
  rcases last_cases s.keys with ⟨hk0,hlo⟩|⟨kd0,kl,hk0,hlo⟩
  ·rw [hlo] at hd
   simp only [Bool.false_and,Bool.true_and] at hd
   subst hd
   simp only [push_cast,seval,reduceEqDiff,hlt0,hget,if_pos hbd,f1,f1',List.length_map,hk0,List.map_nil,List.length_nil]
   repeat' (first|(((first|apply condU_s|apply gdU_t|apply gdU_f)<;>intro _h)<;>simp only [push_cast,seval,reduceEqDiff,_h,hlt0,hget,if_pos hbd,f1,f1',List.length_map,hk0,List.map_nil,List.length_nil])|((first|refine c_call (by exact hsel) ?_|refine c_call (by exact hnm) ?_);simp only [push_cast,seval,reduceEqDiff,hlt0,hget,if_pos hbd,f1,f1',List.length_map,hk0,List.map_nil,List.length_nil])|intro _)
   exact finW_ret (by simp [get])
  ·have hkl:s.keys.length=kd0.length+1:=by rw [hk0];simp
   have hne:((s.keys.length:Int) == 0)=false:=by rw [hkl];simp;omega
   have hw1:IntKind.i64.wrap ((s.keys.length:Int)-1)=(kd0.length:Int):=by rw [wrap64 (by omega) (by omega)];omega
   have hgl:(s.keys.map V.s)[kd0.length]? = some (.s kl):=by rw [hk0,List.getElem?_map];simp
   have hltk:kd0.length<s.keys.length:=by omega
   cases hlk:(kl == kOtherS) with
   | false=>
    have hbk:(kl == [111,116,104,101,114])=false:=hlk
    rw [hlo,hlk] at hd
    simp only [Bool.false_and,Bool.true_and] at hd
    subst hd
    simp only [push_cast,seval,reduceEqDiff,hlt0,hget,if_pos hbd,f1,f1',List.length_map,hne,hw1,hgl,if_pos hltk,hbk]
    repeat' (first|(((first|apply condU_s|apply gdU_t|apply gdU_f)<;>intro _h)<;>simp only [push_cast,seval,reduceEqDiff,_h,hlt0,hget,if_pos hbd,f1,f1',List.length_map,hne,hw1,hgl,if_pos hltk,hbk])|((first|refine c_call (by exact hsel) ?_|refine c_call (by exact hnm) ?_);simp only [push_cast,seval,reduceEqDiff,hlt0,hget,if_pos hbd,f1,f1',List.length_map,hne,hw1,hgl,if_pos hltk,hbk])|intro _)
    exact finW_ret (by simp [get])
   | true=>
    have hbk:(kl == [111,116,104,101,114])=true:=hlk
    rw [hlo,hlk] at hd
    simp only [Bool.true_and] at hd
    simp only [push_cast,seval,reduceEqDiff,hlt0,hget,if_pos hbd,f1,f1',List.length_map,hne,hw1,hgl,if_pos hltk,hbk]
    repeat' (first|(((first|apply condU_s|apply gdU_t|apply gdU_f)<;>intro _h)<;>simp only [push_cast,seval,reduceEqDiff,_h,hlt0,hget,if_pos hbd,f1,f1',List.length_map,hne,hw1,hgl,if_pos hltk,hbk])|((first|refine c_call (by exact hsel) ?_|refine c_call (by exact hnm) ?_);simp only [push_cast,seval,reduceEqDiff,hlt0,hget,if_pos hbd,f1,f1',List.length_map,hne,hw1,hgl,if_pos hltk,hbk])|intro _)
    rename_i b1 b2 b3 b4
    have hx:n<n+1+b1/\n+1+b1<n+1+b1+1+b2+1+b3+1+b4:=by omega
    generalize n+1+b1+1+b2+1+b3+1+b4=n2 at *
    generalize n+1+b1=x0 at *
    obtain ⟨hx1,hx2⟩:=hx
    have g1:∀j q:Nat,((x0,j)=(n0,q))=False:=fun j q=>eq_false fun he=>by injection he with h1 h2;omega
    have g1':∀j q:Nat,((n0,q)=(x0,j))=False:=fun j q=>eq_false fun he=>of_eq_false (g1 j q) he.symm
    clear hk0 hlo hkl hne hw1 hgl hltk hbk hlk hsel hnm f1 f1'
    refine aWP_loopW s.keys.length (Inv:=fun m st=>∃kd kr n,s.keys=kd++kr/\m=kr.length/\(nodupK kd kr&&(!done.any (selIs s.kind s.name)&&soundGo (done++[s]) rest)&&T)=S/\x0<n/\st=⟨[(1,.ref (n0,1) 0),(3,.i .i64 done.length),(4,.ref (x0,4) 0),(9,.sl (L.map Sel.enc)),(10,.i .i64 L.length),(11,.i .i64 done.length),(44,.sl (s.keys.map V.s)),(45,.i .i64 s.keys.length),(46,.i .i64 kd.length)],[((x0,4),.box (.agg [.i .i64 s.kind,.s s.name,.sl (s.keys.map V.s)])),((n0,1),.box (.agg [.sl (L.map Sel.enc),.sl (VS.map vEnc)]))],n⟩) ⟨_,StLe.refl,[],s.keys,_,rfl,rfl,hd,hx2,rfl⟩ ?_
    clear hd
    rintro m _ ⟨kd,kr,n3,hkz,rfl,hd,hn3,rfl⟩
    cases kr with
    | nil=>
     have hlt1:decide ((kd.length:Int)<(s.keys.length:Int))=false:=by rw [hkz];simp
     rw [nodupK,Bool.true_and] at hd
     have han:=anySel W0 (l:=done) (p:=selIs s.kind s.name) (σ:=[((x0,4),.box (.agg [.i .i64 s.kind,.s s.name,.sl (s.keys.map V.s)]))]) (first:=[]) (caps:=[.ref (x0,4) 0]) (by omega) (fun t _=>c_sound1 W0 t s (x0,4) _ (by simp [lk]))
     have htk:(if 0<=done.length/\done.length<=L.length then some (V.sl (List.take done.length (L.map Sel.enc))) else none)=some (V.sl (done.map Sel.enc)):=by
      rw [if_pos ⟨Nat.zero_le _,by omega⟩,hz];simp
     have hcel:∀y∈L.map Sel.enc,(cells y).length=3:=fun y hy=>by obtain ⟨x,_,rfl⟩:=List.mem_map.1 hy;rfl
     generalize hAN:done.any (selIs s.kind s.name)=AN at *
     cases AN with
     | true=>
      simp only [bq,if_true,if_false,Int.reduceBEq,reduceCtorEq] at hd
      subst hd
      simp only [push_cast,seval,reduceEqDiff,hlt1,List.length_map,g1,g1',htk,eq_true hcel]
      intros
      refine c_callr han (fun i e h=>lk_app_left (τ:=[_]) h) ?_
      simp only [push_cast,seval,reduceEqDiff,hlt1,List.length_map,g1,g1',htk,eq_true hcel]
      intros
      exact finW_ret (by simp [get])
     | false=>
      simp only [bq,if_true,if_false,Int.reduceBEq,reduceCtorEq] at hd
      simp only [push_cast,seval,reduceEqDiff,hlt1,List.length_map,g1,g1',htk,eq_true hcel,wrap_zip s (done:=done) (by omega)]
      intros
      refine c_callr han (fun i e h=>lk_app_left (τ:=[_]) h) ?_
      simp only [push_cast,seval,reduceEqDiff,hlt1,List.length_map,g1,g1',htk,eq_true hcel,wrap_zip s (done:=done) (by omega)]
      intros
      exact ⟨_,_,Nat.lt_succ_self _,StLe.drop1 (by simp [lk,g1']) (Nat.le_refl _),done++[s],rest,_,by rw [hz];simp,rfl,hd,by omega,rfl⟩
    | cons key kr=>
     have hlt1:decide ((kd.length:Int)<(s.keys.length:Int))=true:=by rw [hkz];simp;omega
     have hkb:=zip_bd hkz
     rw [nodupK] at hd
     have hgk:(s.keys.map V.s)[kd.length]? = some (.s key):=by rw [hkz,List.getElem?_map,List.getElem?_append_right (by simp)];simp
     have htk:(if 0<=kd.length/\kd.length<=s.keys.length then some (V.sl (List.take kd.length (s.keys.map V.s))) else none)=some (V.sl (kd.map V.s)):=by
      rw [if_pos ⟨Nat.zero_le _,by omega⟩,hkz];simp
     have hcel:∀y∈s.keys.map V.s,(cells y).length=1:=fun y hy=>by obtain ⟨x,_,rfl⟩:=List.mem_map.1 hy;rfl
     have hin:=c_containsS W0 kd key (by omega)
     cases hc:kd.contains key with
     | true=>
      rw [hc] at hd hin
      simp only [bq,if_true,if_false,Int.reduceBEq,reduceCtorEq] at hd
      subst hd
      simp only [push_cast,seval,reduceEqDiff,hlt1,List.length_map,g1,g1',htk,hgk,if_pos hkb,eq_true hcel]
      repeat' (first|(((first|apply condU_s|apply gdU_t|apply gdU_f)<;>intro _h)<;>simp only [push_cast,seval,reduceEqDiff,_h,hlt1,List.length_map,g1,g1',htk,hgk,if_pos hkb,eq_true hcel])|(refine c_call (by exact hin) ?_;simp only [push_cast,seval,reduceEqDiff,hlt1,List.length_map,g1,g1',htk,hgk,if_pos hkb,eq_true hcel])|intro _)
      exact finW_ret (by simp [get])
     | false=>
      rw [hc] at hd hin
      simp only [bq,if_true,if_false,Int.reduceBEq,reduceCtorEq] at hd
      simp only [push_cast,seval,reduceEqDiff,hlt1,List.length_map,g1,g1',htk,hgk,if_pos hkb,eq_true hcel,wrap_zip key (done:=kd) (by omega)]
      repeat' (first|(((first|apply condU_s|apply gdU_t|apply gdU_f)<;>intro _h)<;>simp only [push_cast,seval,reduceEqDiff,_h,hlt1,List.length_map,g1,g1',htk,hgk,if_pos hkb,eq_true hcel,wrap_zip key (done:=kd) (by omega)])|(refine c_call (by exact hin) ?_;simp only [push_cast,seval,reduceEqDiff,hlt1,List.length_map,g1,g1',htk,hgk,if_pos hkb,eq_true hcel,wrap_zip key (done:=kd) (by omega)])|intro _)
      exact ⟨_,_,Nat.lt_succ_self _,StLe.refl,kd++[key],kr,_,by rw [hkz];simp,rfl,hd,by omega,rfl⟩
theorem retS_weak {P:Program} {W0:World} {f:FuncId} {args args':List V} {σ σ':Sto} {v:V} (h:RetS P W0 f args' σ v σ') (hl:args.length=args'.length)
  (ha:∀(k:Nat) (a a':V),args[k]? = some a->args'[k]? = some a'->VLe (fun _=>none) a a'):RetS P W0 f args σ v σ' where
 callable:=h.callable
 dom:=h.dom
 run:=fun n w μ H vals hp hv=>h.run n w μ H vals hp ⟨by rw [<-hl];exact hv.len,fun k c x hc hx=>by
  have hk:k<args.length:=by rw [hl];exact (List.getElem?_eq_some_iff.1 hc).1
  have hg:args[k]? = some args[k]:=List.getElem?_eq_getElem hk
  exact VRel.le (fun _ _ h=>h) (fun _ _ h=>by cases h) (ha k _ _ hg hc) (hv.at_ k _ x hg hx)⟩
def VLs (φ:Id->Option (List V)):List V->List V->Prop
 | [],[]=>True
 | a::xs,b::ys=>(VLe φ a b/\(cells b).length=(cells a).length/\a.ok=true/\b.ok=true)/\VLs φ xs ys
 | _,_=>False
theorem VLs.at_ {φ:Id->Option (List V)}:∀{xs ys:List V},VLs φ xs ys->xs.length=ys.length/\∀(k:Nat) (c c':V),xs[k]? = some c->ys[k]? = some c'->VLe φ c c'/\(cells c').length=(cells c).length/\c.ok=true/\c'.ok=true
 | [],[],_=>⟨rfl,fun k c c' h=>by simp at h⟩
 | a::xs,b::ys,h=>by
  obtain ⟨h1,h2⟩:=h
  obtain ⟨h3,h4⟩:=VLs.at_ h2
  refine ⟨by simp [h3],fun k c c' hc hc'=>?_⟩
  cases k with
  | zero=>simp at hc hc';subst hc hc';exact h1
  | succ k=>exact h4 k c c' (by simpa using hc) (by simpa using hc')
theorem vle_slL {φ:Id->Option (List V)} {xs ys:List V} (h:VLs φ xs ys):VLe φ (.sl xs) (.sl ys):=.sl _ _ h.at_.1 (fun k c c' h1 h2=>(h.at_.2 k c c' h1 h2).1) (fun k c c' h1 h2=>(h.at_.2 k c c' h1 h2).2)
theorem vle_agL {φ:Id->Option (List V)} {xs ys:List V} (h:VLs φ xs ys):VLe φ (.agg xs) (.agg ys):=.agg _ _ h.at_.1 (fun k c c' h1 h2=>(h.at_.2 k c c' h1 h2).1)
def tA:Part:=⟨1,[97],[],[],[],[]⟩
def tX:Part:=⟨1,[120],[],[],[],[]⟩
def tC:Part:=⟨10,[],[],[],[],[]⟩
def awakeP:List Part:=[tA,⟨7,[],[110],[],[([111,110,101],[tX]),([111,116,104,101,114],[tC])],[]⟩]
def litT (k:Int) (t:Bytes):V:=.agg [.i .i64 k,.s t,.s [],.s [],.nil,.nil]
def awakeV:V:=.sl [litT 1 [97],.agg [.i .i64 7,.s [],.s [110],.s [],.sl [.agg [.s [111,110,101],.sl [litT 1 [120]]],.agg [.s [111,116,104,101,114],.sl [litT 10 []]]],.nil]]
theorem vle_lit (φ:Id->Option (List V)) (k:Int) (t:Bytes):VLe φ (litT k t) (Part.enc ⟨k,t,[],[],[],[]⟩):=by
 rw [Part.enc_eq]
 exact vle_agL ⟨⟨.refl _,rfl,rfl,rfl⟩,⟨.refl _,rfl,rfl,rfl⟩,⟨.refl _,rfl,rfl,rfl⟩,⟨.refl _,rfl,rfl,rfl⟩,⟨.nil,rfl,rfl,rfl⟩,⟨.nil,rfl,rfl,rfl⟩,trivial⟩
theorem vle_awake (φ:Id->Option (List V)):VLe φ awakeV (.sl (awakeP.map Part.enc)):=by
 have l1:∀k t,VLe φ (.sl [litT k t]) (.sl [Part.enc ⟨k,t,[],[],[],[]⟩]):=fun k t=>vle_slL ⟨⟨vle_lit φ k t,rfl,rfl,rfl⟩,trivial⟩
 refine vle_slL ⟨⟨vle_lit φ 1 [97],rfl,rfl,rfl⟩,⟨?_,rfl,rfl,rfl⟩,trivial⟩
 rw [Part.enc_eq]
 refine vle_agL ⟨⟨.refl _,rfl,rfl,rfl⟩,⟨.refl _,rfl,rfl,rfl⟩,⟨.refl _,rfl,rfl,rfl⟩,⟨.refl _,rfl,rfl,rfl⟩,⟨?_,rfl,rfl,rfl⟩,⟨.nil,rfl,rfl,rfl⟩,trivial⟩
 exact vle_slL ⟨⟨vle_agL ⟨⟨.refl _,rfl,rfl,rfl⟩,⟨l1 1 [120],rfl,rfl,rfl⟩,trivial⟩,rfl,rfl,rfl⟩,⟨vle_agL ⟨⟨.refl _,rfl,rfl,rfl⟩,⟨l1 10 [],rfl,rfl,rfl⟩,trivial⟩,rfl,rfl,rfl⟩,trivial⟩
theorem dec01:decN 0=[48]/\decN 1=[49]:=by constructor<;>(unfold decN Lib.decDigits;rfl)
def tP:Part:=⟨7,[],[110],[],[([111,110,101],[tX]),([111,116,104,101,114],[tC])],[]⟩
theorem awake_lvs:lvsPs awakeP [] 0 []=[([48],[tA]),([49,47,111,110,101,47,48],[tX]),([49,47,111,116,104,101,114,47,48],[tC]),([49],[])]:=by
 have s1:tA.solid=true:=rfl
 have s2:tP.solid=false:=rfl
 have s3:tX.solid=true:=rfl
 have s4:tC.solid=true:=rfl
 have l2:∀pa,tP.lvs pa=lvsCs [([111,110,101],[tX]),([111,116,104,101,114],[tC])] pa:=fun pa=>by rw [Part.lvs_eq];rfl
 show lvsPs [tA,tP] [] 0 []=_
 simp only [lvsPs_cons,s1,s2,s3,s4,if_true,if_false,Bool.false_eq_true,lvsPs_nil,l2,lvsCs_cons,lvsCs,Nat.zero_add,dec01.1,dec01.2]
 rfl
def loc0:Loc:=⟨[],[],[],[],[],[.s [],.s [],.s [],.s [],.i .i64 0,.i .i64 0,.nil,.nil,.nil,.nil,.nil]⟩
theorem awake_valid:validP awakeP=true:=by decide
theorem awake_flat:flatP loc0 awakeP=(([⟨7,[110],[[111,110,101],[111,116,104,101,114]]⟩],[[⟨1,[97,120],[],[],[],[]⟩],[tA,⟨3,[],[110],[],[],[]⟩]]),0):=by rfl
theorem c_FlatG (l:Loc) (ps:List Part) (hrl:l.rest.length=11) (hb:wtRules l.card+wtRules l.ord<=2^24) (hw:wtPs ps<=2^20) :
  RetS Tryz.prog W0 11 [l.enc,.sl (ps.map Part.enc)] [] (.tup [formV (flatP l ps).1,.i .i64 (flatP l ps).2]) []:=
 c_Flat W0 l ps rfl hrl hb (by omega) (by have:=sels_len ps;omega) (fun s hs=>by have:=sels_keys ps s hs;exact ⟨this.1,by omega⟩) (fun s hs k hk=>by have:=sels_klen ps s hs k hk;omega)
  (fun hv=>valid_ok (valid_wf (by rw [<-valid_same];exact hv)))
theorem c_awake:RetS Tryz.prog W0 8 [] [] (.b true) []:=by
 have hI:∀i:Nat,i<=99->RetS Tryz.prog W0 114 [.i .i64 i] [] (.s (decN i)) []/\(decN i).length<=20:=fun i hi=>by
  refine ⟨c_itoa W0 i (by omega),?_⟩
  unfold decN Lib.decDigits
  split
  ·simp
  ·unfold Lib.decDigits
   rw [dif_pos (by omega)]
   simp
 have hwt:wtPs awakeP<=99:=by decide
 have hlv:=c_Leaves W0 99 hI awakeP (by omega) (by omega) awake_valid
 rw [awake_lvs] at hlv
 have hlv2:RetS Tryz.prog W0 30 [awakeV] [] _ []:=retS_weak hlv rfl (fun k a a' h1 h2=>by
  match k with
  | 0=>simp at h1 h2;subst h1 h2;exact vle_awake _
  | k+1=>simp at h1)
 have hfl:=c_FlatG W0 loc0 awakeP rfl (by decide) (by omega)
 rw [awake_flat] at hfl
 have hfl2:RetS Tryz.prog W0 11 [.agg [.s [],.s [],.s [],.nil,.nil,.s [],.s [],.s [],.s [],.i .i64 0,.i .i64 0,.nil,.nil,.nil,.nil,.nil],awakeV] [] _ []:=retS_weak hfl rfl (fun k a a' h1 h2=>by
  match k with
  | 0=>
   simp only [List.getElem?_cons_zero,Option.some.injEq] at h1 h2;subst h1 h2
   exact vle_agL ⟨⟨.refl _,rfl,rfl,rfl⟩,⟨.refl _,rfl,rfl,rfl⟩,⟨.refl _,rfl,rfl,rfl⟩,⟨.nil,rfl,rfl,rfl⟩,⟨.nil,rfl,rfl,rfl⟩,⟨.refl _,rfl,rfl,rfl⟩,⟨.refl _,rfl,rfl,rfl⟩,⟨.refl _,rfl,rfl,rfl⟩,⟨.refl _,rfl,rfl,rfl⟩,⟨.refl _,rfl,rfl,rfl⟩,⟨.refl _,rfl,rfl,rfl⟩,⟨.refl _,rfl,rfl,rfl⟩,⟨.refl _,rfl,rfl,rfl⟩,⟨.refl _,rfl,rfl,rfl⟩,⟨.refl _,rfl,rfl,rfl⟩,⟨.refl _,rfl,rfl,rfl⟩,trivial⟩
  | 1=>simp only [List.getElem?_cons_zero,List.getElem?_cons_succ,Option.some.injEq] at h1 h2;subst h1 h2;exact vle_awake _
  | k+2=>simp at h1)
 have hso:=c_Sound W0 ([⟨7,[110],[[111,110,101],[111,116,104,101,114]]⟩],[[⟨1,[97,120],[],[],[],[]⟩],[tA,⟨3,[],[110],[],[],[]⟩]]) (by decide) (fun s hs=>by simp at hs;subst hs;decide)
 rw [show soundP ([⟨7,[110],[[111,110,101],[111,116,104,101,114]]⟩],[[⟨1,[97,120],[],[],[],[]⟩],[tA,⟨3,[],[110],[],[],[]⟩]])=true from rfl] at hso
 have hpl:=c_plain W0 _ [tA,⟨3,[],[110],[],[],[]⟩] (Nat.lt_succ_self _) (by decide)
 rw [show plainPs [tA,⟨3,[],[110],[],[],[]⟩]=true from rfl] at hpl
 have heq:=c_rEqual W0 _ [⟨1,[97,120],[],[],[],[]⟩] [⟨1,[97,120],[],[],[],[]⟩] (Nat.lt_succ_self _) (by decide)
 rw [eqPs_refl] at heq
 have heq2:RetS Tryz.prog W0 28 [.sl ([(⟨1,[97,120],[],[],[],[]⟩:Part)].map Part.enc),.sl [litT 1 [97,120]]] [] _ []:=retS_weak heq rfl (fun k a a' h1 h2=>by
  match k with
  | 0=>simp only [List.getElem?_cons_zero,Option.some.injEq] at h1 h2;subst h1 h2;exact .refl _
  | 1=>simp only [List.getElem?_cons_zero,List.getElem?_cons_succ,Option.some.injEq] at h1 h2;subst h1 h2;exact vle_slL ⟨⟨vle_lit _ _ _,rfl,rfl,rfl⟩,trivial⟩
  | k+2=>simp at h1)
 unfold formV at hfl2 hso
 simp only [List.map_cons,List.map_nil] at hlv2 hfl2 hso hpl heq2
 simp only [vEnc,List.map_cons,List.map_nil] at hfl2 hso
 generalize [Part.enc ⟨1,[97,120],[],[],[],[]⟩]=V0 at *
 generalize [tA.enc,Part.enc ⟨3,[],[110],[],[],[]⟩]=V1 at *
 generalize V.sl [Sel.enc ⟨7,[110],[[111,110,101],[111,116,104,101,114]]⟩]=SL at *
 rw [leafV_eq ([49,47,111,110,101,47,48],[tX])] at hlv2
 generalize leafV ([48],[tA])=L0 at *
 generalize leafV ([49,47,111,116,104,101,114,47,48],[tC])=L2 at *
 generalize leafV ([49],[])=L3 at *
 generalize V.sl (List.map Part.enc [tX])=LX at *
 unfold awakeV litT at hlv2 hfl2
 unfold litT at heq2
 clear hlv hfl heq hI hwt
 refine fn_retW (vs:=[.b true]) f8ok (by simp) (by simp) fun n0 hn0=>?_
 clear hn0
 simp only [push_cast,seval,reduceEqDiff,show (([49,47,111,110,101,47,48]:Bytes) == [49,47,111,110,101,47,48])=true from rfl]
 repeat' (first|(((first|apply condU_s|apply gdU_t|apply gdU_f)<;>intro _h)<;>simp only [push_cast,seval,reduceEqDiff,_h,show (([49,47,111,110,101,47,48]:Bytes) == [49,47,111,110,101,47,48])=true from rfl])|((first|refine c_call (by exact hlv2) ?_|refine c_call (by exact hfl2) ?_|refine c_call (by exact heq2) ?_|refine c_call (by exact hso) ?_|refine c_call (by exact hpl) ?_);simp only [push_cast,seval,reduceEqDiff,show (([49,47,111,110,101,47,48]:Bytes) == [49,47,111,110,101,47,48])=true from rfl])|intro _)
 all_goals (first|(refine finW_ret ?_;simp [get]<;>(intros;omega);done)|(refine finW_rets ?_;simp [push_cast,get];done)|skip)
end Go.Ir
namespace Go.Ir
open Go.Proofs
variable {P : Program} {W0 : World} {nt n : Nat} {Q : Exit → St → Prop} {env : Env} {σ : Sto}

end Go.Ir
namespace Go.Ir
structure Bare (p:Part):Prop where
 sel:selB p.kind=false
 ten:(p.kind == 10)=false
 cs:p.cases=[]
structure Colls (l:List Sel):Prop where
 nm:∀s∈l,selB s.kind=true/\nameB s.name=true
 nd:(l.map fun s=>(s.kind,s.name)).Nodup
 ks:∀s∈l,s.keys.Nodup
structure FlatOk (l:Loc) (ps:List Part) (F:FormP):Prop where
 sound:soundP F=true
 some:0<F.2.length
 bare:∀v∈F.2,allPs Bare v/\wtPs v<=2^19/\(validP v=true->flatP l v=(([],[v]),0))
 only:plainPs ps=true->F.2=[ps]
 nm:∀s∈F.1,s.name.length<=40
end Go.Ir
namespace Go.Ir
open Go.Proofs
variable (W0 : World)

end Go.Ir
section
namespace Go.Ir
mutual
def Part.shp:Part->Part
 | ⟨k,t,n,s,cs,ps⟩=>if selB k then ⟨k,t,n,s,shpCs cs,ps⟩ else ⟨k,t,n,s,cs,shpPs ps⟩
def shpPs:List Part->List Part
 | []=>[]
 | p::ps=>if p.solid then shpPs ps else p.shp::shpPs ps
def shpCs:List (Bytes × List Part)->List (Bytes × List Part)
 | []=>[]
 | (k,ps)::cs=>(k,shpPs ps)::shpCs cs
end
theorem Part.shp_eq (p:Part):p.shp=if selB p.kind then ⟨p.kind,p.text,p.name,p.style,shpCs p.cases,p.parts⟩ else ⟨p.kind,p.text,p.name,p.style,p.cases,shpPs p.parts⟩:=by cases p;simp only [Part.shp]
theorem shpPs_nil:shpPs []=[]:=by simp only [shpPs]
theorem shpPs_cons (p:Part) (ps:List Part):shpPs (p::ps)=if p.solid then shpPs ps else p.shp::shpPs ps:=by simp only [shpPs]
theorem shpCs_nil:shpCs []=[]:=by simp only [shpCs]
theorem shpCs_cons (c:Case) (cs:List Case):shpCs (c::cs)=(c.1,shpPs c.2)::shpCs cs:=by obtain ⟨k,q⟩:=c;simp only [shpCs]
theorem shpCs_map (cs:List Case):shpCs cs=cs.map fun c=>(c.1,shpPs c.2):=by
 induction cs with
 | nil=>rw [shpCs_nil];rfl
 | cons c cs ih=>rw [shpCs_cons,ih];rfl
abbrev Left:=List (List Part)
mutual
def Part.bld:Part->Left->Part × Left
 | ⟨k,t,n,s,cs,ps⟩,l=>if selB k then (⟨k,t,n,s,(bldCs cs l).1,ps⟩,(bldCs cs l).2) else (⟨k,t,n,s,cs,l.headD []++(bldR ps l.tail).1⟩,(bldR ps l.tail).2)
def bldR:List Part->Left->List Part × Left
 | [],l=>([],l)
 | p::ps,l=>((p.bld l).1::((p.bld l).2.headD []++(bldR ps (p.bld l).2.tail).1),(bldR ps (p.bld l).2.tail).2)
def bldCs:List (Bytes × List Part)->Left->List (Bytes × List Part) × Left
 | [],l=>([],l)
 | (k,ps)::cs,l=>((k,l.headD []++(bldR ps l.tail).1)::(bldCs cs (bldR ps l.tail).2).1,(bldCs cs (bldR ps l.tail).2).2)
end
def bldL (ps:List Part) (l:Left):List Part × Left:=(l.headD []++(bldR ps l.tail).1,(bldR ps l.tail).2)
theorem Part.bld_eq (p:Part) (l:Left):p.bld l=if selB p.kind then (⟨p.kind,p.text,p.name,p.style,(bldCs p.cases l).1,p.parts⟩,(bldCs p.cases l).2) else (⟨p.kind,p.text,p.name,p.style,p.cases,(bldL p.parts l).1⟩,(bldL p.parts l).2):=by cases p;simp only [Part.bld,bldL]
theorem bldR_nil (l:Left):bldR [] l=([],l):=by simp only [bldR]
theorem bldR_cons (p:Part) (ps:List Part) (l:Left):bldR (p::ps) l=((p.bld l).1::(bldL ps (p.bld l).2).1,(bldL ps (p.bld l).2).2):=by simp only [bldR,bldL]
theorem bldCs_nil (l:Left):bldCs [] l=([],l):=by simp only [bldCs]
theorem bldCs_cons (c:Case) (cs:List Case) (l:Left):bldCs (c::cs) l=((c.1,(bldL c.2 l).1)::(bldCs cs (bldL c.2 l).2).1,(bldCs cs (bldL c.2 l).2).2):=by obtain ⟨k,q⟩:=c;simp only [bldCs,bldL]
theorem bld_inv (ps:List Part):∀pa n run rest,bldL (shpPs ps) ((lvsPs ps pa n run).map Prod.snd++rest)=(run++ps,rest):=by
 refine tree_Q (P:=fun p=>∀pa rest,p.shp.bld ((p.lvs pa).map Prod.snd++rest)=(p,rest)) (Q:=fun ps=>∀pa n run rest,bldL (shpPs ps) ((lvsPs ps pa n run).map Prod.snd++rest)=(run++ps,rest))
  (R:=fun cs=>∀pa rest,bldCs (shpCs cs) ((lvsCs cs pa).map Prod.snd++rest)=(cs,rest)) ?_ ?_ ?_ ?_ ?_ ps
 ·intro p hr hq pa rest
  rw [p.lvs_eq,p.shp_eq]
  cases hs:selB p.kind with
  | true=>
   simp only [if_true]
   rw [Part.bld_eq]
   simp only [hs,if_true]
   rw [hr]
   cases p;rfl
  | false=>
   simp only [Bool.false_eq_true,if_false]
   rw [Part.bld_eq]
   simp only [hs,Bool.false_eq_true,if_false]
   rw [hq]
   cases p;rfl
 ·intro pa n run rest
  rw [lvsPs_nil,shpPs_nil]
  simp [bldL,bldR_nil]
 ·intro p ps hp hq pa n run rest
  rw [lvsPs_cons,shpPs_cons]
  split
  ·rw [hq];simp
  ·simp only [List.map_cons,List.map_append,List.cons_append,List.append_assoc]
   unfold bldL
   simp only [List.headD_cons,List.tail_cons]
   rw [bldR_cons,hp,hq]
   simp
 ·intro pa rest;rw [shpCs_nil,bldCs_nil];simp [lvsCs]
 ·intro c cs hq hr pa rest
  rw [lvsCs_cons,shpCs_cons,bldCs_cons,List.map_append,List.append_assoc]
  simp only
  rw [hq,hr]
  simp
theorem shp_solid {p:Part} (h:p.all WfP) (hs:p.solid=false) (hq:plainPs p.parts=false->plainPs (shpPs p.parts)=false):p.shp.solid=false:=by
 rw [p.shp_eq]
 have hw:=((Part.all_eq _ _).1 h).1
 cases hk:selB p.kind with
 | true=>simp [Part.solid_eq,hk]
 | false=>
  simp only [Bool.false_eq_true,if_false]
  rw [Part.solid_eq] at hs⊢
  rw [hk,hw.cases0 hk,plainCs_nil] at hs
  simp only [Bool.not_false,Bool.true_and,Bool.and_true] at hs
  simp [hk,hq hs]
theorem shp_nonplain (ps:List Part):allPs WfP ps->plainPs ps=false->plainPs (shpPs ps)=false:=by
 refine tree_Q (P:=fun p=>p.all WfP->p.solid=false->p.shp.solid=false) (Q:=fun ps=>allPs WfP ps->plainPs ps=false->plainPs (shpPs ps)=false) (R:=fun cs=>True) ?_ ?_ ?_ ?_ ?_ ps
 ·intro p _ hq h hs
  exact shp_solid h hs (hq ((Part.all_eq _ _).1 h).2.2)
 ·intro _ h;rw [plainPs_nil] at h;cases h
 ·intro p ps hp hq h hs
  rw [allPs_cons] at h
  rw [shpPs_cons]
  split
  ·rename_i hso
   rw [plainPs_cons,hso,Bool.true_and] at hs
   exact hq h.2 hs
  ·rename_i hso
   rw [plainPs_cons,hp h.1 (by simpa using hso)];rfl
 ·trivial
 ·intro _ _ _ _;trivial
theorem shp_ns {p:Part} (h:p.all WfP) (hs:p.solid=false):p.shp.solid=false:=shp_solid h hs (shp_nonplain _ ((Part.all_eq _ _).1 h).2.2)
theorem shp_kind (p:Part):p.shp.kind=p.kind/\p.shp.text=p.text/\p.shp.name=p.name/\p.shp.style=p.style:=by rw [p.shp_eq];split<;>exact ⟨rfl,rfl,rfl,rfl⟩
theorem lvs_shp (ps:List Part):allPs WfP ps->∀pa n run,lvsPs (shpPs ps) pa n []=(lvsPs ps pa n run).map fun x=>(x.1,[]):=by
 refine tree_Q (P:=fun p=>p.all WfP->∀pa,p.shp.lvs pa=(p.lvs pa).map fun x=>(x.1,[])) (Q:=fun ps=>allPs WfP ps->∀pa n run,lvsPs (shpPs ps) pa n []=(lvsPs ps pa n run).map fun x=>(x.1,[]))
  (R:=fun cs=>allCs WfP cs->∀pa,lvsCs (shpCs cs) pa=(lvsCs cs pa).map fun x=>(x.1,[])) ?_ ?_ ?_ ?_ ?_ ps
 ·intro p hr hq h pa
  obtain ⟨_,hc,hp⟩:=(Part.all_eq _ _).1 h
  rw [p.lvs_eq,Part.lvs_eq,(shp_kind p).1,p.shp_eq]
  cases hs:selB p.kind with
  | true=>simp only [if_true];exact hr hc _
  | false=>simp only [Bool.false_eq_true,if_false];exact hq hp _ _ _
 ·intro _ pa n run;rw [shpPs_nil,lvsPs_nil,lvsPs_nil];rfl
 ·intro p ps hp hq h pa n run
  rw [allPs_cons] at h
  rw [lvsPs_cons p,shpPs_cons]
  cases hs:p.solid with
  | true=>simp only [if_true];exact hq h.2 _ _ _
  | false=>
   simp only [Bool.false_eq_true,if_false]
   rw [lvsPs_cons,shp_ns h.1 hs]
   simp only [Bool.false_eq_true,if_false,List.map_cons,List.map_append]
   rw [hp h.1,hq h.2]
 ·intro _ pa;rw [shpCs_nil];simp [lvsCs]
 ·intro c cs hq hr h pa
  rw [allCs_cons] at h
  rw [shpCs_cons,lvsCs_cons,lvsCs_cons,List.map_append]
  rw [hr h.2,<-hq h.1]
theorem shp_shp (ps:List Part):allPs WfP ps->shpPs (shpPs ps)=shpPs ps:=by
 refine tree_Q (P:=fun p=>p.all WfP->p.shp.shp=p.shp) (Q:=fun ps=>allPs WfP ps->shpPs (shpPs ps)=shpPs ps)
  (R:=fun cs=>allCs WfP cs->shpCs (shpCs cs)=shpCs cs) ?_ ?_ ?_ ?_ ?_ ps
 ·intro p hr hq h
  obtain ⟨_,hc,hp⟩:=(Part.all_eq _ _).1 h
  rw [Part.shp_eq,(shp_kind p).1,p.shp_eq]
  cases hs:selB p.kind with
  | true=>simp only [if_true];rw [hr hc]
  | false=>simp only [Bool.false_eq_true,if_false];rw [hq hp]
 ·intro _;rw [shpPs_nil,shpPs_nil]
 ·intro p ps hp hq h
  rw [allPs_cons] at h
  rw [shpPs_cons]
  cases hs:p.solid with
  | true=>simp only [if_true];exact hq h.2
  | false=>
   simp only [Bool.false_eq_true,if_false]
   rw [shpPs_cons,shp_ns h.1 hs,hp h.1,hq h.2]
   simp
 ·intro _;rw [shpCs_nil,shpCs_nil]
 ·intro c cs hq hr h
  rw [allCs_cons] at h
  rw [shpCs_cons,shpCs_cons,hq h.1,hr h.2]
end Go.Ir
end
namespace Go.Ir
theorem eqPs_iff (ps:List Part):∀qs,eqPs ps qs=true↔ps=qs:=by
 refine tree_Q (P:=fun p=>∀q,p.eqB q=true↔p=q) (Q:=fun ps=>∀qs,eqPs ps qs=true↔ps=qs) (R:=fun cs=>∀ds,eqCs cs ds=true↔cs=ds) ?_ ?_ ?_ ?_ ?_ ps
 ·intro p hr hq q
  rw [p.eqB_eq]
  obtain ⟨k,t,n,s,cs,ps⟩:=p
  obtain ⟨k',t',n',s',cs',ps'⟩:=q
  simp only at hr hq⊢
  simp only [Bool.and_eq_true,beq_iff_eq,hq,hr,Part.mk.injEq]
  constructor
  ·rintro ⟨⟨⟨⟨⟨h1,h2⟩,h3⟩,h4⟩,h5⟩,h6⟩;exact ⟨h1,h2,h3,h4,h6,h5⟩
  ·rintro ⟨h1,h2,h3,h4,h6,h5⟩;exact ⟨⟨⟨⟨⟨h1,h2⟩,h3⟩,h4⟩,h5⟩,h6⟩
 ·intro qs;cases qs<;>simp [eqPs]
 ·intro p ps hp hq qs
  cases qs with
  | nil=>simp [eqPs]
  | cons q qs=>rw [eqPs_cons,Bool.and_eq_true,hp,hq];simp
 ·intro ds;cases ds<;>simp [eqCs]
 ·intro c cs hq hr ds
  cases ds with
  | nil=>obtain ⟨a,b⟩:=c;simp [eqCs]
  | cons d ds=>
   rw [eqCs_cons,Bool.and_eq_true,Bool.and_eq_true,hq,hr]
   obtain ⟨a,b⟩:=c;obtain ⟨a',b'⟩:=d
   simp
theorem solid_plain {p:Part} (h:p.all WfP) (hs:p.solid=false):p.kind=11\/selB p.kind=true:=by
 have hw:=((Part.all_eq _ _).1 h).1
 cases hk:selB p.kind with
 | true=>exact .inr rfl
 | false=>
  left
  by_cases h11:p.kind=11
  ·exact h11
  ·have:(p.kind == 11)=false:=by simpa using h11
   rw [Part.solid_eq,hk,hw.cases0 hk,hw.parts0 this] at hs
   simp [plainPs,plainCs] at hs
theorem ns_kind1 {p:Part} (h:p.all WfP) (hs:p.solid=false):(p.kind == 1)=false:=by
 rcases solid_plain h hs with h|h
 ·rw [h];rfl
 ·rcases (selB_iff _).1 h with h|h|h<;>rw [h]<;>rfl
theorem formed_shp (ps:List Part):allPs WfP ps->∀d c prev prev',formedPs ps d c prev=true->formedPs (shpPs ps) d c prev'=true:=by
 refine tree_Q (P:=fun p=>p.all WfP->p.solid=false->∀d c,p.formedB d c=true->p.shp.formedB d c=true) (Q:=fun ps=>allPs WfP ps->∀d c prev prev',formedPs ps d c prev=true->formedPs (shpPs ps) d c prev'=true)
  (R:=fun cs=>allCs WfP cs->∀k d c keys,formedCs cs k d c keys=true->formedCs (shpCs cs) k d c keys=true) ?_ ?_ ?_ ?_ ?_ ps
 ·intro p hr hq h hs d c hf
  obtain ⟨_,hc,hp⟩:=(Part.all_eq _ _).1 h
  rw [p.formedB_eq] at hf
  rw [Part.formedB_eq,(shp_kind p).1,(shp_kind p).2.1,(shp_kind p).2.2.1,(shp_kind p).2.2.2,p.shp_eq]
  rcases solid_plain h hs with h11|hk
  ·have e1:(p.kind == 11)=true:=by simpa using h11
   have e2:selB p.kind=false:=by rw [h11];rfl
   simp only [e1,if_true,Bool.and_eq_true] at hf
   simp only [e1,e2,if_true,Bool.false_eq_true,if_false,Bool.and_eq_true]
   exact ⟨hf.1,hq hp _ _ _ _ hf.2⟩
  ·have e1:(p.kind == 11)=false:=by
    rcases (selB_iff _).1 hk with h|h|h<;>rw [h]<;>rfl
   simp only [e1,hk,if_true,Bool.false_eq_true,if_false,Bool.and_eq_true] at hf
   simp only [e1,hk,if_true,Bool.false_eq_true,if_false,Bool.and_eq_true]
   refine ⟨?_,hr hc _ _ _ _ hf.2⟩
   rw [shpCs_map,List.length_map];exact hf.1
 ·intro _ d c prev prev' _;rw [shpPs_nil];simp [formedPs]
 ·intro p ps hp hq h d c prev prev' hf
  rw [allPs_cons] at h
  rw [formedPs_cons,Bool.and_eq_true,Bool.and_eq_true] at hf
  rw [shpPs_cons]
  cases hs:p.solid with
  | true=>simp only [if_true];exact hq h.2 _ _ _ _ hf.2.2
  | false=>
   simp only [Bool.false_eq_true,if_false]
   rw [formedPs_cons,(shp_kind p).1,ns_kind1 h.1 hs]
   simp only [Bool.false_and,Bool.not_false,Bool.true_and,Bool.and_eq_true]
   exact ⟨hp h.1 hs _ _ hf.2.1,hq h.2 _ _ _ _ hf.2.2⟩
 ·intro _ k d c keys hf;rw [shpCs_nil];exact hf
 ·intro x cs hq hr h k d c keys hf
  rw [allCs_cons] at h
  rw [formedCs_cons,Bool.and_eq_true,Bool.and_eq_true] at hf
  rw [shpCs_cons,formedCs_cons,Bool.and_eq_true,Bool.and_eq_true]
  exact ⟨hf.1,hq h.1 _ _ _ _ hf.2.1,hr h.2 _ _ _ _ hf.2.2⟩
theorem nms_shp (ps:List Part):∀x,x∈nmsPs (shpPs ps)->x∈nmsPs ps:=by
 refine tree_Q (P:=fun p=>∀x,x∈p.shp.nms->x∈p.nms) (Q:=fun ps=>∀x,x∈nmsPs (shpPs ps)->x∈nmsPs ps) (R:=fun cs=>∀x,x∈nmsCs (shpCs cs)->x∈nmsCs cs) ?_ ?_ ?_ ?_ ?_ ps
 ·intro p hr hq x hx
  rw [Part.nms_eq,(shp_kind p).1,(shp_kind p).2.2.1,p.shp_eq] at hx
  rw [p.nms_eq]
  simp only [List.mem_append] at hx⊢
  rcases hx with hx|hx
  ·exact .inl hx
  ·right
   split at hx
   ·rcases hx with hx|hx
    ·exact .inl hx
    ·exact .inr (hr _ hx)
   ·rcases hx with hx|hx
    ·exact .inl (hq _ hx)
    ·exact .inr hx
 ·intro x hx;rw [shpPs_nil] at hx;exact hx
 ·intro p ps hp hq x hx
  rw [shpPs_cons] at hx
  rw [nmsPs_cons,List.mem_append]
  split at hx
  ·exact .inr (hq _ hx)
  ·rw [nmsPs_cons,List.mem_append] at hx
   rcases hx with hx|hx
   ·exact .inl (hp _ hx)
   ·exact .inr (hq _ hx)
 ·intro x hx;rw [shpCs_nil] at hx;exact hx
 ·intro c cs hq hr x hx
  rw [shpCs_cons,nmsCs_cons,List.mem_append] at hx
  rw [nmsCs_cons,List.mem_append]
  rcases hx with hx|hx
  ·exact .inl (hq _ hx)
  ·exact .inr (hr _ hx)
theorem len_shp (ps:List Part):lenPs (shpPs ps)<=lenPs ps:=by
 refine tree_Q (P:=fun p=>p.shp.lenB<=p.lenB) (Q:=fun ps=>lenPs (shpPs ps)<=lenPs ps) (R:=fun cs=>lenCs (shpCs cs)<=lenCs cs) ?_ ?_ ?_ ?_ ?_ ps
 ·intro p hr hq
  rw [Part.lenB_eq,(shp_kind p).1,(shp_kind p).2.1,(shp_kind p).2.2.1,(shp_kind p).2.2.2,p.lenB_eq,p.shp_eq]
  cases hk:selB p.kind with
  | true=>
   simp only [if_true]
   repeat' split
   all_goals omega
  | false=>
   simp only [Bool.false_eq_true,if_false]
   cases hp:p.parts with
   | nil=>
    rw [shpPs_nil];exact Nat.le_refl _
   | cons q qs=>
    rw [hp] at hq
    simp only [List.isEmpty_cons,Bool.false_eq_true,if_false]
    repeat' split
    all_goals omega
 ·rw [shpPs_nil];exact Nat.le_refl _
 ·intro p ps hp hq
  rw [shpPs_cons,lenPs_cons]
  split
  ·omega
  ·rw [lenPs_cons];omega
 ·rw [shpCs_nil];exact Nat.le_refl _
 ·intro c cs hq hr
  rw [shpCs_cons,lenCs_cons,lenCs_cons]
  simp only
  omega
theorem valid_shp {ps:List Part} (h:validB ps=true):validB (shpPs ps)=true:=by
 have hw:=valid_wf h
 unfold validB at h⊢
 simp only [Bool.and_eq_true,decide_eq_true_eq] at h⊢
 obtain ⟨⟨h1,h2⟩,h3⟩:=h
 have hf:=formed_shp ps hw _ _ _ false h1
 refine ⟨⟨hf,?_⟩,?_⟩
 ·have g1:=names_grew (shpPs ps) []
  have g2:=names_grew ps []
  have:=nodup_sub (g1.2 List.nodup_nil) (b:=namesPs ps []) fun x hx=>by
   rw [g2.1];right
   rw [g1.1] at hx
   rcases hx with hx|hx
   ·cases hx
   ·exact nms_shp _ _ hx
  omega
 ·rw [<-text_len_eq _ _ _ _ hf]
  rw [<-text_len_eq _ _ _ _ h1] at h3
  have:=len_shp ps
  omega
theorem wt_shp (ps:List Part):wtPs (shpPs ps)<=wtPs ps:=by
 refine tree_Q (P:=fun p=>p.shp.wt<=p.wt) (Q:=fun ps=>wtPs (shpPs ps)<=wtPs ps) (R:=fun cs=>wtCs (shpCs cs)<=wtCs cs) ?_ ?_ ?_ ?_ ?_ ps
 ·intro p hr hq
  rw [Part.wt_eq,(shp_kind p).2.1,(shp_kind p).2.2.1,(shp_kind p).2.2.2,p.wt_eq,p.shp_eq]
  split<;>simp only<;>omega
 ·rw [shpPs_nil];exact Nat.le_refl _
 ·intro p ps hp hq
  rw [shpPs_cons,wtPs_cons]
  split
  ·omega
  ·rw [wtPs_cons];omega
 ·rw [shpCs_nil];exact Nat.le_refl _
 ·intro c cs hq hr
  rw [shpCs_cons,wtCs_cons,wtCs_cons]
  simp only
  omega
structure WfK (p:Part):Prop where
 bare:selB p.kind=true->p.text=[]/\p.style=[]
 nodup:selB p.kind=true->(p.cases.map (·.1)).Nodup
theorem formed_wfk (ps:List Part):∀d c prev,formedPs ps d c prev=true->allPs WfK ps:=by
 refine tree_Q (P:=fun p=>∀d c,p.formedB d c=true->p.all WfK)
  (Q:=fun ps=>∀d c prev,formedPs ps d c prev=true->allPs WfK ps)
  (R:=fun cs=>∀k d c keys,formedCs cs k d c keys=true->allCs WfK cs/\(cs.map (·.1)).Nodup/\∀x∈cs.map (·.1),x ∉ keys) ?_ ?_ ?_ ?_ ?_ ps
 ·intro p hr hq d c h
  rw [p.formedB_eq] at h
  rw [p.all_eq]
  cases h11:p.kind == 11 with
  | true=>
   have hs:selB p.kind=false:=by
    have:p.kind=11:=by simpa using h11
    rw [this];rfl
   rw [h11,if_pos rfl,Bool.and_eq_true] at h
   obtain ⟨h1,h2⟩:=h
   unfold elHead at h1
   simp at h1
   have hc:p.cases=[]:=by simpa using h1.2
   refine ⟨⟨fun hh=>(by rw [hs] at hh;cases hh),fun hh=>(by rw [hs] at hh;cases hh)⟩,?_,hq _ _ _ h2⟩
   rw [hc];simp only [allCs]
  | false=>
   rw [h11,if_neg (by simp)] at h
   cases hs:selB p.kind with
   | true=>
    rw [hs,if_pos rfl,Bool.and_eq_true] at h
    obtain ⟨h1,h2⟩:=h
    unfold selHead at h1
    simp at h1
    have hp:p.parts=[]:=by simpa using h1.1.1.2
    obtain ⟨a1,a2,_⟩:=hr _ _ _ _ h2
    refine ⟨⟨fun _=>⟨h1.1.1.1.1.2,h1.1.1.1.2⟩,fun _=>a2⟩,a1,?_⟩
    rw [hp];simp only [allPs]
   | false=>
    rw [hs,if_neg (by simp)] at h
    obtain ⟨f1,f2,f3⟩:=fields_cases (plain_fields h11 hs h)
    refine ⟨⟨fun hh=>(by rw [hs] at hh;cases hh),fun hh=>(by rw [hs] at hh;cases hh)⟩,?_,?_⟩
    ·rw [f1 hs];simp only [allCs]
    ·rw [f2 h11];simp only [allPs]
 ·intro d c prev _;simp only [allPs]
 ·intro p ps hp hq d c prev h
  rw [formedPs_cons,Bool.and_eq_true,Bool.and_eq_true] at h
  rw [allPs_cons]
  exact ⟨hp _ _ h.2.1,hq _ _ _ h.2.2⟩
 ·intro k d c keys h
  exact ⟨by simp only [allCs],List.nodup_nil,fun x hx=>(by cases hx)⟩
 ·intro x cs hq hr k d c keys h
  rw [formedCs_cons,Bool.and_eq_true,Bool.and_eq_true] at h
  obtain ⟨h0,h1,h2⟩:=h
  obtain ⟨a1,a2,a3⟩:=hr _ _ _ _ h2
  have hk:keys.contains x.1=false:=by
   cases hh:keys.contains x.1 with
   | false=>rfl
   | true=>rw [hh] at h0;simp at h0
  have hk2:x.1 ∉ keys:=by
   intro hm
   rw [List.contains_iff_mem.2 hm] at hk;cases hk
  rw [allCs_cons]
  refine ⟨⟨hq _ _ _ h1,a1⟩,?_,fun y hy=>?_⟩
  ·rw [List.map_cons,List.nodup_cons]
   refine ⟨fun hm=>a3 _ hm (by simp),a2⟩
  ·rw [List.map_cons] at hy
   rcases List.mem_cons.1 hy with rfl|hy
   ·exact hk2
   ·intro hm;exact a3 _ hy (by simp [hm])
theorem valid_wfk {ps:List Part} (h:validB ps=true):allPs WfK ps:=by
 unfold validB at h
 rw [Bool.and_eq_true,Bool.and_eq_true] at h
 exact formed_wfk ps _ _ _ h.1.1
theorem allB_mem {f:Int->Bool} {s:Bytes} (h:allB f s=true):∀c∈s,f c.toNat=true:=by
 induction s with
 | nil=>intro c hc;cases hc
 | cons x s ih=>
  rw [allB,Bool.and_eq_true] at h
  intro c hc
  rcases List.mem_cons.1 hc with rfl|hc
  ·exact h.1
  ·exact ih h.2 c hc
theorem nameB_ns {s:Bytes} (h:nameB s=true):(47:UInt8) ∉ s:=by
 cases s with
 | nil=>intro hm;cases hm
 | cons c r=>
  unfold nameB at h
  rw [Bool.and_eq_true] at h
  intro hm
  have:=allB_mem h.2 _ hm
  revert this;decide
theorem digits_ns {s:Bytes} (h:digitsB s=true):(47:UInt8) ∉ s:=by
 intro hm
 have:=List.all_eq_true.1 h _ hm
 revert this;decide
theorem numB_ns {s:Bytes} (h:numB s=true):(47:UInt8) ∉ s:=by
 unfold numB at h
 simp only [Bool.and_eq_true,Bool.not_eq_true',Bool.or_eq_false_iff,Bool.not_eq_false'] at h
 obtain ⟨⟨h1,h2⟩,_⟩:=h
 have hw:=digits_ns h1.1.2
 have hf:=digits_ns h2.2
 have hr:(47:UInt8) ∉ nRest s:=by
  rw [nRest_eq]
  intro hm
  rcases List.mem_append.1 hm with hm|hm
  ·exact hw hm
  ·unfold nFrac at hf
   cases hn:nRem s with
   | nil=>rw [hn] at hm;cases hm
   | cons c r=>
    rw [hn] at hm hf
    have hc:(c != 46)=false:=dropWhile_head (l:=nRest s) (t:=r) (p:=(· != 46)) hn
    have hc:c=46:=by simpa using hc
    rcases List.mem_cons.1 hm with hm|hm
    ·rw [hc] at hm;revert hm;decide
    ·exact hf hm
 unfold nRest at hr
 split at hr
 ·rename_i hneg
  cases s with
  | nil=>intro hm;cases hm
  | cons c r=>
   have hc:c=45:=by
    unfold nNeg at hneg
    split at hneg
    ·rename_i h;injection h
    ·cases hneg
   intro hm
   rcases List.mem_cons.1 hm with hm|hm
   ·rw [hc] at hm;revert hm;decide
   ·exact hr hm
 ·exact hr
theorem keyB_ns {k:Int} {s:Bytes} (h:keyB k s=true):(47:UInt8) ∉ s:=by
 unfold keyB at h
 split at h
 ·exact nameB_ns h
 ·rw [Bool.or_eq_true] at h
  rcases h with h|h
  ·unfold classB at h
   simp only [Bool.or_eq_true,beq_iff_eq] at h
   rcases h with ((((h|h)|h)|h)|h)|h<;>(subst h;decide)
  ·cases s with
   | nil=>intro hm;cases hm
   | cons c t=>
    rw [keyN,Bool.and_eq_true] at h
    have h1:(c.toNat:Int)=61:=by simpa using h.1
    intro hm
    rcases List.mem_cons.1 hm with hm|hm
    ·rw [<-hm] at h1;revert h1;decide
    ·exact numB_ns h.2 hm
theorem decN_eq (n:Nat):decN n=if n<10 then [UInt8.ofNat (48+n)] else decN (n / 10)++[UInt8.ofNat (48+n % 10)]:=by
 unfold decN
 rw [Lib.decDigits]
 split<;>rfl
theorem ofNat_toNat {n:Nat} (h:n<256):(UInt8.ofNat n).toNat=n:=by
 rw [UInt8.toNat_ofNat'];exact Nat.mod_eq_of_lt h
theorem decN_ns (n:Nat):(47:UInt8) ∉ decN n:=by
 induction n using Nat.strongRecOn with
 | ind n ih=>
  rw [decN_eq]
  have hd:∀m,m<10->(47:UInt8)≠UInt8.ofNat (48+m):=by
   intro m hm he
   have:=congrArg UInt8.toNat he
   rw [ofNat_toNat (by omega)] at this
   have h47:(47:UInt8).toNat=47:=rfl
   omega
  split
  ·rename_i h
   intro hm
   exact hd n h (List.mem_singleton.1 hm)
  ·rename_i h
   intro hm
   rcases List.mem_append.1 hm with hm|hm
   ·exact ih _ (by omega) hm
   ·exact hd _ (Nat.mod_lt _ (by decide)) (List.mem_singleton.1 hm)
theorem valN_snoc (s:Bytes) (c:UInt8) (d:Nat):valN d (s++[c])=10*valN d s+(c.toNat-48):=by
 unfold valN
 rw [List.foldl_append];rfl
theorem decN_val (n:Nat):valN 0 (decN n)=n:=by
 induction n using Nat.strongRecOn with
 | ind n ih=>
  rw [decN_eq]
  split
  ·rw [valN_cons,valN_nil,ofNat_toNat (by omega)];omega
  ·rw [valN_snoc,ih _ (by omega),ofNat_toNat (by omega)];omega
theorem decN_inj {a b:Nat} (h:decN a=decN b):a=b:=by rw [<-decN_val a,h,decN_val]
theorem cut47 {a c:Bytes} (ha:(47:UInt8) ∉ a) (hc:(47:UInt8) ∉ c) {b d:Bytes} (h:a++47::b=c++47::d):a=c:=by
 induction a generalizing c with
 | nil=>
  cases c with
  | nil=>rfl
  | cons x c=>injection h with h1 h2;exact absurd (by rw [h1];simp) hc
 | cons y a ih=>
  cases c with
  | nil=>injection h with h1 h2;exact absurd (by rw [h1];simp) ha
  | cons x c=>
   injection h with h1 h2
   rw [h1,ih (fun hm=>ha (by simp [hm])) (fun hm=>hc (by simp [hm])) h2]
theorem not47 {a c:Bytes} (ha:(47:UInt8) ∉ a) {d:Bytes}:a≠c++47::d:=fun h=>ha (by rw [h];simp)
def Tail (m n:Nat) (t:Bytes):Prop:=(t=[]/\n<=m)\/(∃r,t=47::r)/\n+1<=m
theorem paths_nodup (ps:List Part):allPs WfP ps->allPs WfK ps->∀pa n run,((lvsPs ps pa n run).map Prod.fst).Nodup/\∀x∈(lvsPs ps pa n run).map Prod.fst,∃m t,x=pa++(decN m++t)/\Tail m n t:=by
 refine tree_Q (P:=fun p=>p.all WfP->p.all WfK->∀pa,((p.lvs pa).map Prod.fst).Nodup/\∀x∈(p.lvs pa).map Prod.fst,∃t,x=pa++t)
  (Q:=fun ps=>allPs WfP ps->allPs WfK ps->∀pa n run,((lvsPs ps pa n run).map Prod.fst).Nodup/\∀x∈(lvsPs ps pa n run).map Prod.fst,∃m t,x=pa++(decN m++t)/\Tail m n t)
  (R:=fun cs=>allCs WfP cs->allCs WfK cs->(∀c∈cs,(47:UInt8) ∉ c.1)->(cs.map (·.1)).Nodup->∀pa,((lvsCs cs pa).map Prod.fst).Nodup/\∀x∈(lvsCs cs pa).map Prod.fst,∃k t,x=pa++(k++47::t)/\k∈cs.map (·.1)) ?_ ?_ ?_ ?_ ?_ ps
 ·intro p hr hq h1 h2 pa
  obtain ⟨w,hc,hp⟩:=(Part.all_eq _ _).1 h1
  obtain ⟨w',hc',hp'⟩:=(Part.all_eq _ _).1 h2
  rw [p.lvs_eq]
  cases hs:selB p.kind with
  | true=>
   simp only [if_true]
   obtain ⟨a1,a2⟩:=hr hc hc' (fun c hc=>keyB_ns (w.keys hs c hc)) (w'.nodup hs) pa
   exact ⟨a1,fun x hx=>by obtain ⟨k,t,h,_⟩:=a2 x hx;exact ⟨_,h⟩⟩
  | false=>
   simp only [Bool.false_eq_true,if_false]
   obtain ⟨a1,a2⟩:=hq hp hp' pa 0 []
   exact ⟨a1,fun x hx=>by obtain ⟨k,t,h,_⟩:=a2 x hx;exact ⟨_,h⟩⟩
 ·intro _ _ pa n run
  rw [lvsPs_nil]
  refine ⟨by simp,fun x hx=>?_⟩
  simp only [List.map_cons,List.map_nil,List.mem_singleton] at hx
  exact ⟨n,[],by rw [hx,List.append_nil],.inl ⟨rfl,Nat.le_refl _⟩⟩
 ·intro p ps hp hq h1 h2 pa n run
  rw [allPs_cons] at h1 h2
  rw [lvsPs_cons]
  split
  ·exact hq h1.2 h2.2 _ _ _
  ·obtain ⟨a1,a2⟩:=hp h1.1 h2.1 (pa++decN (n+1)++[47])
   obtain ⟨b1,b2⟩:=hq h1.2 h2.2 pa (n+1) []
   rw [List.map_cons,List.map_append]
   refine ⟨?_,fun x hx=>?_⟩
   ·rw [List.nodup_cons]
    refine ⟨fun hm=>?_,?_⟩
    ·rcases List.mem_append.1 hm with hm|hm
     ·obtain ⟨t,ht⟩:=a2 _ hm
      rw [List.append_assoc,List.append_assoc] at ht
      have ht:=List.append_cancel_left ht
      exact not47 (decN_ns n) (by simpa using ht)
     ·obtain ⟨m,t,ht,hT⟩:=b2 _ hm
      have ht:=List.append_cancel_left ht
      rcases hT with ⟨rfl,hT⟩|⟨⟨r,rfl⟩,hT⟩
      ·rw [List.append_nil] at ht
       have:=decN_inj ht;omega
      ·exact not47 (decN_ns n) ht
    ·rw [List.nodup_append]
     refine ⟨a1,b1,fun x hx y hy he=>?_⟩
     subst he
     obtain ⟨t,ht⟩:=a2 _ hx
     obtain ⟨m,t',ht',hT⟩:=b2 _ hy
     rw [ht,List.append_assoc,List.append_assoc] at ht'
     have ht':=List.append_cancel_left ht'
     rcases hT with ⟨rfl,hT⟩|⟨⟨r,rfl⟩,hT⟩
     ·rw [List.append_nil] at ht'
      exact not47 (decN_ns m) (by simpa using ht'.symm)
     ·have:=decN_inj (cut47 (decN_ns _) (decN_ns _) (by simpa using ht'));omega
   ·rcases List.mem_cons.1 hx with hx|hx
    ·exact ⟨n,[],by rw [hx,List.append_nil],.inl ⟨rfl,Nat.le_refl _⟩⟩
    ·rcases List.mem_append.1 hx with hx|hx
     ·obtain ⟨t,ht⟩:=a2 _ hx
      exact ⟨n+1,47::t,by rw [ht];simp,.inr ⟨⟨t,rfl⟩,Nat.le_refl _⟩⟩
     ·obtain ⟨m,t,ht,hT⟩:=b2 _ hx
      refine ⟨m,t,ht,?_⟩
      rcases hT with ⟨h,hT⟩|⟨h,hT⟩
      ·exact .inl ⟨h,by omega⟩
      ·exact .inr ⟨h,by omega⟩
 ·intro _ _ _ _ pa
  simp [lvsCs]
 ·intro c cs hq hr h1 h2 h3 h4 pa
  rw [allCs_cons] at h1 h2
  rw [List.map_cons,List.nodup_cons] at h4
  obtain ⟨a1,a2⟩:=hq h1.1 h2.1 (pa++c.1++[47]) 0 []
  obtain ⟨b1,b2⟩:=hr h1.2 h2.2 (fun x hx=>h3 x (by simp [hx])) h4.2 pa
  have hc:=h3 c (by simp)
  have ha:∀x∈(lvsPs c.2 (pa++c.1++[47]) 0 []).map Prod.fst,∃t,x=pa++(c.1++47::t):=fun x hx=>by
   obtain ⟨m,t,ht,_⟩:=a2 x hx
   exact ⟨decN m++t,by rw [ht];simp⟩
  rw [lvsCs_cons,List.map_append]
  refine ⟨?_,fun x hx=>?_⟩
  ·rw [List.nodup_append]
   refine ⟨a1,b1,fun x hx y hy he=>?_⟩
   subst he
   obtain ⟨t,ht⟩:=ha _ hx
   obtain ⟨k,t',ht',hk⟩:=b2 _ hy
   rw [ht] at ht'
   have ht':=List.append_cancel_left ht'
   obtain ⟨y,hy,rfl⟩:=List.mem_map.1 hk
   have:=cut47 hc (h3 y (by simp [hy])) ht'
   rw [this] at h4
   exact h4.1 hk
  ·rcases List.mem_append.1 hx with hx|hx
   ·obtain ⟨t,ht⟩:=ha _ hx
    exact ⟨c.1,t,ht,by simp⟩
   ·obtain ⟨k,t,ht,hk⟩:=b2 _ hx
    exact ⟨k,t,ht,by simp [hk]⟩
theorem shp_len (ps:List Part):(shpPs ps).length<=ps.length:=by
 induction ps with
 | nil=>rw [shpPs_nil];exact Nat.le_refl _
 | cons p ps ih=>rw [shpPs_cons];split<;>simp only [List.length_cons]<;>omega
theorem shp_fix {p:Part} {ps:List Part} (h:shpPs (p::ps)=p::ps):p.solid=false/\p.shp=p/\shpPs ps=ps:=by
 rw [shpPs_cons] at h
 cases hs:p.solid with
 | true=>
  rw [hs,if_pos rfl] at h
  have:=shp_len ps
  rw [h,List.length_cons] at this;omega
 | false=>
  rw [hs,if_neg (by simp)] at h
  injection h with h1 h2
  exact ⟨rfl,h1,h2⟩
def atP:List Leaf->Bytes->List Part
 | [],_=>[]
 | x::l,pa=>if x.1 == pa then x.2 else atP l pa
end Go.Ir
section
namespace Go.Ir
mutual
def Part.cnt:Part->Nat
 | ⟨k,_,_,_,cs,ps⟩=>if selB k then cntCs cs else 1+cntR ps
def cntR:List Part->Nat
 | []=>0
 | p::ps=>p.cnt+(1+cntR ps)
def cntCs:List (Bytes × List Part)->Nat
 | []=>0
 | (_,ps)::cs=>1+cntR ps+cntCs cs
end
def cntL (ps:List Part):Nat:=1+cntR ps
theorem Part.cnt_eq (p:Part):p.cnt=if selB p.kind then cntCs p.cases else cntL p.parts:=by cases p;simp only [Part.cnt,cntL]
theorem cntR_nil:cntR []=0:=by simp only [cntR]
theorem cntR_cons (p:Part) (ps:List Part):cntR (p::ps)=p.cnt+cntL ps:=by simp only [cntR,cntL]
theorem cntCs_nil:cntCs []=0:=by simp only [cntCs]
theorem cntCs_cons (c:Case) (cs:List Case):cntCs (c::cs)=cntL c.2+cntCs cs:=by obtain ⟨k,q⟩:=c;simp only [cntCs,cntL]
theorem bld_rest (ps:List Part):∀l,(bldL ps l).2=l.drop (cntL ps):=by
 refine tree_Q (P:=fun p=>∀l,(p.bld l).2=l.drop p.cnt) (Q:=fun ps=>∀l,(bldL ps l).2=l.drop (cntL ps)) (R:=fun cs=>∀l,(bldCs cs l).2=l.drop (cntCs cs)) ?_ ?_ ?_ ?_ ?_ ps
 ·intro p hr hq l
  rw [p.bld_eq,p.cnt_eq]
  split
  ·exact hr l
  ·exact hq l
 ·intro l;simp [bldL,bldR_nil,cntL,cntR_nil]
 ·intro p ps hp hq l
  unfold bldL
  rw [bldR_cons]
  simp only
  rw [hq,hp,List.drop_drop]
  unfold cntL
  rw [cntR_cons,<-List.drop_one,List.drop_drop]
  rfl
 ·intro l;rw [bldCs_nil,cntCs_nil];rfl
 ·intro c cs hq hr l
  rw [bldCs_cons,cntCs_cons]
  simp only
  rw [hr,hq,List.drop_drop]
theorem bldP_rest (p:Part) (l:Left):(p.bld l).2=l.drop p.cnt:=by
 rw [p.bld_eq,p.cnt_eq]
 split
 ·simp only
  induction p.cases generalizing l with
  | nil=>rw [bldCs_nil,cntCs_nil];rfl
  | cons c cs ih=>rw [bldCs_cons,cntCs_cons];simp only;rw [ih,bld_rest,List.drop_drop]
 ·exact bld_rest _ _
theorem cnt_lvs (ps:List Part):shpPs ps=ps->∀pa n,(lvsPs ps pa n []).length=cntL ps:=by
 refine tree_Q (P:=fun p=>p.shp=p->∀pa,(p.lvs pa).length=p.cnt) (Q:=fun ps=>shpPs ps=ps->∀pa n,(lvsPs ps pa n []).length=cntL ps) (R:=fun cs=>shpCs cs=cs->∀pa,(lvsCs cs pa).length=cntCs cs) ?_ ?_ ?_ ?_ ?_ ps
 ·intro p hr hq h pa
  rw [p.lvs_eq,p.cnt_eq]
  rw [p.shp_eq] at h
  split
  ·rename_i hs
   rw [if_pos hs] at h
   exact hr (congrArg Part.cases h) _
  ·rename_i hs
   rw [if_neg hs] at h
   exact hq (congrArg Part.parts h) _ _
 ·intro _ pa n;rw [lvsPs_nil];simp [cntL,cntR_nil]
 ·intro p ps hp hq h pa n
  obtain ⟨f1,f2,f3⟩:=shp_fix h
  rw [lvsPs_cons,f1]
  simp only [Bool.false_eq_true,if_false,List.length_cons,List.length_append]
  rw [hp f2,hq f3]
  unfold cntL
  rw [cntR_cons];unfold cntL;omega
 ·intro _ pa;simp [lvsCs,cntCs_nil]
 ·intro c cs hq hr h pa
  rw [shpCs_cons] at h
  injection h with h1 h2
  rw [lvsCs_cons,cntCs_cons,List.length_append,hq (congrArg Prod.snd h1),hr h2]
def wtLf (l:Left):Nat:=(l.map wtPs).sum
theorem wtLf_cons (x:List Part) (l:Left):wtLf (x::l)=wtPs x+wtLf l:=by simp [wtLf]
theorem wtLf_hd (l:Left):wtPs (l.headD [])+wtLf l.tail=wtLf l:=by
 cases l with
 | nil=>simp [wtLf,wtPs_nil]
 | cons x l=>simp [wtLf]
theorem bld_wt (ps:List Part):∀l,wtPs (bldL ps l).1+wtLf (bldL ps l).2<=wtPs ps+wtLf l:=by
 refine tree_Q (P:=fun p=>∀l,(p.bld l).1.wt+wtLf (p.bld l).2<=p.wt+wtLf l) (Q:=fun ps=>∀l,wtPs (bldL ps l).1+wtLf (bldL ps l).2<=wtPs ps+wtLf l) (R:=fun cs=>∀l,wtCs (bldCs cs l).1+wtLf (bldCs cs l).2<=wtCs cs+wtLf l) ?_ ?_ ?_ ?_ ?_ ps
 ·intro p hr hq l
  rw [p.bld_eq]
  split
  ·have:=hr l
   rw [Part.wt_eq,p.wt_eq];simp only;omega
  ·have:=hq l
   rw [Part.wt_eq,p.wt_eq];simp only;omega
 ·intro l
  have:=wtLf_hd l
  simp only [bldL,bldR_nil,List.append_nil,wtPs_nil]
  omega
 ·intro p ps hp hq l
  have h1:=wtLf_hd l
  have h2:=hp l.tail
  have h3:=hq (p.bld l.tail).2
  unfold bldL
  rw [bldR_cons]
  simp only
  rw [wtPs_app,wtPs_cons,wtPs_cons]
  omega
 ·intro l;rw [bldCs_nil];exact Nat.le_refl _
 ·intro c cs hq hr l
  have h1:=hq l
  have h2:=hr (bldL c.2 l).2
  rw [bldCs_cons,wtCs_cons,wtCs_cons]
  simp only
  omega
theorem bldP_wt (p:Part) (l:Left):(p.bld l).1.wt+wtLf (p.bld l).2<=p.wt+wtLf l:=by
 rw [p.bld_eq]
 split
 ·rw [Part.wt_eq,p.wt_eq]
  simp only
  have:∀(cs:List Case) l,wtCs (bldCs cs l).1+wtLf (bldCs cs l).2<=wtCs cs+wtLf l:=by
   intro cs
   induction cs with
   | nil=>intro l;rw [bldCs_nil];exact Nat.le_refl _
   | cons c cs ih=>
    intro l
    have h1:=bld_wt c.2 l
    have h2:=ih (bldL c.2 l).2
    rw [bldCs_cons,wtCs_cons,wtCs_cons]
    simp only
    omega
  have:=this p.cases l
  omega
 ·have:=bld_wt p.parts l
  rw [Part.wt_eq,p.wt_eq];simp only;omega
def eqLf (a b:List Leaf):Bool:=eqBy (fun x y=>x.1 == y.1&&eqPs x.2 y.2) a b
def eqPa (a b:List Leaf):Bool:=eqBy (fun x y=>x.1 == y.1) a b
theorem eqPa_iff (a:List Leaf):∀b,eqPa a b=true↔a.map Prod.fst=b.map Prod.fst:=by
 unfold eqPa
 induction a with
 | nil=>intro b;cases b<;>simp [eqBy]
 | cons x a ih=>intro b;cases b<;>simp [eqBy,ih]
theorem eqLf_iff (a:List Leaf):∀b,eqLf a b=true↔a=b:=by
 unfold eqLf
 induction a with
 | nil=>intro b;cases b<;>simp [eqBy]
 | cons x a ih=>
  intro b
  cases b with
  | nil=>simp [eqBy]
  | cons y b=>
   simp only [eqBy,Bool.and_eq_true,ih,eqPs_iff,beq_iff_eq,List.cons.injEq]
   constructor
   ·rintro ⟨⟨h1,h2⟩,h3⟩;exact ⟨Prod.ext h1 h2,h3⟩
   ·rintro ⟨h1,h3⟩;exact ⟨⟨by rw [h1],by rw [h1]⟩,h3⟩
def bldOk1 (ps:List Part) (l:List Leaf):Bool:=validP ps&&(eqPs (shpPs ps) ps&&eqPa (lvsPs ps [] 0 []) l)
def bldOut (ps:List Part) (l:List Leaf):List Part:=(bldL ps (l.map Prod.snd)).1
def bldOk2 (ps:List Part) (l:List Leaf):Bool:=validP (bldOut ps l)&&(eqPs (shpPs (bldOut ps l)) ps&&eqLf (lvsPs (bldOut ps l) [] 0 []) l)
def bldB (ps:List Part) (l:List Leaf):Bool:=bldOk1 ps l&&bldOk2 ps l
def bldV (ps:List Part) (l:List Leaf):List Part:=if bldB ps l then bldOut ps l else []
def bldE (ps:List Part) (l:List Leaf):Int:=if bldB ps l then 0 else 1
end Go.Ir
end
namespace Go.Ir
open Go.Proofs
variable {P : Program} {W0 : World} {nt n : Nat} {Q : Exit → St → Prop} {env : Env} {σ : Sto}
def f113_6:IC:=.seq (.ops [m1 10 1,o1 11 (.faddr (.t 2) 5),o1 12 (.load (.t 11) 1 false),o1 13 (.callvs (.t 10) [.t 12]),o1 14 (.faddr (.t 2) 5),o0 (.store (.t 14) (.t 13) 1)] [2,4] []) (.seq (.ops [o1 15 (.load (.t 2) 6 true),o0 (.store (.t 4) (.t 15) 6)] [4] []) .ret)
def f113_25:IC:=.ops [o1 26 (.faddr (.t 2) 4),o1 27 (.load (.t 26) 1 false),m1 28 5,m1 29 1,o1 30 (.faddr (.t 2) 4),o1 31 (.load (.t 30) 1 false),m1 32 5,o1 33 (.iaddr (.t 31) (.t 32) 77 2),o1 34 (.faddr (.t 33) 1),o1 35 (.load (.t 34) 1 false),⟨some 36,.callvs (.t 29) [.t 35],none,[.t 26]⟩,o1 37 (.iaddr (.t 27) (.t 28) 77 2),o1 38 (.faddr (.t 37) 1),o0 (.store (.t 38) (.t 36) 1)] [1,2,4,22,23] [[0,1],[4,5],[5,7],[6,7],[7,8],[8,9],[3,10],[5,7,8,9,10],[7,8,9,10],[9,10],[1,11],[2,11],[10,11],[11,12],[1,13],[5,13],[7,13],[9,13],[10,13],[11,12,13],[12,13]]
def f113_21:IC:=.seq (.block 1 (.seq (.ops [m1 25 23,m1 5 25] [1,2,4,5,22,23] []) f113_25)) (.ops [o1 39 (.bin .add (.t 23) (ci 1)),m1 23 39] [1,2,4,22,23] [])
def f113_17:IC:=.seq (.ops [o1 24 (.bin .lss (.t 23) (.t 22))] [1,2,4,22,23,24] []) (.seq (.cond (.t 24) .skip (.exit 0)) f113_21)
def f113_29:IC:=.ops [o1 40 (.load (.t 2) 6 true),o0 (.store (.t 4) (.t 40) 6)] [4] []
def f113_12:IC:=.seq (.seq (.ops [o1 20 (.faddr (.t 2) 4),o1 21 (.load (.t 20) 1 false),o1 22 (.lenL (.t 21)),o1 23 (.mv (ci 0))] [1,2,4,22,23] []) (.block 0 (.loop f113_17))) (.seq (.wk f113_29) .ret)
def f113_10:IC:=.seq (.ops [o1 16 (.faddr (.t 2) 4),o1 17 (.load (.t 16) 1 false),o1 18 (.calln 145 [.t 17]),o1 19 (.faddr (.t 2) 4),o0 (.store (.t 19) (.t 18) 1)] [1,2,4] []) f113_12
def f113_2:IC:=.seq (.seq (.ops [o1 6 (.faddr (.t 2) 0),o1 7 (.load (.t 6) 1 false),o1 8 (.call 43 [.t 7]),o1 9 (.not (.t 8))] [1,2,4,9] []) (.cond (.t 9) f113_6 .skip)) f113_10
def f113_0:IC:=.seq (.ops [o1 2 (.box (.t 0)),o1 4 (.alloc (.agg [(.i .i64 0),(.s []),(.s []),(.s []),.nil,.nil]))] [1,2,4] []) f113_2
@[push_cast]def f113R:List R:=[.c 4 6 true]
@[push_cast]def f113e:=aWv f113_6.eq_1<|aWv f113_25.eq_1<|aWv f113_21.eq_1<|aWv f113_17.eq_1<|aWv f113_29.eq_1<|aWv f113_12.eq_1<|aWv f113_10.eq_1<|aWv f113_2.eq_1<|aWu f113_0.eq_1
theorem f113ok:okFn Tryz.prog 113 41 f113_0 f113R=true:=by kernel_rfl
def f68_20:IC:=.ops [m1 15 3,o1 16 (.load (.t 5) 6 true),o1 17 (.calls 113 [.t 16,(.c (.fn 68 [] []))]),o1 18 (.msl false 75 6 [.t 17]),o1 19 (.app (.t 15) (.t 18) 75 6),m1 3 19] [3,6,7,8] []
def f68_17:IC:=.seq (.ops [o1 12 (.load (.t 5) 6 true),o1 13 (.call 50 [.t 12]),o1 14 (.not (.t 13))] [3,5,6,7,8,14] []) (.cond (.t 14) f68_20 .skip)
def f68_13:IC:=.seq (.block 1 (.seq (.ops [o1 10 (.iaddr (.t 6) (.t 8) 75 6),o1 11 (.load (.t 10) 6 true),o1 5 (.alloc (.agg [(.i .i64 0),(.s []),(.s []),(.s []),.nil,.nil])),o0 (.store (.t 5) (.t 11) 6)] [3,5,6,7,8] []) f68_17)) (.ops [o1 20 (.bin .add (.t 8) (ci 1)),m1 8 20] [3,6,7,8] [])
def f68_9:IC:=.seq (.ops [o1 9 (.bin .lss (.t 8) (.t 7))] [3,6,7,8,9] []) (.seq (.cond (.t 9) .skip (.exit 0)) f68_13)
def f68_4:IC:=.seq (.seq (.ops [m1 6 0,o1 7 (.lenL (.t 6)),o1 8 (.mv (ci 0))] [3,6,7,8] []) (.block 0 (.loop f68_9))) (.seq (.ops [m1 21 3,m1 2 21] [2] []) .ret)
def f68_0:IC:=.seq (.ops [o1 2 (.mv (.c .nil))] [0] []) (.seq (.ops [o1 3 (.mv (.c .nil))] [0,3] []) f68_4)
@[push_cast]def f68R:List R:=[.t 2]
@[push_cast]def f68e:=aWv f68_20.eq_1<|aWv f68_17.eq_1<|aWv f68_13.eq_1<|aWv f68_9.eq_1<|aWv f68_4.eq_1<|aWu f68_0.eq_1
theorem f68ok:okFn Tryz.prog 68 22 f68_0 f68R=true:=by kernel_rfl
def f31_2:IC:=.seq (.seq (.ops [m1 4 0,o1 5 (.call 15 [.t 4]),o1 6 (.not (.t 5))] [0,6] []) (.cond (.t 6) (.seq (.ops [o1 2 (.mv (.c .nil)),o1 3 (.mv (ci 1))] [2,3] []) .ret) .skip)) (.seq (.ops [m1 7 0,o1 8 (.call 68 [.t 7]),m1 2 8,o1 3 (.mv (ci 0))] [2,3] []) .ret)
def f31_0:IC:=.seq (.ops [o1 2 (.mv (.c .nil)),o1 3 (.mv (ci 0))] [0] []) f31_2
@[push_cast]def f31R:List R:=[.t 2,.t 3]
@[push_cast]def f31e:=aWv f31_2.eq_1<|aWu f31_0.eq_1
theorem f31ok:okFn Tryz.prog 31 9 f31_0 f31R=true:=by kernel_rfl
def f73_2:IC:=.seq (.ops [o1 5 (.faddr (.t 2) 0),o1 6 (.load (.t 5) 1 false),o1 7 (.faddr (.t 3) 0),o1 8 (.load (.t 7) 1 false),o1 9 (.bin .eql (.t 6) (.t 8)),m1 10 9,⟨some 11,.faddr (.t 2) 1,some (10,true),[]⟩,⟨some 12,.load (.t 11) 1 false,some (10,true),[]⟩,⟨some 13,.faddr (.t 3) 1,some (10,true),[]⟩,⟨some 14,.load (.t 13) 1 false,some (10,true),[]⟩,⟨some 15,.call 16 [.t 12,.t 14],some (10,true),[]⟩,o1 16 (.pick (.t 10) (.t 15) (.c (.b false))),m1 4 16] [4] []) .ret
def f73_0:IC:=.seq (.ops [o1 2 (.box (.t 0)),o1 3 (.box (.t 1)),o1 4 (.mv (.c (.b false)))] [2,3] []) f73_2
@[push_cast]def f73R:List R:=[.t 4]
@[push_cast]def f73e:=aWv f73_2.eq_1<|aWu f73_0.eq_1
theorem f73ok:okFn Tryz.prog 73 17 f73_0 f73R=true:=by kernel_rfl
def f71_2:IC:=.seq (.ops [o1 5 (.faddr (.t 2) 0),o1 6 (.load (.t 5) 1 false),o1 7 (.faddr (.t 3) 0),o1 8 (.load (.t 7) 1 false),o1 9 (.bin .eql (.t 6) (.t 8)),m1 4 9] [4] []) .ret
def f71_0:IC:=.seq (.ops [o1 2 (.box (.t 0)),o1 3 (.box (.t 1)),o1 4 (.mv (.c (.b false)))] [2,3] []) f71_2
@[push_cast]def f71R:List R:=[.t 4]
@[push_cast]def f71e:=aWv f71_2.eq_1<|aWu f71_0.eq_1
theorem f71ok:okFn Tryz.prog 71 10 f71_0 f71R=true:=by kernel_rfl
def f25_20:IC:=.seq (.seq (.ops [m1 31 8,o1 32 (.call 15 [.t 31]),o1 33 (.not (.t 32)),m1 34 33,⟨some 35,.mv (.t 8),some (34,false),[]⟩,⟨some 36,.call 68 [.t 35],some (34,false),[]⟩,⟨some 37,.mv (.t 0),some (34,false),[]⟩,⟨some 38,.call 16 [.t 36,.t 37],some (34,false),[]⟩,⟨some 39,.not (.t 38),some (34,false),[]⟩,o1 40 (.pick (.t 34) (.c (.b true)) (.t 39)),m1 41 40,⟨some 42,.mv (.t 8),some (41,false),[]⟩,⟨some 43,.call 69 [(.c .nil),.t 42,(.c (.s []))],some (41,false),[]⟩,⟨some 44,.mv (.t 1),some (41,false),[]⟩,⟨some 45,.calls 70 [.t 43,.t 44,(.c (.fn 73 [] []))],some (41,false),[]⟩,⟨some 46,.not (.t 45),some (41,false),[]⟩,o1 47 (.pick (.t 41) (.c (.b true)) (.t 46))] [8,47] []) (.cond (.t 47) (.seq (.ops [o1 4 (.mv (.c .nil)),o1 5 (.mv (ci 1))] [4,5] []) .ret) .skip)) (.seq (.ops [m1 48 8,m1 4 48,o1 5 (.mv (ci 0))] [4,5] []) .ret)
def f25_16:IC:=.seq (.ops [m1 25 1,o1 26 (.build [.nil] [(0,1,(.t 25))]),o1 27 (.box (.t 26)),m1 7 27] [0,1,7] []) (.seq (.ops [m1 28 7,m1 29 0,o1 30 (.calls 72 [.t 28,.t 29]),m1 8 30] [0,1,8] []) f25_20)
def f25_10:IC:=.seq (.seq (.ops [m1 21 6,m1 22 1,o1 23 (.calls 70 [.t 21,.t 22,(.c (.fn 71 [] []))]),o1 24 (.not (.t 23))] [0,1,24] []) (.cond (.t 24) (.seq (.ops [o1 4 (.mv (.c .nil)),o1 5 (.mv (ci 1))] [4,5] []) .ret) .skip)) f25_16
def f25_8:IC:=.seq (.ops [m1 19 0,o1 20 (.call 69 [(.c .nil),.t 19,(.c (.s []))]),m1 6 20] [0,1,6] []) f25_10
def f25_2:IC:=.seq (.seq (.ops [m1 9 0,o1 10 (.call 15 [.t 9]),o1 11 (.not (.t 10)),m1 12 11,⟨some 13,.mv (.t 0),some (12,false),[]⟩,⟨some 14,.call 68 [.t 13],some (12,false),[]⟩,⟨some 15,.mv (.t 0),some (12,false),[]⟩,⟨some 16,.call 16 [.t 14,.t 15],some (12,false),[]⟩,⟨some 17,.not (.t 16),some (12,false),[]⟩,o1 18 (.pick (.t 12) (.c (.b true)) (.t 17))] [0,1,18] []) (.cond (.t 18) (.seq (.ops [o1 4 (.mv (.c .nil)),o1 5 (.mv (ci 1))] [4,5] []) .ret) .skip)) f25_8
def f25_0:IC:=.seq (.ops [o1 4 (.mv (.c .nil)),o1 5 (.mv (ci 0))] [0,1] []) f25_2
@[push_cast]def f25R:List R:=[.t 4,.t 5]
@[push_cast]def f25e:=aWv f25_20.eq_1<|aWv f25_16.eq_1<|aWv f25_10.eq_1<|aWv f25_8.eq_1<|aWv f25_2.eq_1<|aWu f25_0.eq_1
theorem f25ok:okFn Tryz.prog 25 49 f25_0 f25R=true:=by kernel_rfl
def f33_13:IC:=.seq (.block 1 (.ops [m1 11 3,m1 12 0,m1 13 4,o1 14 (.iaddr (.t 12) (.t 13) 68 2),o1 15 (.load (.t 14) 2 true),o1 16 (.msl false 112 2 [.t 15]),o1 17 (.app (.t 11) (.t 16) 112 2),m1 3 17] [0,3,4] [])) (.ops [m1 9 4,o1 10 (.bin .add (.t 9) (ci 1)),m1 4 10] [0,3,4] [])
def f33_9:IC:=.seq (.seq (.ops [m1 5 4,m1 6 0,o1 7 (.lenL (.t 6)),o1 8 (.bin .lss (.t 5) (.t 7))] [0,3,4,8] []) (.cond (.t 8) .skip (.exit 0))) f33_13
def f33_4:IC:=.seq (.seq (.ops [o1 4 (.mv (ci 0))] [0,3,4] []) (.block 0 (.loop f33_9))) (.seq (.ops [m1 18 3,m1 2 18] [2] []) .ret)
def f33_0:IC:=.seq (.ops [o1 2 (.mv (.c .nil))] [0] []) (.seq (.ops [o1 3 (.mv (.c .nil))] [0,3] []) f33_4)
@[push_cast]def f33R:List R:=[.t 2]
@[push_cast]def f33e:=aWv f33_13.eq_1<|aWv f33_9.eq_1<|aWv f33_4.eq_1<|aWu f33_0.eq_1
theorem f33ok:okFn Tryz.prog 33 19 f33_0 f33R=true:=by kernel_rfl
def f32_16:IC:=.seq (.ops [m1 19 0,m1 20 5,o1 21 (.iaddr (.t 19) (.t 20) 112 2),o1 22 (.faddr (.t 21) 1),o1 23 (.load (.t 22) 1 false),m1 4 23] [4] []) .ret
def f32_11:IC:=.seq (.block 1 (.seq (.ops [m1 12 0,m1 13 5,o1 14 (.iaddr (.t 12) (.t 13) 112 2),o1 15 (.faddr (.t 14) 0),o1 16 (.load (.t 15) 1 false),m1 17 1,o1 18 (.bin .eql (.t 16) (.t 17))] [0,1,5,18] []) (.cond (.t 18) f32_16 .skip))) (.ops [m1 10 5,o1 11 (.bin .add (.t 10) (ci 1)),m1 5 11] [0,1,5] [])
def f32_7:IC:=.seq (.seq (.ops [m1 6 5,m1 7 0,o1 8 (.lenL (.t 7)),o1 9 (.bin .lss (.t 6) (.t 8))] [0,1,5,9] []) (.cond (.t 9) .skip (.exit 0))) f32_11
def f32_2:IC:=.seq (.seq (.ops [o1 5 (.mv (ci 0))] [0,1,5] []) (.block 0 (.loop f32_7))) (.seq (.ops [o1 4 (.mv (.c .nil))] [4] []) .ret)
def f32_0:IC:=.seq (.ops [o1 4 (.mv (.c .nil))] [0,1] []) f32_2
@[push_cast]def f32R:List R:=[.t 4]
@[push_cast]def f32e:=aWv f32_16.eq_1<|aWv f32_11.eq_1<|aWv f32_7.eq_1<|aWv f32_2.eq_1<|aWu f32_0.eq_1
theorem f32ok:okFn Tryz.prog 32 24 f32_0 f32R=true:=by kernel_rfl
def f34_17:IC:=.seq (.block 1 (.seq (.ops [m1 17 0,m1 18 5,o1 19 (.iaddr (.t 17) (.t 18) 112 2),o1 20 (.faddr (.t 19) 0),o1 21 (.load (.t 20) 1 false),m1 22 1,m1 23 5,o1 24 (.iaddr (.t 22) (.t 23) 112 2),o1 25 (.faddr (.t 24) 0),o1 26 (.load (.t 25) 1 false),o1 27 (.bin .neq (.t 21) (.t 26)),m1 28 27,⟨some 29,.mv (.t 0),some (28,false),[]⟩,⟨some 30,.mv (.t 5),some (28,false),[]⟩,⟨some 31,.iaddr (.t 29) (.t 30) 112 2,some (28,false),[]⟩,⟨some 32,.faddr (.t 31) 1,some (28,false),[]⟩,⟨some 33,.load (.t 32) 1 false,some (28,false),[]⟩,⟨some 34,.mv (.t 1),some (28,false),[]⟩,⟨some 35,.mv (.t 5),some (28,false),[]⟩,⟨some 36,.iaddr (.t 34) (.t 35) 112 2,some (28,false),[]⟩,⟨some 37,.faddr (.t 36) 1,some (28,false),[]⟩,⟨some 38,.load (.t 37) 1 false,some (28,false),[]⟩,⟨some 39,.call 28 [.t 33,.t 38],some (28,false),[]⟩,⟨some 40,.not (.t 39),some (28,false),[]⟩,o1 41 (.pick (.t 28) (.c (.b true)) (.t 40))] [0,1,5,41] [[0,2],[1,2],[2,3],[3,4],[5,7],[6,7],[7,8],[8,9],[4,10],[9,10],[10,11],[11,12],[11,13],[11,14],[12,14],[13,14],[11,15],[14,15],[11,16],[15,16],[11,17],[11,18],[11,19],[17,19],[18,19],[11,20],[19,20],[11,21],[20,21],[11,22],[16,22],[21,22],[11,23],[22,23],[11,24],[23,24]]) (.cond (.t 41) (.seq (.ops [o1 4 (.mv (.c (.b false)))] [4] []) .ret) .skip))) (.ops [m1 15 5,o1 16 (.bin .add (.t 15) (ci 1)),m1 5 16] [0,1,5] [])
def f34_13:IC:=.seq (.seq (.ops [m1 11 5,m1 12 0,o1 13 (.lenL (.t 12)),o1 14 (.bin .lss (.t 11) (.t 13))] [0,1,5,14] []) (.cond (.t 14) .skip (.exit 0))) f34_17
def f34_8:IC:=.seq (.seq (.ops [o1 5 (.mv (ci 0))] [0,1,5] []) (.block 0 (.loop f34_13))) (.seq (.ops [o1 4 (.mv (.c (.b true)))] [4] []) .ret)
def f34_2:IC:=.seq (.seq (.ops [m1 6 0,o1 7 (.lenL (.t 6)),m1 8 1,o1 9 (.lenL (.t 8)),o1 10 (.bin .neq (.t 7) (.t 9))] [0,1,10] []) (.cond (.t 10) (.seq (.ops [o1 4 (.mv (.c (.b false)))] [4] []) .ret) .skip)) f34_8
def f34_0:IC:=.seq (.ops [o1 4 (.mv (.c (.b false)))] [0,1] []) f34_2
@[push_cast]def f34R:List R:=[.t 4]
@[push_cast]def f34e:=aWv f34_17.eq_1<|aWv f34_13.eq_1<|aWv f34_8.eq_1<|aWv f34_2.eq_1<|aWu f34_0.eq_1
theorem f34ok:okFn Tryz.prog 34 42 f34_0 f34R=true:=by kernel_rfl
def f6_53:IC:=.seq (.block 3 (.seq (.ops [m1 132 5,m1 133 14,o1 134 (.iaddr (.t 132) (.t 133) 68 2),o1 135 (.faddr (.t 134) 0),o1 136 (.load (.t 135) 1 false),m1 137 5,m1 138 13,o1 139 (.iaddr (.t 137) (.t 138) 68 2),o1 140 (.faddr (.t 139) 0),o1 141 (.load (.t 140) 1 false),o1 142 (.bin .eql (.t 136) (.t 141))] [0,1,5,7,11,13,14,142] [[0,2],[1,2],[2,3],[3,4],[5,7],[6,7],[7,8],[8,9],[4,10],[9,10]]) (.cond (.t 142) (.seq (.ops [o1 4 (.mv (.c (.b false)))] [4] []) .ret) .skip))) (.ops [m1 130 14,o1 131 (.bin .add (.t 130) (ci 1)),m1 14 131] [0,1,5,7,11,13,14] [])
def f6_49:IC:=.seq (.seq (.ops [m1 127 14,m1 128 13,o1 129 (.bin .lss (.t 127) (.t 128))] [0,1,5,7,11,13,14,129] []) (.cond (.t 129) .skip (.exit 2))) f6_53
def f6_37:IC:=.seq (.block 1 (.seq (.seq (.ops [m1 93 11,m1 94 13,o1 95 (.iaddr (.t 93) (.t 94) 68 2),o1 96 (.faddr (.t 95) 0),o1 97 (.load (.t 96) 1 false),m1 98 5,m1 99 13,o1 100 (.iaddr (.t 98) (.t 99) 68 2),o1 101 (.faddr (.t 100) 0),o1 102 (.load (.t 101) 1 false),o1 103 (.bin .neq (.t 97) (.t 102)),m1 104 103,⟨some 105,.mv (.t 11),some (104,false),[]⟩,⟨some 106,.mv (.t 13),some (104,false),[]⟩,⟨some 107,.iaddr (.t 105) (.t 106) 68 2,some (104,false),[]⟩,⟨some 108,.faddr (.t 107) 1,some (104,false),[]⟩,⟨some 109,.load (.t 108) 1 false,some (104,false),[]⟩,⟨some 110,.lenL (.t 109),some (104,false),[]⟩,⟨some 111,.bin .gtr (.t 110) (ci 0),some (104,false),[]⟩,o1 112 (.pick (.t 104) (.c (.b true)) (.t 111)),m1 113 112,⟨some 114,.mv (.t 5),some (113,false),[]⟩,⟨some 115,.mv (.t 13),some (113,false),[]⟩,⟨some 116,.slL (.t 114) none (some (.t 115)) 2,some (113,false),[]⟩,⟨some 117,.call 33 [.t 116],some (113,false),[]⟩,⟨some 118,.mv (.t 5),some (113,false),[]⟩,⟨some 119,.mv (.t 13),some (113,false),[]⟩,⟨some 120,.iaddr (.t 118) (.t 119) 68 2,some (113,false),[]⟩,⟨some 121,.faddr (.t 120) 0,some (113,false),[]⟩,⟨some 122,.load (.t 121) 1 false,some (113,false),[]⟩,⟨some 123,.call 32 [.t 117,.t 122],some (113,false),[]⟩,⟨some 124,.lenL (.t 123),some (113,false),[]⟩,⟨some 125,.bin .gtr (.t 124) (ci 0),some (113,false),[]⟩,o1 126 (.pick (.t 113) (.c (.b true)) (.t 125))] [0,1,5,7,11,13,126] [[0,2],[1,2],[2,3],[3,4],[5,7],[6,7],[7,8],[8,9],[4,10],[9,10],[10,11],[11,12],[11,13],[11,14],[12,14],[13,14],[11,15],[14,15],[11,16],[15,16],[11,17],[16,17],[11,18],[17,18],[11,19],[18,19],[19,20],[20,21],[20,22],[20,23],[21,23],[22,23],[20,24],[23,24],[20,25],[20,26],[20,27],[25,27],[26,27],[20,28],[27,28],[20,29],[28,29],[20,30],[24,30],[29,30],[20,31],[30,31],[20,32],[31,32],[20,33],[32,33]]) (.cond (.t 126) (.seq (.ops [o1 4 (.mv (.c (.b false)))] [4] []) .ret) .skip)) (.seq (.ops [o1 14 (.mv (ci 0))] [0,1,5,7,11,13,14] []) (.block 2 (.loop f6_49))))) (.ops [m1 91 13,o1 92 (.bin .add (.t 91) (ci 1)),m1 13 92] [0,1,5,7,11,13] [])
def f6_33:IC:=.seq (.seq (.ops [m1 87 13,m1 88 5,o1 89 (.lenL (.t 88)),o1 90 (.bin .lss (.t 87) (.t 89))] [0,1,5,7,11,13,90] []) (.cond (.t 90) .skip (.exit 0))) f6_37
def f6_66:IC:=.seq (.ops [m1 153 16,o1 154 (.bin .eql (.t 153) (ci 0)),m1 155 154,⟨some 156,.mv (.t 18),some (155,true),[]⟩,⟨some 157,.bin .eql (.t 156) (ci 0),some (155,true),[]⟩,o1 158 (.pick (.t 155) (.t 157) (.c (.b false))),m1 159 158,⟨some 160,.mv (.t 7),some (159,true),[]⟩,⟨some 161,.mv (.t 17),some (159,true),[]⟩,⟨some 162,.call 28 [.t 160,.t 161],some (159,true),[]⟩,⟨some 163,.mv (.t 162),some (159,true),[]⟩,⟨some 164,.mv (.t 5),some (163,true),[]⟩,⟨some 165,.call 33 [.t 164],some (163,true),[]⟩,⟨some 166,.mv (.t 15),some (163,true),[]⟩,⟨some 167,.call 33 [.t 166],some (163,true),[]⟩,⟨some 168,.call 34 [.t 165,.t 167],some (163,true),[]⟩,⟨some 169,.pick (.t 163) (.t 168) (.c (.b false)),some (159,true),[]⟩,⟨some 170,.mv (.t 0),some (159,true),[]⟩,⟨some 171,.mv (.t 1),some (159,true),[]⟩,⟨some 172,.call 28 [.t 170,.t 171],some (159,true),[]⟩,⟨some 173,.eqb false (.t 169) (.t 172),some (159,true),[]⟩,o1 174 (.pick (.t 159) (.t 173) (.c (.b false))),m1 4 174] [4] []) .ret
def f6_64:IC:=.seq (.ops [m1 149 1,o1 150 (.call 31 [.t 149]),m1 148 150,o1 151 (.ext (.t 148) 0),o1 152 (.ext (.t 148) 1),m1 17 151,m1 18 152] [0,1,5,7,15,16,17,18] []) f6_66
def f6_62:IC:=.seq (.ops [m1 144 1,o1 145 (.call 30 [.t 144]),m1 143 145,o1 146 (.ext (.t 143) 0),o1 147 (.ext (.t 143) 1),m1 15 146,m1 16 147] [0,1,5,7,15,16] []) f6_64
def f6_22:IC:=.seq (.seq (.ops [m1 60 6,o1 61 (.bin .neq (.t 60) (ci 0)),m1 62 61,⟨some 63,.mv (.t 8),some (62,false),[]⟩,⟨some 64,.bin .neq (.t 63) (ci 0),some (62,false),[]⟩,o1 65 (.pick (.t 62) (.c (.b true)) (.t 64)),m1 66 65,⟨some 67,.mv (.t 10),some (66,false),[]⟩,⟨some 68,.bin .neq (.t 67) (ci 0),some (66,false),[]⟩,o1 69 (.pick (.t 66) (.c (.b true)) (.t 68)),m1 70 69,⟨some 71,.mv (.t 12),some (70,false),[]⟩,⟨some 72,.bin .neq (.t 71) (ci 0),some (70,false),[]⟩,o1 73 (.pick (.t 70) (.c (.b true)) (.t 72)),m1 74 73,⟨some 75,.mv (.t 9),some (74,false),[]⟩,⟨some 76,.mv (.t 0),some (74,false),[]⟩,⟨some 77,.call 28 [.t 75,.t 76],some (74,false),[]⟩,⟨some 78,.not (.t 77),some (74,false),[]⟩,o1 79 (.pick (.t 74) (.c (.b true)) (.t 78)),m1 80 79,⟨some 81,.mv (.t 11),some (80,false),[]⟩,⟨some 82,.lenL (.t 81),some (80,false),[]⟩,⟨some 83,.mv (.t 5),some (80,false),[]⟩,⟨some 84,.lenL (.t 83),some (80,false),[]⟩,⟨some 85,.bin .neq (.t 82) (.t 84),some (80,false),[]⟩,o1 86 (.pick (.t 80) (.c (.b true)) (.t 85))] [0,1,5,7,11,86] []) (.cond (.t 86) (.seq (.ops [o1 4 (.mv (.c (.b false)))] [4] []) .ret) .skip)) (.seq (.seq (.ops [o1 13 (.mv (ci 0))] [0,1,5,7,11,13] []) (.block 0 (.loop f6_33))) f6_62)
def f6_20:IC:=.seq (.ops [m1 56 7,o1 57 (.call 30 [.t 56]),m1 55 57,o1 58 (.ext (.t 55) 0),o1 59 (.ext (.t 55) 1),m1 11 58,m1 12 59] [0,1,5,6,7,8,9,10,11,12] []) f6_22
def f6_18:IC:=.seq (.ops [m1 50 7,m1 51 5,o1 52 (.call 25 [.t 50,.t 51]),m1 49 52,o1 53 (.ext (.t 49) 0),o1 54 (.ext (.t 49) 1),m1 9 53,m1 10 54] [0,1,5,6,7,8,9,10] []) f6_20
def f6_16:IC:=.seq (.ops [m1 45 0,o1 46 (.call 31 [.t 45]),m1 44 46,o1 47 (.ext (.t 44) 0),o1 48 (.ext (.t 44) 1),m1 7 47,m1 8 48] [0,1,5,6,7,8] []) f6_18
def f6_14:IC:=.seq (.ops [m1 40 0,o1 41 (.call 30 [.t 40]),m1 39 41,o1 42 (.ext (.t 39) 0),o1 43 (.ext (.t 39) 1),m1 5 42,m1 6 43] [0,1,5,6] []) f6_16
def f6_8:IC:=.seq (.seq (.ops [m1 21 0,o1 22 (.call 10 [.t 21]),o1 23 (.not (.t 22)),m1 24 23,⟨some 25,.mv (.t 1),some (24,false),[]⟩,⟨some 26,.call 10 [.t 25],some (24,false),[]⟩,⟨some 27,.not (.t 26),some (24,false),[]⟩,o1 28 (.pick (.t 24) (.c (.b true)) (.t 27)),m1 29 28,⟨some 30,.mv (.t 0),some (29,false),[]⟩,⟨some 31,.call 29 [.t 30],some (29,false),[]⟩,⟨some 32,.not (.t 31),some (29,false),[]⟩,o1 33 (.pick (.t 29) (.c (.b true)) (.t 32)),m1 34 33,⟨some 35,.mv (.t 1),some (34,false),[]⟩,⟨some 36,.call 29 [.t 35],some (34,false),[]⟩,⟨some 37,.not (.t 36),some (34,false),[]⟩,o1 38 (.pick (.t 34) (.c (.b true)) (.t 37))] [0,1,38] []) (.cond (.t 38) (.seq (.ops [o1 4 (.mv (.c (.b true)))] [4] []) .ret) .skip)) f6_14
def f6_2:IC:=.seq (.seq (.ops [o1 19 (.call 8 []),o1 20 (.not (.t 19))] [0,1,20] []) (.cond (.t 20) (.seq (.ops [o1 4 (.mv (.c (.b false)))] [4] []) .ret) .skip)) f6_8
def f6_0:IC:=.seq (.ops [o1 4 (.mv (.c (.b false)))] [0,1] []) f6_2
@[push_cast]def f6R:List R:=[.t 4]
@[push_cast]def f6e:=aWv f6_53.eq_1<|aWv f6_49.eq_1<|aWv f6_37.eq_1<|aWv f6_33.eq_1<|aWv f6_66.eq_1<|aWv f6_64.eq_1<|aWv f6_62.eq_1<|aWv f6_22.eq_1<|aWv f6_20.eq_1<|aWv f6_18.eq_1<|aWv f6_16.eq_1<|aWv f6_14.eq_1<|aWv f6_8.eq_1<|aWv f6_2.eq_1<|aWu f6_0.eq_1
theorem f6ok:okFn Tryz.prog 6 175 f6_0 f6R=true:=by kernel_rfl
def f118_6:IC:=.seq (.ops [o1 18 (.faddr (.t 3) 1),o1 19 (.load (.t 18) 1 false),o1 20 (.calln 115 [.t 19]),m1 2 20] [2] []) .ret
def f118_4:IC:=.seq (.ops [m1 10 0,m1 11 0,o1 12 (.nilck (.t 11)),o1 13 (.faddr (.t 12) 0),o1 14 (.load (.t 13) 1 false),o1 15 (.slL (.t 14) (some (ci 1)) none 2),o1 16 (.nilck (.t 10)),o1 17 (.faddr (.t 16) 0),o0 (.store (.t 17) (.t 15) 1)] [3] []) f118_6
def f118_2:IC:=.seq (.ops [m1 4 0,o1 5 (.nilck (.t 4)),o1 6 (.faddr (.t 5) 0),o1 7 (.load (.t 6) 1 false),o1 8 (.iaddr (.t 7) (ci 0) 68 2),o1 9 (.load (.t 8) 2 true),o1 3 (.alloc (.agg [(.s []),.nil])),o0 (.store (.t 3) (.t 9) 2)] [0,3] []) f118_4
def f118_0:IC:=.seq (.ops [o1 2 (.mv (.c .nil))] [0] []) f118_2
@[push_cast]def f118R:List R:=[.t 2]
@[push_cast]def f118e:=aWv f118_6.eq_1<|aWv f118_4.eq_1<|aWv f118_2.eq_1<|aWu f118_0.eq_1
theorem f118ok:okFn Tryz.prog 118 21 f118_0 f118R=true:=by kernel_rfl
def f72_19:IC:=.ops [m1 23 5,m1 24 0,o1 25 (.calls 118 [.t 24]),o1 26 (.app (.t 23) (.t 25) 75 6),m1 5 26] [0,5,10,11,12] []
def f72_17:IC:=.seq (.ops [m1 16 5,o1 17 (.load (.t 7) 6 true),m1 18 0,o1 19 (.mkfn 72 [.t 18] []),o1 20 (.calls 113 [.t 17,.t 19]),o1 21 (.msl false 75 6 [.t 20]),o1 22 (.app (.t 16) (.t 21) 75 6),m1 5 22] [0,5,10,11,12] []) f72_19
def f72_13:IC:=.seq (.block 1 (.seq (.ops [o1 14 (.iaddr (.t 10) (.t 12) 75 6),o1 15 (.load (.t 14) 6 true),o1 7 (.alloc (.agg [(.i .i64 0),(.s []),(.s []),(.s []),.nil,.nil])),o0 (.store (.t 7) (.t 15) 6)] [0,5,7,10,11,12] []) f72_17)) (.ops [o1 27 (.bin .add (.t 12) (ci 1)),m1 12 27] [0,5,10,11,12] [])
def f72_9:IC:=.seq (.ops [o1 13 (.bin .lss (.t 12) (.t 11))] [0,5,10,11,12,13] []) (.seq (.cond (.t 13) .skip (.exit 0)) f72_13)
def f72_4:IC:=.seq (.seq (.ops [m1 10 1,o1 11 (.lenL (.t 10)),o1 12 (.mv (ci 0))] [0,5,10,11,12] []) (.block 0 (.loop f72_9))) (.seq (.ops [m1 28 5,m1 4 28] [4] []) .ret)
def f72_0:IC:=.seq (.ops [o1 4 (.mv (.c .nil))] [0,1] []) (.seq (.ops [m1 8 0,o1 9 (.calln 118 [.t 8]),m1 5 9] [0,1,5] []) f72_4)
@[push_cast]def f72R:List R:=[.t 4]
@[push_cast]def f72e:=aWv f72_19.eq_1<|aWv f72_17.eq_1<|aWv f72_13.eq_1<|aWv f72_9.eq_1<|aWv f72_4.eq_1<|aWu f72_0.eq_1
theorem f72ok:okFn Tryz.prog 72 29 f72_0 f72R=true:=by kernel_rfl
end Go.Ir
namespace Go.Ir
open Go.Proofs
variable (W0 : World)
theorem over_one {x:Id} {X:Ent} {σo σ:Sto} (h:∀p∈σ,p.1≠x):over [(x,X)] σo ((x,X)::σ)=σo++σ:=by
 have:List.filter (fun p:Id × Ent=>(lk [(x,X)] p.1).isNone) σ=σ:=by
  rw [List.filter_eq_self]
  intro p hp
  simp [lk,Ne.symm (h p hp)]
 unfold over
 rw [List.filter_cons_of_neg (by simp [lk]),this]
set_option maxHeartbeats 4000000 in
theorem c_withinS (p:Part) (hw:p.wt<=2^24) (hf:∀q,wtPs q<p.wt->RetS Tryz.prog W0 68 [.sl (q.map Part.enc)] [] (.sl ((shpPs q).map Part.enc)) []) :
  RetS Tryz.prog W0 113 [p.v,.fn 68 [] []] [] p.shp.v []:=by
 have hpw:=p.wt_eq
 have hsel:=c_sSel W0 p.kind
 have hlc:=len_wtCs p.cases
 have hcl:=c_cloneC W0 p.cases (by omega)
 have hpp:=hf p.parts (by omega)
 generalize hS:p.shp.v=S
 rw [p.shp_eq] at hS
 unfold Part.v at *
 refine fn_retW (vs:=[S]) f113ok (by simp) (by simp) fun n0 hn0=>?_
 clear hn0
 cases hs:selB p.kind with
 | false=>
  rw [hs] at hsel hS
  simp only [bq,if_true,if_false,Int.reduceBEq,reduceCtorEq] at hS
  subst hS
  simp only [push_cast,seval,reduceEqDiff]
  repeat' (first|(((first|apply condU_s|apply gdU_t|apply gdU_f)<;>intro _h)<;>simp only [push_cast,seval,reduceEqDiff,_h])|(refine c_call (by exact hsel) ?_;simp only [push_cast,seval,reduceEqDiff])|intro _)
  refine c_callsq hpp ?_
  simp only [push_cast,seval,reduceEqDiff]
  intros
  refine finW_rets ?_
  simp [push_cast,get]
 | true=>
  rw [hs] at hsel hS
  simp only [bq,if_true,if_false,Int.reduceBEq,reduceCtorEq] at hS
  have hTC:TCs=77:=rfl
  simp only [push_cast,seval,reduceEqDiff,List.length_map]
  repeat' (first|(((first|apply condU_s|apply gdU_t|apply gdU_f)<;>intro _h)<;>simp only [push_cast,seval,reduceEqDiff,_h,List.length_map])|(refine c_call (by exact hsel) ?_;simp only [push_cast,seval,reduceEqDiff,List.length_map])|intro _)
  refine c_calln hcl (fun i e h=>by simp [lk] at h) ?_
  rw [over_nil]
  simp only [push_cast,seval,reduceEqDiff,List.length_map]
  intro k1 k2
  rename_i b1 b2
  have hlt:n0<n0+1+b1+1+b2/\n0+1+b1+1+b2<n0+1+b1+1+b2+1+k1+1+k2:=by omega
  generalize n0+1+b1+1+b2+1+k1+1+k2=n1 at *
  generalize n0+1+b1+1+b2=c0 at *
  obtain ⟨hc0,hn1⟩:=hlt
  have e1:∀q j:Nat,((c0,j)=(n0,q))=False:=fun q j=>eq_false fun he=>by injection he with h1 h2;omega
  have e1':∀q j:Nat,((n0,q)=(c0,j))=False:=fun q j=>eq_false fun he=>of_eq_false (e1 q j) he.symm
  refine aWP_loopW p.cases.length (Inv:=fun m st=>∃dl cr n,dl++shpCs cr=shpCs p.cases/\m=cr.length/\dl.length+cr.length=p.cases.length/\(∀c∈cr,c∈p.cases)/\st=⟨[(1,.fn 68 [] []),(2,.ref (n0,2) 0),(4,.ref (n0,4) 0),(22,.i .i64 p.cases.length),(23,.i .i64 dl.length)],[((c0,18),.arr TCs 2 ((dl++cr).map Case.enc)),((n0,4),.box (.agg [.i .i64 0,.s [],.s [],.s [],.nil,.nil])),((n0,2),.box (.agg [.i .i64 p.kind,.s p.text,.s p.name,.s p.style,.arr (c0,18),.sl (p.parts.map Part.enc)]))],n⟩) ⟨_,StLe.refl,[],p.cases,_,rfl,rfl,by simp,fun _ h=>h,rfl⟩ ?_
  rintro m _ ⟨dl,cr,n,hz,rfl,hll,hmem,rfl⟩
  cases cr with
  | nil=>
   have hlt0:decide ((dl.length:Int)<(p.cases.length:Int))=false:=by rw [<-hll];simp
   rw [shpCs_nil,List.append_nil] at hz
   subst hz
   rw [List.append_nil]
   simp only [push_cast,seval,reduceEqDiff,hlt0,e1,e1']
   intros
   refine wkW_i (frz_boxM (e:=TCs) (sz:=2) (rid:=(n0,2)) (kid:=(c0,18)) (A:=[.i .i64 p.kind,.s p.text,.s p.name,.s p.style]) (B:=[.sl (p.parts.map Part.enc)]) (es:=(shpCs p.cases).map Case.enc) (τ:=[((n0,4),.box (.agg [.i .i64 0,.s [],.s [],.s [],.nil,.nil]))]) (fun he=>of_eq_false (e1' _ _) he) (by simp [lk,e1]) (by simp [lk]) (fun i e' h=>?_) (by simp [lk]) (okCe _) (fun s=>.inl rfl) (Nat.le_refl _)) ?_
   ·simp only [lk] at h
    split at h
    ·rename_i he;subst he;cases h
     exact ⟨by simp [lk,e1],fun h=>of_eq_false (e1' _ _) h⟩
    ·cases h
   subst hS
   simp only [push_cast,seval,reduceEqDiff,List.cons_append,List.nil_append]
   intros
   refine finW_rets ?_
   simp [push_cast,get]
  | cons c cr=>
   have hlt0:decide ((dl.length:Int)<(p.cases.length:Int))=true:=by rw [<-hll];simp;omega
   have hcb:dl.length<(dl++c::cr).length:=by simp
   have hcw:=wtCs_mem (hmem c (by simp))
   have hrc:=hf c.2 (by omega)
   have hget:((dl++c::cr).map Case.enc)[dl.length]? = some (.agg [.s c.1,.sl (c.2.map Part.enc)]):=by
    rw [List.getElem?_map,List.getElem?_append_right (by simp)];simp [Case.enc_eq]
   have hset:((dl++c::cr).map Case.enc).set dl.length (.agg [.s c.1,.sl ((shpPs c.2).map Part.enc)])=((dl++[(c.1,shpPs c.2)])++cr).map Case.enc:=by
    simp [List.set_append,Case.enc_eq]
   rw [shpCs_cons] at hz
   simp only [push_cast,seval,reduceEqDiff,hlt0,hget,hset,if_pos hcb,wrap_zip (c.1,shpPs c.2) (done:=dl) (by omega),List.length_map,TCs,e1,e1']
   intros
   refine c_callsAq hrc ?_
   simp only [push_cast,seval,reduceEqDiff,hlt0,hget,hset,if_pos hcb,wrap_zip (c.1,shpPs c.2) (done:=dl) (by omega),List.length_map,TCs,e1,e1']
   intros
   exact ⟨_,_,Nat.lt_succ_self _,StLe.refl,dl++[(c.1,shpPs c.2)],cr,_,by rw [<-hz];simp,rfl,by rw [<-hll];simp;omega,fun x hx=>hmem x (by simp [hx]),rfl⟩
set_option maxHeartbeats 4000000 in
theorem c_shape:∀(N:Nat) (ps:List Part),wtPs ps<N->wtPs ps<=2^24->RetS Tryz.prog W0 68 [.sl (ps.map Part.enc)] [] (.sl ((shpPs ps).map Part.enc)) []:=by
 intro N
 induction N with
 | zero=>intro ps h;omega
 | succ N ih=>
 intro ps hN hw0
 have hlen:=len_wtPs ps
 generalize hS:shpPs ps=S
 refine fn_retW (vs:=[.sl (S.map Part.enc)]) f68ok (by simp) (by simp) fun n0 hn0=>?_
 clear hn0
 simp only [push_cast,seval,reduceEqDiff]
 intro k1 k2 k3
 refine aWP_loopW ps.length (Inv:=fun m st=>∃done rest n id o,ps=done++rest/\m=rest.length/\o++shpPs rest=S/\o.length<=done.length/\id.1<n/\st=⟨[(3,.arr id),(6,.sl (ps.map Part.enc)),(7,.i .i64 ps.length),(8,.i .i64 done.length)],[(id,.arr TPt 6 (o.map Part.enc))],n⟩) ⟨_,(StLe.own (s:=3) (e:=TPt) (sz:=6) (k:=99) rfl).trans (StLe.envD (fun t=>?_) (Nat.le_refl _)),[],ps,_,_,[],rfl,rfl,hS,by simp,?_,rfl⟩ ?_
 ·left
  by_cases h3:3=t
  ·subst h3;rfl
  ·simp [get,h3]
 ·simp
 clear hS
 rintro m _ ⟨done,rest,n,id,o,hz,rfl,hd,hol,hin,rfl⟩
 cases rest with
 | nil=>
  simp only [List.append_nil] at hz
  subst hz
  rw [shpPs_nil,List.append_nil] at hd
  subst hd
  simp only [push_cast,seval,reduceEqDiff]
  intros
  exact finW_frz (e:=TPt) (sz:=6) rfl (okPt _) (by simp [lk])
 | cons p rest=>
  have hbd:=zip_bd hz
  have hwp:=wtPs_mem (ps:=ps) (p:=p) (by rw [hz];simp)
  have hso:=c_solid W0 p (by omega)
  have hwi:=c_withinS W0 p (by omega) (fun q hq=>ih q (by omega) (by omega))
  have fxi:∀k j,((n+1+k,j)=id)=False:=fun k j=>eq_false fun he=>by rw [<-he] at hin;simp at hin;omega
  have fix:∀k j,(id=(n+1+k,j))=False:=fun k j=>eq_false fun he=>of_eq_false (fxi k j) he.symm
  have hll:o.length+1<=LLim:=by unfold LLim;omega
  rw [shpPs_cons] at hd
  unfold Part.v at hso hwi
  cases hs:p.solid with
  | true=>
   rw [hs] at hso hd
   simp only [bq,if_true,if_false,Int.reduceBEq,reduceCtorEq] at hd
   simp only [push_cast,seval,reduceEqDiff,hz,wrap_zip p (done:=done) (by omega),fix,fxi,List.length_map]
   repeat' (first|(((first|apply condU_s|apply gdU_t|apply gdU_f)<;>intro _h)<;>simp only [push_cast,seval,reduceEqDiff,_h,hz,wrap_zip p (done:=done) (by omega),fix,fxi,List.length_map])|(refine c_call (by exact hso) ?_;simp only [push_cast,seval,reduceEqDiff,hz,wrap_zip p (done:=done) (by omega),fix,fxi,List.length_map])|intro _)
   exact ⟨_,_,Nat.lt_succ_self _,StLe.drop1 (by simp [lk,fxi,fix]) (Nat.le_refl _),done++[p],rest,_,id,o,by simp,rfl,hd,by simp;omega,by omega,rfl⟩
  | false=>
   rw [hs] at hso hd
   simp only [bq,if_true,if_false,Int.reduceBEq,reduceCtorEq] at hd
   have hps:((o++[p.shp]).map Part.enc)=o.map Part.enc++[.agg [.i .i64 p.shp.kind,.s p.shp.text,.s p.shp.name,.s p.shp.style,.sl (p.shp.cases.map Case.enc),.sl (p.shp.parts.map Part.enc)]]:=by simp [Part.enc_eq]
   generalize p.shp=P' at *
   simp only [push_cast,seval,reduceEqDiff,hz,wrap_zip p (done:=done) (by omega),fix,fxi,List.length_map]
   repeat' (first|(((first|apply condU_s|apply gdU_t|apply gdU_f)<;>intro _h)<;>simp only [push_cast,seval,reduceEqDiff,_h,hz,wrap_zip p (done:=done) (by omega),fix,fxi,List.length_map])|(refine c_call (by exact hso) ?_;simp only [push_cast,seval,reduceEqDiff,hz,wrap_zip p (done:=done) (by omega),fix,fxi,List.length_map])|intro _)
   refine c_callsq hwi ?_
   simp only [push_cast,seval,reduceEqDiff,hz,wrap_zip p (done:=done) (by omega),fix,fxi,List.length_map,<-hps,eq_true hll,TPt]
   intros
   exact ⟨_,_,Nat.lt_succ_self _,StLe.drop (fun i e h=>lk_app_left (τ:=[_]) h) (Nat.le_refl _),done++[p],rest,_,_,o++[P'],by simp,rfl,by rw [<-hd];simp,by simp;omega,by (try simp);omega,rfl⟩
theorem c_Shape (ps:List Part) (hw:wtPs ps<=2^24) (hv:validP ps=true):RetS Tryz.prog W0 31 [.sl (ps.map Part.enc)] [] (.tup [.sl ((shpPs ps).map Part.enc),.i .i64 0]) []:=by
 have hva:=c_Valid W0 ps hw
 rw [hv] at hva
 have hsh:=c_shape W0 _ ps (Nat.lt_succ_self _) hw
 refine fn_retW (vs:=[.sl ((shpPs ps).map Part.enc),.i .i64 0]) f31ok (by simp) (by simp) fun n0 hn0=>?_
 clear hn0
 simp only [push_cast,seval,reduceEqDiff]
 repeat' (first|(((first|apply condU_s|apply gdU_t|apply gdU_f)<;>intro _h)<;>simp only [push_cast,seval,reduceEqDiff,_h])|((first|refine c_call (by exact hva) ?_|refine c_call (by exact hsh) ?_);simp only [push_cast,seval,reduceEqDiff])|intro _)
 refine finW_rets ?_
 simp [push_cast,get]
def bx (l:List Leaf):Ent:=.box (.agg [.sl (l.map leafV)])
theorem finW_retsS {W0:World} {nt n:Nat} {rs:List R} {vs:List V} {env:Env} {σ σ':Sto} (h:ResOks ⟨env,σ,n⟩ rs vs) (hs:∀i e,lk σ' i=some e->lk σ i=some e):FinW W0 nt rs vs σ' .ret ⟨env,σ,n⟩:=
 ⟨_,StLe.refl,h,hs⟩
theorem finNW_S {W0:World} {nt n s:Nat} {env:Env} {σ σ':Sto} {id:Id} {x:Ent} (hs:get env s = .arr id) (hl:lk σ id=some x) (h':lk σ' id=none) (hσ:∀i e,lk σ' i=some e->lk σ i=some e):FinNW W0 nt s x σ' .ret ⟨env,σ,n⟩:=
 ⟨_,StLe.refl,id,hs,hl,h',hσ⟩
theorem lk_sing {b:Id} {E e:Ent} {i:Id} (h:lk [(b,E)] i=some e):i=b/\e=E:=by
 simp only [lk] at h
 split at h
 ·rename_i hh;cases h;exact ⟨hh.symm,rfl⟩
 ·cases h
theorem c_nextN (x:Leaf) (lf:List Leaf) (bid:Id) (hw:wtPs x.2<=2^24):RetN Tryz.prog W0 118 [.ref bid 0] [(bid,bx (x::lf))] (.arr TPt 6 (x.2.map Part.enc)) [(bid,bx lf)]:=by
 have hcl:=c_clonedN W0 _ x.2 (Nat.lt_succ_self _) hw
 unfold bx
 refine fn_newW (s:=2) f118ok (by simp) dom1 fun n0 hn0=>?_
 have hb:bid.1<n0:=hn0 bid (bx (x::lf)) (by simp [lk,bx])
 clear hn0
 have h1:∀j:Nat,((n0,j)=bid)=False:=fun j=>ne_idx hb
 have h2:∀k j:Nat,((n0+1+k,j)=bid)=False:=fun k j=>ne_idx (by omega)
 have h2':∀k j:Nat,(bid=(n0+1+k,j))=False:=fun k j=>eq_false fun he=>of_eq_false (h2 k j) he.symm
 have hsl:(if lf.length<=lf.length then some (V.sl (List.take lf.length (lf.map leafV))) else none)=some (V.sl (lf.map leafV)):=by
  rw [if_pos (Nat.le_refl _),List.take_of_length_le (by simp)]
 have hcel:∀y∈lf.map leafV,(cells y).length=2:=fun y hy=>by obtain ⟨x,_,rfl⟩:=List.mem_map.1 hy;rfl
 have h5:∀l:List V,(true=isA (V.sl l))=False:=fun l=>by simp [isA]
 simp only [push_cast,seval,reduceEqDiff,h1,h2,h2',leafV_eq x,List.length_map,hsl,eq_true hcel,h5]
 intros
 refine c_calln hcl (fun i e h=>by simp [lk] at h) ?_
 rw [over_nil]
 simp only [push_cast,seval,reduceEqDiff,h1,h2,h2',leafV_eq x,List.length_map,hsl,eq_true hcel,h5]
 intros
 rename_i q1 q2 q3 q4
 have g:∀j:Nat,((n0+1+q1+1+q2+1+q3,j)=bid)=False:=fun j=>ne_idx (by omega)
 have g':∀j:Nat,(bid=(n0+1+q1+1+q2+1+q3,j))=False:=fun j=>eq_false fun he=>of_eq_false (g j) he.symm
 refine finNW_S rfl (by simp [lk]) (by simp [lk,g']) (fun i e h=>?_)
 obtain ⟨rfl,rfl⟩:=lk_sing h
 simp [lk,g,h2]
theorem c_nextS (x:Leaf) (lf:List Leaf) (bid:Id) (hw:wtPs x.2<=2^24):RetS Tryz.prog W0 118 [.ref bid 0] [(bid,bx (x::lf))] (.sl (x.2.map Part.enc)) [(bid,bx lf)]:=retS_of_retN (c_nextN W0 x lf bid hw) (okPt _)
set_option maxHeartbeats 4000000 in
theorem c_withinB (p:Part) (l:List Leaf) (bid:Id) (hw:p.wt+wtLf (l.map Prod.snd)<=2^24) (hn:p.cnt<=l.length)
  (hf:∀(q:List Part) (l':List Leaf),wtPs q<p.wt->wtPs q+wtLf (l'.map Prod.snd)<=2^24->cntL q<=l'.length->RetS Tryz.prog W0 72 [.ref bid 0,.sl (q.map Part.enc)] [(bid,bx l')] (.sl ((bldL q (l'.map Prod.snd)).1.map Part.enc)) [(bid,bx (l'.drop (cntL q)))]) :
  RetS Tryz.prog W0 113 [p.v,.fn 72 [.ref bid 0] []] [(bid,bx l)] (p.bld (l.map Prod.snd)).1.v [(bid,bx (l.drop p.cnt))]:=by
 have hpw:=p.wt_eq
 have hsel:=c_sSel W0 p.kind
 have hlc:=len_wtCs p.cases
 have hcl:=c_cloneC W0 p.cases (by omega)
 have hpp:=hf p.parts l (by omega) (by omega)
 generalize hS:(p.bld (l.map Prod.snd)).1.v=S
 generalize hT:l.drop p.cnt=T
 rw [p.bld_eq] at hS
 rw [p.cnt_eq] at hT hn
 unfold Part.v at *
 refine fn_retW (vs:=[S]) f113ok (by simp) dom1 fun n0 hn0=>?_
 have hb:bid.1<n0:=hn0 bid (bx l) (by simp [lk])
 clear hn0
 have h1:∀j:Nat,((n0,j)=bid)=False:=fun j=>ne_idx hb
 have h1':∀j:Nat,(bid=(n0,j))=False:=fun j=>eq_false fun he=>of_eq_false (h1 j) he.symm
 cases hs:selB p.kind with
 | false=>
  rw [hs] at hsel hS hT hn
  simp only [bq,if_true,if_false,Int.reduceBEq,reduceCtorEq] at hS hT hn
  subst hS hT
  simp only [push_cast,seval,reduceEqDiff,h1,h1']
  repeat' (first|(((first|apply condU_s|apply gdU_t|apply gdU_f)<;>intro _h)<;>simp only [push_cast,seval,reduceEqDiff,_h,h1,h1'])|(refine c_call (by exact hsel) ?_;simp only [push_cast,seval,reduceEqDiff,h1,h1'])|intro _)
  refine c_calls (hpp hn) (fun i e h=>by obtain ⟨rfl,rfl⟩:=lk_sing h;simp [lk,h1]) ?_
  rw [show ∀a b c:Id × Ent,[a,b,c]=[a,b]++[c] from fun _ _ _=>rfl,over_pre (fun p hp q hq=>?_)]
  ·simp only [List.cons_append,List.nil_append]
   simp only [push_cast,seval,reduceEqDiff,h1,h1']
   intros
   refine finW_retsS ?_ (fun i e h=>?_)
   ·simp [push_cast,get,h1']
   ·obtain ⟨rfl,rfl⟩:=lk_sing h;simp [lk]
  ·simp only [List.mem_cons,List.not_mem_nil,or_false] at hp hq
   subst hq
   rcases hp with rfl|rfl<;>exact fun he=>of_eq_false (h1 _) he
 | true=>
  rw [hs] at hsel hS hT hn
  simp only [bq,if_true,if_false,Int.reduceBEq,reduceCtorEq] at hS hT hn
  simp only [push_cast,seval,reduceEqDiff,List.length_map,h1,h1']
  repeat' (first|(((first|apply condU_s|apply gdU_t|apply gdU_f)<;>intro _h)<;>simp only [push_cast,seval,reduceEqDiff,_h,List.length_map,h1,h1'])|(refine c_call (by exact hsel) ?_;simp only [push_cast,seval,reduceEqDiff,List.length_map,h1,h1'])|intro _)
  refine c_calln hcl (fun i e h=>by simp [lk] at h) ?_
  rw [over_nil]
  simp only [push_cast,seval,reduceEqDiff,List.length_map,h1,h1']
  intro k1 k2
  rename_i b1 b2
  have hlt:n0<n0+1+b1+1+b2/\n0+1+b1+1+b2<n0+1+b1+1+b2+1+k1+1+k2:=by omega
  generalize n0+1+b1+1+b2+1+k1+1+k2=n1 at *
  generalize n0+1+b1+1+b2=c0 at *
  obtain ⟨hc0,hn1⟩:=hlt
  have e1:∀q j:Nat,((c0,j)=(n0,q))=False:=fun q j=>eq_false fun he=>by injection he with h1 h2;omega
  have e1':∀q j:Nat,((n0,q)=(c0,j))=False:=fun q j=>eq_false fun he=>of_eq_false (e1 q j) he.symm
  have h2:∀j:Nat,((c0,j)=bid)=False:=fun j=>ne_idx (by omega)
  have h2':∀j:Nat,(bid=(c0,j))=False:=fun j=>eq_false fun he=>of_eq_false (h2 j) he.symm
  refine aWP_loopW p.cases.length (Inv:=fun m st=>∃dl cr n l2,dl++(bldCs cr (l2.map Prod.snd)).1=(bldCs p.cases (l.map Prod.snd)).1/\m=cr.length/\dl.length+cr.length=p.cases.length/\(∀c∈cr,c∈p.cases)/\l2.drop (cntCs cr)=T/\cntCs cr<=l2.length/\wtCs cr+wtLf (l2.map Prod.snd)<=2^24/\st=⟨[(1,.fn 72 [.ref bid 0] []),(2,.ref (n0,2) 0),(4,.ref (n0,4) 0),(22,.i .i64 p.cases.length),(23,.i .i64 dl.length)],[(bid,bx l2),((c0,18),.arr TCs 2 ((dl++cr).map Case.enc)),((n0,4),.box (.agg [.i .i64 0,.s [],.s [],.s [],.nil,.nil])),((n0,2),.box (.agg [.i .i64 p.kind,.s p.text,.s p.name,.s p.style,.arr (c0,18),.sl (p.parts.map Part.enc)]))],n⟩)
   ⟨_,StLe.drop (lk_rot (a:=(bid,bx l)) (σ:=[((c0,18),.arr TCs 2 (p.cases.map Case.enc)),((n0,4),.box (.agg [.i .i64 0,.s [],.s [],.s [],.nil,.nil])),((n0,2),.box (.agg [.i .i64 p.kind,.s p.text,.s p.name,.s p.style,.arr (c0,18),.sl (p.parts.map Part.enc)]))]) (fun q hq=>?_)) (Nat.le_refl _),[],p.cases,_,l,rfl,rfl,by simp,fun _ h=>h,hT,hn,by omega,rfl⟩ ?_
  ·simp only [List.mem_cons,List.not_mem_nil,or_false] at hq
   rcases hq with rfl|rfl|rfl
   ·exact fun he=>of_eq_false (h2 _) he
   ·exact fun he=>of_eq_false (h1 _) he
   ·exact fun he=>of_eq_false (h1 _) he
  clear hT hn
  rintro m _ ⟨dl,cr,n,l2,hz,rfl,hll,hmem,hT,hn,hwl,rfl⟩
  cases cr with
  | nil=>
   have hlt0:decide ((dl.length:Int)<(p.cases.length:Int))=false:=by rw [<-hll];simp
   rw [bldCs_nil,List.append_nil] at hz
   rw [cntCs_nil,List.drop_zero] at hT
   subst hz hT
   rw [List.append_nil]
   simp only [push_cast,seval,reduceEqDiff,hlt0,e1,e1',h1,h1',h2,h2']
   intros
   refine wkW_i (frz_boxM (e:=TCs) (sz:=2) (rid:=(n0,2)) (kid:=(c0,18)) (A:=[.i .i64 p.kind,.s p.text,.s p.name,.s p.style]) (B:=[.sl (p.parts.map Part.enc)]) (es:=((bldCs p.cases (l.map Prod.snd)).1).map Case.enc) (τ:=[(bid,bx l2),((n0,4),.box (.agg [.i .i64 0,.s [],.s [],.s [],.nil,.nil]))]) (fun he=>of_eq_false (e1' _ _) he) (by simp [lk,e1,h1']) (by simp [lk,h2']) (fun i e' h=>?_) (by simp [lk,h1']) (okCe _) (fun s=>.inl rfl) (Nat.le_refl _)) ?_
   ·simp only [lk] at h
    split at h
    ·rename_i he;subst he;cases h
     exact ⟨by simp [lk],fun h=>of_eq_false (h2' _) h⟩
    ·split at h
     ·rename_i he;subst he;cases h
      exact ⟨by simp [lk,e1,h1'],fun h=>of_eq_false (e1' _ _) h⟩
     ·cases h
   subst hS
   simp only [push_cast,seval,reduceEqDiff,List.cons_append,List.nil_append,h1,h1']
   intros
   refine finW_retsS ?_ (fun i e h=>?_)
   ·simp [push_cast,get,h1']
   ·obtain ⟨rfl,rfl⟩:=lk_sing h;simp [lk,h1]
  | cons c cr=>
   have hlt0:decide ((dl.length:Int)<(p.cases.length:Int))=true:=by rw [<-hll];simp;omega
   have hcb:dl.length<(dl++c::cr).length:=by simp
   have hcw:=wtCs_mem (hmem c (by simp))
   rw [wtCs_cons] at hwl
   rw [cntCs_cons] at hT hn
   have hrc:=hf c.2 l2 (by omega) (by omega) (by omega)
   have hrest:=bld_rest c.2 (l2.map Prod.snd)
   have hbw:=bld_wt c.2 (l2.map Prod.snd)
   rw [bldCs_cons,hrest,<-List.map_drop] at hz
   rw [hrest,<-List.map_drop] at hbw
   rw [<-List.drop_drop] at hT
   generalize bldL c.2 (l2.map Prod.snd)=BL at *
   have hget:((dl++c::cr).map Case.enc)[dl.length]? = some (.agg [.s c.1,.sl (c.2.map Part.enc)]):=by
    rw [List.getElem?_map,List.getElem?_append_right (by simp)];simp [Case.enc_eq]
   have hset:((dl++c::cr).map Case.enc).set dl.length (.agg [.s c.1,.sl (BL.1.map Part.enc)])=((dl++[(c.1,BL.1)])++cr).map Case.enc:=by
    simp [List.set_append,Case.enc_eq]
   simp only [push_cast,seval,reduceEqDiff,hlt0,hget,hset,if_pos hcb,wrap_zip (c.1,BL.1) (done:=dl) (by omega),List.length_map,TCs,e1,e1',h1,h1',h2,h2']
   intros
   refine c_callsA hrc (fun i e h=>by obtain ⟨rfl,rfl⟩:=lk_sing h;simp [lk]) (fun y hy id hid hne=>?_) ?_
   ·simp only [List.mem_cons,List.not_mem_nil,or_false] at hy
    subst hy
    simp only [refId_ref,Option.some.injEq] at hid
    subst hid
    rw [lk_over]
    simp [lk,h1']
   rw [over_one (fun q hq=>?_)]
   ·simp only [List.cons_append,List.nil_append]
    simp only [push_cast,seval,reduceEqDiff,hlt0,hget,hset,if_pos hcb,wrap_zip (c.1,BL.1) (done:=dl) (by omega),List.length_map,TCs,e1,e1',h1,h1',h2,h2']
    intros
    exact ⟨_,_,Nat.lt_succ_self _,StLe.refl,dl++[(c.1,BL.1)],cr,_,_,by rw [<-hz];simp,rfl,by rw [<-hll];simp;omega,fun x hx=>hmem x (by simp [hx]),hT,by rw [List.length_drop];omega,by omega,rfl⟩
   ·simp only [List.mem_cons,List.not_mem_nil,or_false] at hq
    rcases hq with rfl|rfl|rfl
    ·exact fun he=>of_eq_false (h2 _) he
    ·exact fun he=>of_eq_false (h1 _) he
    ·exact fun he=>of_eq_false (h1 _) he
set_option maxHeartbeats 4000000 in
theorem c_build (bid:Id):∀(N:Nat) (ps:List Part) (l:List Leaf),wtPs ps<N->wtPs ps+wtLf (l.map Prod.snd)<=2^24->cntL ps<=l.length->
  RetS Tryz.prog W0 72 [.ref bid 0,.sl (ps.map Part.enc)] [(bid,bx l)] (.sl ((bldL ps (l.map Prod.snd)).1.map Part.enc)) [(bid,bx (l.drop (cntL ps)))]:=by
 intro N
 induction N with
 | zero=>intro ps l h;omega
 | succ N ih=>
 intro ps l hN hw hn
 have hlen:=len_wtPs ps
 obtain ⟨x,l1,rfl⟩:∃x l1,l=x::l1:=by
  cases l with
  | nil=>simp [cntL] at hn
  | cons x l=>exact ⟨x,l,rfl⟩
 rw [List.map_cons,wtLf_cons] at hw
 have hn1:=c_nextN W0 x l1 bid (by omega)
 have hps24:wtPs ps<=2^24:=by omega
 generalize hT:(x::l1).drop (cntL ps)=T
 generalize hS:(bldL ps ((x::l1).map Prod.snd)).1=S
 have hS:x.2++(bldR ps (l1.map Prod.snd)).1=S:=hS
 rw [cntL,Nat.add_comm,List.drop_succ_cons] at hT
 rw [cntL,List.length_cons] at hn
 refine fn_retW (vs:=[.sl (S.map Part.enc)]) f72ok (by simp) dom1 fun n0 hn0=>?_
 have hb:bid.1<n0:=hn0 bid (bx (x::l1)) (by simp [lk])
 clear hn0
 have h1:∀j:Nat,((n0,j)=bid)=False:=fun j=>ne_idx hb
 have h1':∀j:Nat,(bid=(n0,j))=False:=fun j=>eq_false fun he=>of_eq_false (h1 j) he.symm
 simp only [push_cast,seval,reduceEqDiff]
 intros
 refine c_calln hn1 (fun i e h=>h) ?_
 rw [over_one (fun p hp=>by cases hp)]
 simp only [List.append_nil]
 simp only [push_cast,seval,reduceEqDiff]
 intro k1 k2
 rename_i b1
 refine aWP_loopW ps.length (Inv:=fun m st=>∃done rest n id o l2,ps=done++rest/\m=rest.length/\o++(bldR rest (l2.map Prod.snd)).1=S/\l2.drop (cntR rest)=T/\cntR rest<=l2.length/\wtPs o+wtPs rest+wtLf (l2.map Prod.snd)<=2^24/\n0<=id.1/\id.1<n/\st=⟨[(0,.ref bid 0),(5,.arr id),(10,.sl (ps.map Part.enc)),(11,.i .i64 ps.length),(12,.i .i64 done.length)],[(id,.arr TPt 6 (o.map Part.enc)),(bid,bx l2)],n⟩)
  ⟨_,StLe.refl,[],ps,_,(n0+1+b1,9),x.2,l1,rfl,rfl,hS,hT,by omega,by omega,by simp only;omega,by simp only;omega,rfl⟩ ?_
 clear hS hT hn hn1 hw
 rintro m _ ⟨done,rest,n,id,o,l2,hz,rfl,hS,hT,hn,hw,hi0,hin,rfl⟩
 have hib:(id=bid)=False:=eq_false fun he=>by rw [he] at hi0;omega
 have hib':(bid=id)=False:=eq_false fun he=>of_eq_false hib he.symm
 cases rest with
 | nil=>
  simp only [List.append_nil] at hz
  subst hz
  rw [bldR_nil,List.append_nil] at hS
  rw [cntR_nil,List.drop_zero] at hT
  subst hS hT
  simp only [push_cast,seval,reduceEqDiff]
  intros
  exact finW_frzS (e:=TPt) (sz:=6) rfl (okPt _) (by simp [lk]) (fun i e h=>by
   obtain ⟨rfl,rfl⟩:=lk_sing h
   exact ⟨by simp [lk,hib],fun he=>of_eq_false hib' he⟩)
 | cons p rest=>
  have hbd:=zip_bd hz
  have hwp:=wtPs_mem (ps:=ps) (p:=p) (by rw [hz];simp)
  rw [wtPs_cons] at hw
  rw [cntR_cons] at hn hT
  have hwi:=c_withinB W0 p l2 bid (by omega) (by omega) (fun q l' h1 h2 h3=>ih q l' (by omega) h2 h3)
  have hrest:=bldP_rest p (l2.map Prod.snd)
  have hbw:=bldP_wt p (l2.map Prod.snd)
  rw [bldR_cons,hrest,<-List.map_drop] at hS
  rw [hrest,<-List.map_drop] at hbw
  rw [<-List.drop_drop] at hT
  obtain ⟨y,l4,hy⟩:∃y l4,l2.drop p.cnt=y::l4:=by
   cases hd:l2.drop p.cnt with
   | nil=>
    have:=congrArg List.length hd
    rw [List.length_drop] at this
    simp [cntL] at hn this;omega
   | cons y l=>exact ⟨y,l,rfl⟩
  have hl4:l4.length+1=l2.length-p.cnt:=by
   have:=congrArg List.length hy
   rw [List.length_drop] at this
   simp at this;omega
  rw [hy] at hwi hS hT hbw
  rw [List.map_cons,wtLf_cons] at hbw
  have hne:=c_nextS W0 y l4 bid (by omega)
  rw [cntL,Nat.add_comm,List.drop_succ_cons] at hT
  have hS:o++(p.bld (l2.map Prod.snd)).1::(y.2++(bldR rest (l4.map Prod.snd)).1)=S:=hS
  have hol:=len_wtPs o
  have hyl:=len_wtPs y.2
  have fxi:∀k j,((n+1+k,j)=id)=False:=fun k j=>eq_false fun he=>by rw [<-he] at hin;simp at hin;omega
  have fix:∀k j,(id=(n+1+k,j))=False:=fun k j=>eq_false fun he=>of_eq_false (fxi k j) he.symm
  have fxb:∀k j,((n+1+k,j)=bid)=False:=fun k j=>ne_idx (by omega)
  have fxb':∀k j,(bid=(n+1+k,j))=False:=fun k j=>eq_false fun he=>of_eq_false (fxb k j) he.symm
  generalize (p.bld (l2.map Prod.snd)).1=B at *
  have hll1:o.length+1<=LLim:=by unfold LLim;omega
  have hps1:o.map Part.enc++[.agg [.i .i64 B.kind,.s B.text,.s B.name,.s B.style,.sl (B.cases.map Case.enc),.sl (B.parts.map Part.enc)]]=(o++[B]).map Part.enc:=by simp [Part.enc_eq]
  have hps2:(o++[B]).map Part.enc++y.2.map Part.enc=(o++[B]++y.2).map Part.enc:=by simp
  have hll2:(o++[B]).length+y.2.length<=LLim:=by simp [LLim];omega
  have hwt:wtPs (o++[B]++y.2)+wtPs rest+wtLf (l4.map Prod.snd)<=2^24:=by
   rw [wtPs_app,wtPs_app,wtPs_cons,wtPs_nil];omega
  have hl0:=hbd
  unfold Part.v at hwi
  simp only [push_cast,seval,reduceEqDiff,hz,wrap_zip p (done:=done) (by omega),fix,fxi,fxb,fxb',hib,hib',List.length_map]
  intros
  refine c_calls hwi (fun i e h=>by obtain ⟨rfl,rfl⟩:=lk_sing h;simp [lk,hib,fxb]) ?_
  rw [show ∀a b c:Id × Ent,[a,b,c]=[a,b]++[c] from fun _ _ _=>rfl,over_pre (fun p hp q hq=>?_)]
  ·simp only [List.cons_append,List.nil_append]
   simp only [push_cast,seval,reduceEqDiff,hz,wrap_zip p (done:=done) (by omega),fix,fxi,fxb,fxb',hib,hib',List.length_map,eq_true hll1,eq_true hll2,hps1,hps2,TPt]
   intros
   rename_i q1 q2 q3
   have e1:∀k j,((n+1+q1+1+q2+1+k,j)=bid)=False:=fun k j=>ne_idx (by omega)
   have e1':∀k j,(bid=(n+1+q1+1+q2+1+k,j))=False:=fun k j=>eq_false fun he=>of_eq_false (e1 k j) he.symm
   have e2:∀j,((n+1+q1+1+q2,j)=bid)=False:=fun j=>ne_idx (by omega)
   have e2':∀j,(bid=(n+1+q1+1+q2,j))=False:=fun j=>eq_false fun he=>of_eq_false (e2 j) he.symm
   refine c_calls hne (fun i e h=>by obtain ⟨rfl,rfl⟩:=lk_sing h;simp [lk,e2]) ?_
   rw [show ∀a b c:Id × Ent,[a,b,c]=[a]++[b]++[c] from fun _ _ _=>rfl,over_mid (fun p hp q hq=>?_) (fun p hp q hq=>?_)]
   ·simp only [List.cons_append,List.nil_append]
    have hcy:∀z∈y.2.map Part.enc,(cells z).length=6:=fun z hz=>by obtain ⟨q,_,rfl⟩:=List.mem_map.1 hz;rw [cells_enc];rfl
    simp only [push_cast,seval,reduceEqDiff,hz,wrap_zip p (done:=done) (by omega),fix,fxi,fxb,fxb',eq_true hcy,e1,e1',e2,e2',List.length_map,eq_true hll2,hps2,TPt]
    intros
    refine ⟨_,_,Nat.lt_succ_self _,StLe.drop (fun i e h=>lk_app_left (τ:=[_]) h) (Nat.le_refl _),done++[p],rest,_,_,o++[B]++y.2,l4,by simp,rfl,by rw [<-hS];simp,hT,?_,hwt,?_,?_,rfl⟩
    ·simp only [cntL] at hn;omega
    ·simp only;omega
    ·simp only;omega
   ·simp only [List.mem_cons,List.not_mem_nil,or_false] at hp hq
    subst hp hq
    exact fun he=>of_eq_false (e2 _) he
   ·simp only [List.mem_cons,List.not_mem_nil,or_false] at hp hq
    subst hp hq
    exact fun he=>of_eq_false (fxb _ _) he
  ·simp only [List.mem_cons,List.not_mem_nil,or_false] at hp hq
   subst hq
   rcases hp with rfl|rfl
   ·exact fun he=>of_eq_false (fxb _ _) he
   ·exact fun he=>of_eq_false hib he

def TRL:Nat:=112
theorem okLf (l:List Leaf):∀y∈l.map leafV,y.ok=true:=by
 intro y hy;obtain ⟨x,_,rfl⟩:=List.mem_map.1 hy;rfl
theorem celLf (l:List Leaf):∀y∈l.map leafV,(cells y).length=2:=by
 intro y hy;obtain ⟨x,_,rfl⟩:=List.mem_map.1 hy;rfl
theorem c_rAt (l:List Leaf) (pa:Bytes) (hl:l.length<=2^40):RetS Tryz.prog W0 32 [.sl (l.map leafV),.s pa] [] (.sl ((atP l pa).map Part.enc)) []:=by
 generalize hS:atP l pa=S
 refine fn_retW (vs:=[.sl (S.map Part.enc)]) f32ok (by simp) (by simp) fun n0 hn0=>?_
 clear hn0
 simp only [push_cast,seval,reduceEqDiff]
 intros
 refine aWP_loopW l.length (Inv:=fun m st=>∃done rest n,l=done++rest/\m=rest.length/\atP rest pa=S/\st=⟨[(0,.sl (l.map leafV)),(1,.s pa),(5,.i .i64 done.length)],[],n⟩) ⟨_,StLe.refl,[],l,_,rfl,rfl,hS,rfl⟩ ?_
 clear hS
 rintro m _ ⟨done,rest,n,hz,rfl,hd,rfl⟩
 cases rest with
 | nil=>
  have hlt0:decide ((done.length:Int)<(l.length:Int))=false:=by rw [hz];simp
  rw [atP] at hd
  subst hd
  simp only [push_cast,seval,reduceEqDiff,hlt0,List.length_map]
  intros
  exact finW_nil rfl
 | cons x rest=>
  have hlt0:decide ((done.length:Int)<(l.length:Int))=true:=by rw [hz];simp;omega
  have hbd:=zip_bd hz
  have hget:(l.map leafV)[done.length]? = some (.agg [.s x.1,.sl (x.2.map Part.enc)]):=by rw [hz,List.getElem?_map,List.getElem?_append_right (by simp)];simp [leafV]
  rw [atP] at hd
  simp only [push_cast,seval,reduceEqDiff,hlt0,hget,if_pos hbd,List.length_map,wrap_zip x (done:=done) (by omega)]
  repeat' (first|(((first|apply condU_s|apply gdU_t|apply gdU_f)<;>intro _h)<;>simp only [push_cast,seval,reduceEqDiff,_h,hlt0,hget,if_pos hbd,List.length_map,wrap_zip x (done:=done) (by omega)])|intro _)
  ·have _g:=_h
   rw [if_pos _g] at hd
   subst hd
   exact finW_ret (by simp [get])
  ·have _g:=_h
   rw [if_neg (by simp [_g])] at hd
   exact ⟨_,_,Nat.lt_succ_self _,StLe.refl,done++[x],rest,_,by rw [hz];simp,rfl,hd,rfl⟩
theorem lvs_wt (ps:List Part):∀pa n run,∀x∈lvsPs ps pa n run,wtPs x.2<=wtPs run+wtPs ps:=by
 refine tree_Q (P:=fun p=>∀pa,∀x∈p.lvs pa,wtPs x.2<=p.wt) (Q:=fun ps=>∀pa n run,∀x∈lvsPs ps pa n run,wtPs x.2<=wtPs run+wtPs ps) (R:=fun cs=>∀pa,∀x∈lvsCs cs pa,wtPs x.2<=wtCs cs) ?_ ?_ ?_ ?_ ?_ ps
 ·intro p hr hq pa x hx
  rw [p.lvs_eq] at hx
  rw [p.wt_eq]
  split at hx
  ·have:=hr _ x hx;omega
  ·have:=hq _ _ _ x hx;rw [wtPs_nil] at this;omega
 ·intro pa n run x hx
  rw [lvsPs_nil,List.mem_singleton] at hx
  subst hx;simp only;omega
 ·intro p ps hp hq pa n run x hx
  rw [lvsPs_cons] at hx
  rw [wtPs_cons]
  split at hx
  ·have:=hq _ _ _ x hx;rw [wtPs_app,wtPs_cons,wtPs_nil] at this;omega
  ·rcases List.mem_cons.1 hx with rfl|hx
   ·simp only;omega
   ·rcases List.mem_append.1 hx with hx|hx
    ·have:=hp _ x hx;omega
    ·have:=hq _ _ _ x hx;rw [wtPs_nil] at this;omega
 ·intro pa x hx;simp [lvsCs] at hx
 ·intro c cs hq hr pa x hx
  rw [lvsCs_cons] at hx
  rw [wtCs_cons]
  rcases List.mem_append.1 hx with hx|hx
  ·have:=hq _ _ _ x hx;rw [wtPs_nil] at this;omega
  ·have:=hr _ x hx;omega
theorem wtLf_app (a b:Left):wtLf (a++b)=wtLf a+wtLf b:=by simp [wtLf]
theorem lvs_wtS (ps:List Part):∀pa n run,wtLf ((lvsPs ps pa n run).map Prod.snd)<=wtPs run+wtPs ps:=by
 refine tree_Q (P:=fun p=>∀pa,wtLf ((p.lvs pa).map Prod.snd)<=p.wt) (Q:=fun ps=>∀pa n run,wtLf ((lvsPs ps pa n run).map Prod.snd)<=wtPs run+wtPs ps) (R:=fun cs=>∀pa,wtLf ((lvsCs cs pa).map Prod.snd)<=wtCs cs) ?_ ?_ ?_ ?_ ?_ ps
 ·intro p hr hq pa
  rw [p.lvs_eq,p.wt_eq]
  split
  ·have:=hr pa;omega
  ·have:=hq pa 0 [];rw [wtPs_nil] at this;omega
 ·intro pa n run
  rw [lvsPs_nil];simp [wtLf]
 ·intro p ps hp hq pa n run
  rw [lvsPs_cons,wtPs_cons]
  split
  ·have:=hq pa n (run++[p]);rw [wtPs_app,wtPs_cons,wtPs_nil] at this;omega
  ·rw [List.map_cons,List.map_append,wtLf_cons,wtLf_app]
   have h1:=hp (pa++decN (n+1)++[47])
   have h2:=hq pa (n+1) []
   rw [wtPs_nil] at h2
   simp only;omega
 ·intro pa;simp [lvsCs,wtLf]
 ·intro c cs hq hr pa
  rw [lvsCs_cons,wtCs_cons,List.map_append,wtLf_app]
  have h1:=hq (pa++c.1++[47]) 0 []
  have h2:=hr pa
  rw [wtPs_nil] at h1;omega
theorem lvs_sub (ps:List Part) {x:Leaf} (h:x∈lvsPs ps [] 0 []):wtPs x.2<=wtPs ps:=by
 have:=lvs_wt ps [] 0 [] x h
 rw [wtPs_nil] at this;omega
theorem efLeaf:okFn Tryz.prog 70 32 (gEF_0 68 2 (.agg [.s [],.nil])) gEFR=true:=by kernel_rfl
theorem c_pathEq (x y:Leaf):RetS Tryz.prog W0 71 [leafV x,leafV y] [] (.b (x.1 == y.1)) []:=by
 rw [leafV_eq,leafV_eq]
 refine fn_retW (vs:=[.b (x.1 == y.1)]) f71ok (by simp) (by simp) fun n0 hn0=>?_
 clear hn0
 simp only [push_cast,seval,reduceEqDiff]
 repeat' (first|(((first|apply condU_s|apply gdU_t|apply gdU_f)<;>intro _h)<;>simp only [push_cast,seval,reduceEqDiff,_h])|intro _)
 all_goals (first|(refine finW_ret ?_;simp [get]<;>(intros;omega);done)|(refine finW_rets ?_;simp [push_cast,get];done)|skip)
theorem c_eqPa (a b:List Leaf) (ha:a.length<=2^40):RetS Tryz.prog W0 70 [.sl (a.map leafV),.sl (b.map leafV),.fn 71 [] []] [] (.b (eqPa a b)) []:=
 equalFunc_ret W0 efLeaf leafV _ _ _ _ _ _ _ ⟨rfl,rfl⟩ (fun x=>⟨rfl,rfl,rfl,rfl⟩) (fun x _ y _=>c_pathEq W0 x y) (by omega)
theorem c_sameLeaf (x y:Leaf) (hw:wtPs x.2<=2^24):RetS Tryz.prog W0 73 [leafV x,leafV y] [] (.b (x.1 == y.1&&eqPs x.2 y.2)) []:=by
 have he:=c_sEqual W0 _ x.2 y.2 (Nat.lt_succ_self _) hw
 rw [leafV_eq,leafV_eq]
 generalize eqPs x.2 y.2=E at *
 refine fn_retW (vs:=[.b (x.1 == y.1&&E)]) f73ok (by simp) (by simp) fun n0 hn0=>?_
 clear hn0
 simp only [push_cast,seval,reduceEqDiff]
 repeat' (first|(((first|apply condU_s|apply gdU_t|apply gdU_f)<;>intro _h)<;>simp only [push_cast,seval,reduceEqDiff,_h])|(refine c_call (by exact he) ?_;simp only [push_cast,seval,reduceEqDiff])|intro _)
 all_goals (first|(refine finW_ret ?_;simp [get, *]<;>(intros;omega);done)|(refine finW_rets ?_;simp [push_cast,get, *];done)|skip)
theorem c_eqLf (a b:List Leaf) (ha:a.length<=2^40) (hw:∀x∈a,wtPs x.2<=2^24):RetS Tryz.prog W0 70 [.sl (a.map leafV),.sl (b.map leafV),.fn 73 [] []] [] (.b (eqLf a b)) []:=
 equalFunc_ret W0 efLeaf leafV _ _ _ _ _ _ _ ⟨rfl,rfl⟩ (fun x=>⟨rfl,rfl,rfl,rfl⟩) (fun x hx y _=>c_sameLeaf W0 x y (hw x hx)) (by omega)
set_option maxHeartbeats 4000000 in
theorem c_sameLeaves (a b:List Leaf) (ha:a.length<=2^40) (hb:b.length<=2^40) (hw:∀x∈a,wtPs x.2<=2^24):RetS Tryz.prog W0 34 [.sl (a.map leafV),.sl (b.map leafV)] [] (.b (eqLf a b)) []:=by
 generalize hS:eqLf a b=S
 unfold eqLf at hS
 by_cases hlen:a.length=b.length
 ·have hne:((a.length:Int) != (b.length:Int))=false:=by simp [hlen]
  refine fn_retW (vs:=[.b S]) f34ok (by simp) (by simp) fun n0 hn0=>?_
  clear hn0
  simp only [push_cast,seval,reduceEqDiff,List.length_map,hne]
  intros
  refine aWP_loopW a.length (Inv:=fun m st=>∃da ra db rb n,a=da++ra/\b=db++rb/\db.length=da.length/\m=ra.length/\eqBy (fun x y:Leaf=>x.1 == y.1&&eqPs x.2 y.2) ra rb=S/\st=⟨[(0,.sl (a.map leafV)),(1,.sl (b.map leafV)),(5,.i .i64 da.length)],[],n⟩) ⟨_,StLe.refl,[],a,[],b,_,rfl,rfl,rfl,rfl,hS,rfl⟩ ?_
  clear hS
  rintro m _ ⟨da,ra,db,rb,n,hza,hzb,hdl,rfl,hd,rfl⟩
  have hrl:ra.length=rb.length:=by
   have h1:=congrArg List.length hza
   have h2:=congrArg List.length hzb
   simp only [List.length_append] at h1 h2;omega
  cases ra with
  | nil=>
   have hlt0:decide ((da.length:Int)<(a.length:Int))=false:=by rw [hza];simp
   have:rb=[]:=by simpa using hrl.symm
   subst this
   simp only [eqBy] at hd
   subst hd
   simp only [push_cast,seval,reduceEqDiff,hlt0,List.length_map]
   intros
   exact finW_ret (by simp [get])
  | cons x ra=>
   obtain ⟨y,rb,rfl⟩:∃y r,rb=y::r:=by
    cases rb with
    | nil=>simp at hrl
    | cons y r=>exact ⟨y,r,rfl⟩
   have hlt0:decide ((da.length:Int)<(a.length:Int))=true:=by rw [hza];simp;omega
   have hba:=zip_bd hza
   have hbb:da.length<b.length:=by omega
   have hga:(a.map leafV)[da.length]? = some (.agg [.s x.1,.sl (x.2.map Part.enc)]):=by rw [hza,List.getElem?_map,List.getElem?_append_right (by simp)];simp [leafV]
   have hgb:(b.map leafV)[da.length]? = some (.agg [.s y.1,.sl (y.2.map Part.enc)]):=by rw [hzb,List.getElem?_map,<-hdl,List.getElem?_append_right (by simp)];simp [leafV]
   have he:=c_rEqual W0 _ x.2 y.2 (Nat.lt_succ_self _) (hw x (by rw [hza];simp))
   simp only [eqBy] at hd
   generalize eqPs x.2 y.2=E at *
   generalize hB:(x.1 == y.1)=B at *
   cases B
   ·simp only [bq,if_true,if_false,Int.reduceBEq,reduceCtorEq] at hd
    subst hd
    simp only [push_cast,seval,reduceEqDiff,hlt0,hga,hgb,hB,if_pos hba,if_pos hbb,List.length_map,wrap_zip x (done:=da) (by omega)]
    repeat' (first|(((first|apply condU_s|apply gdU_t|apply gdU_f)<;>intro _h)<;>simp only [push_cast,seval,reduceEqDiff,_h,hlt0,hga,hgb,hB,if_pos hba,if_pos hbb,List.length_map,wrap_zip x (done:=da) (by omega)])|(refine c_call (by exact he) ?_;simp only [push_cast,seval,reduceEqDiff,hlt0,hga,hgb,hB,if_pos hba,if_pos hbb,List.length_map,wrap_zip x (done:=da) (by omega)])|intro _)
    exact finW_ret (by simp [get])
   cases E
   ·simp only [bq,if_true,if_false,Int.reduceBEq,reduceCtorEq] at hd
    subst hd
    simp only [push_cast,seval,reduceEqDiff,hlt0,hga,hgb,hB,if_pos hba,if_pos hbb,List.length_map,wrap_zip x (done:=da) (by omega)]
    repeat' (first|(((first|apply condU_s|apply gdU_t|apply gdU_f)<;>intro _h)<;>simp only [push_cast,seval,reduceEqDiff,_h,hlt0,hga,hgb,hB,if_pos hba,if_pos hbb,List.length_map,wrap_zip x (done:=da) (by omega)])|(refine c_call (by exact he) ?_;simp only [push_cast,seval,reduceEqDiff,hlt0,hga,hgb,hB,if_pos hba,if_pos hbb,List.length_map,wrap_zip x (done:=da) (by omega)])|intro _)
    exact finW_ret (by simp [get])
   ·simp only [bq,if_true,if_false,Int.reduceBEq,reduceCtorEq] at hd
    simp only [push_cast,seval,reduceEqDiff,hlt0,hga,hgb,hB,if_pos hba,if_pos hbb,List.length_map,wrap_zip x (done:=da) (by omega)]
    repeat' (first|(((first|apply condU_s|apply gdU_t|apply gdU_f)<;>intro _h)<;>simp only [push_cast,seval,reduceEqDiff,_h,hlt0,hga,hgb,hB,if_pos hba,if_pos hbb,List.length_map,wrap_zip x (done:=da) (by omega)])|(refine c_call (by exact he) ?_;simp only [push_cast,seval,reduceEqDiff,hlt0,hga,hgb,hB,if_pos hba,if_pos hbb,List.length_map,wrap_zip x (done:=da) (by omega)])|intro _)
    exact ⟨_,_,Nat.lt_succ_self _,StLe.refl,da++[x],ra,db++[y],rb,_,by rw [hza];simp,by rw [hzb];simp,by simp [hdl],rfl,hd,rfl⟩
 ·have hne:((a.length:Int) != (b.length:Int))=true:=by simp;omega
  rw [eqBy_len hlen] at hS
  subst hS
  refine fn_retW (vs:=[.b false]) f34ok (by simp) (by simp) fun n0 hn0=>?_
  clear hn0
  simp only [push_cast,seval,reduceEqDiff,List.length_map,hne]
  intros
  exact finW_ret (by simp [get])
set_option maxHeartbeats 4000000 in
theorem c_theirs (l:List Leaf) (hl:l.length<=2^30):RetS Tryz.prog W0 33 [.sl (l.map leafV)] [] (.sl (l.map leafV)) []:=by
 refine fn_retW (vs:=[.sl (l.map leafV)]) f33ok (by simp) (by simp) fun n0 hn0=>?_
 clear hn0
 simp only [push_cast,seval,reduceEqDiff]
 intro k1 k2 k3
 refine aWP_loopW l.length (Inv:=fun m st=>∃done rest n id,l=done++rest/\m=rest.length/\id.1<n/\st=⟨[(0,.sl (l.map leafV)),(3,.arr id),(4,.i .i64 done.length)],[(id,.arr TRL 2 (done.map leafV))],n⟩) ⟨_,(StLe.own (s:=3) (e:=TRL) (sz:=2) (k:=99) rfl).trans (StLe.envD (fun t=>?_) (Nat.le_refl _)),[],l,_,_,rfl,rfl,?_,rfl⟩ ?_
 ·left
  by_cases h3:3=t
  ·subst h3;rfl
  ·simp [get,h3]
 ·simp
 rintro m _ ⟨done,rest,n,id,hz,rfl,hin,rfl⟩
 cases rest with
 | nil=>
  simp only [List.append_nil] at hz
  subst hz
  simp only [push_cast,seval,reduceEqDiff]
  intros
  exact finW_frz (e:=TRL) (sz:=2) rfl (okLf _) (by simp [lk])
 | cons x rest=>
  have hlt0:decide ((done.length:Int)<(l.length:Int))=true:=by rw [hz];simp;omega
  have hbd:=zip_bd hz
  have hget:(l.map leafV)[done.length]? = some (leafV x):=by rw [hz,List.getElem?_map,List.getElem?_append_right (by simp)];simp
  have hps:done.map leafV++[.agg [.s x.1,.sl (x.2.map Part.enc)]]=(done++[x]).map leafV:=by simp [leafV]
  have hll:done.length+1<=LLim:=by unfold LLim;omega
  have f1:∀k j:Nat,((n+1+k,j)=id)=False:=fun k j=>eq_false fun he=>(by have:=congrArg Prod.fst he;(try simp only at this);omega)
  have f1':∀k j:Nat,(id=(n+1+k,j))=False:=fun k j=>eq_false fun he=>of_eq_false (f1 k j) he.symm
  simp only [push_cast,seval,reduceEqDiff,hlt0,hget,if_pos hbd,leafV_eq x,List.length_map,f1,f1',hps,eq_true hll,TRL,wrap_zip x (done:=done) (by omega)]
  intros
  exact ⟨_,_,Nat.lt_succ_self _,StLe.refl,done++[x],rest,_,_,by rw [hz];simp,rfl,by (try simp only);omega,rfl⟩
theorem finW_nil2 {W0:World} {nt n:Nat} {env:Env} {σ:Sto} {e:V} (h4:get env 4 = .nil) (h5:get env 5=e):FinW W0 nt [.t 4,.t 5] [.sl [],e] [] .ret ⟨env,σ,n⟩:=by
 refine ⟨⟨[(4,.sl []),(5,e)],[],n⟩,StLe.weak (fun _=>none) (fun _ _ h=>by cases h) (fun t=>?_) (fun i e' h=>by cases h) (Nat.le_refl _),⟨by simp [ResOk,get],by simp [ResOk,get],trivial⟩,fun _ _ h=>by cases h⟩
 by_cases h:4=t
 ·subst h;rw [h4];simp only [get,if_true];exact .nil
 ·by_cases h':5=t
  ·subst h';rw [h5];simp only [get,if_true,if_neg h];exact .refl _
  ·simp only [get,if_neg h,if_neg h'];exact .any _
theorem c_leavesS (hT:PowTab W0) (ps:List Part) (hw:wtPs ps<=2^24):RetS Tryz.prog W0 69 [.nil,.sl (ps.map Part.enc),.s []] [] (.sl ((lvsPs ps [] 0 []).map leafV)) []:=by
 have h:=retN_nil (e:=TL) (sz:=2) (fun id=>c_leavesA W0 (2^24) (fun i hi=>c_itoaG W0 hT i (by omega)) _ ps [] [] id (Nat.lt_succ_self _) hw hw (by simp;omega) (by simp;omega))
 rw [List.nil_append] at h
 exact retS_of_retN h (okLf _)
set_option maxHeartbeats 4000000 in
theorem c_sBuild (hT:PowTab W0) (ps:List Part) (l:List Leaf) (hw:wtPs ps<=2^21) (hl:wtLf (l.map Prod.snd)<=2^21):RetS Tryz.prog W0 25 [.sl (ps.map Part.enc),.sl (l.map leafV)] [] (.tup [.sl ((bldV ps l).map Part.enc),.i .i64 (bldE ps l)]) []:=by
 have hva:=c_Valid W0 ps (by omega)
 have hsh:=c_shape W0 _ ps (Nat.lt_succ_self _) (by omega)
 have heq:=c_sEqual W0 _ (shpPs ps) ps (Nat.lt_succ_self _) (by have:=wt_shp ps;omega)
 have hle:=c_leavesS W0 hT ps (by omega)
 have hlen:=lvsPs_len ps [] 0 []
 have hep:=c_eqPa W0 (lvsPs ps [] 0 []) l (by omega)
 unfold bldV bldE bldB bldOk1
 cases h1:validP ps with
 | false=>
  rw [h1] at hva
  simp only [bq,if_true,if_false,Int.reduceBEq,reduceCtorEq]
  refine fn_retW (vs:=[.sl [],.i .i64 1]) f25ok (by simp) (by simp) fun n0 hn0=>?_
  clear hn0
  simp only [push_cast,seval,reduceEqDiff]
  repeat' (first|(((first|apply condU_s|apply gdU_t|apply gdU_f)<;>intro _h)<;>simp only [push_cast,seval,reduceEqDiff,_h])|(refine c_call (by exact hva) ?_;simp only [push_cast,seval,reduceEqDiff])|intro _)
  exact finW_nil2 rfl rfl
 | true=>
 rw [h1] at hva
 cases h2:eqPs (shpPs ps) ps with
 | false=>
  rw [h2] at heq
  simp only [bq,if_true,if_false,Int.reduceBEq,reduceCtorEq]
  refine fn_retW (vs:=[.sl [],.i .i64 1]) f25ok (by simp) (by simp) fun n0 hn0=>?_
  clear hn0
  simp only [push_cast,seval,reduceEqDiff]
  repeat' (first|(((first|apply condU_s|apply gdU_t|apply gdU_f)<;>intro _h)<;>simp only [push_cast,seval,reduceEqDiff,_h])|((first|refine c_call (by exact hva) ?_|refine c_call (by exact hsh) ?_|refine c_call (by exact heq) ?_);simp only [push_cast,seval,reduceEqDiff])|intro _)
  exact finW_nil2 rfl rfl
 | true=>
 rw [h2] at heq
 cases h3:eqPa (lvsPs ps [] 0 []) l with
 | false=>
  rw [h3] at hep
  simp only [bq,if_true,if_false,Int.reduceBEq,reduceCtorEq]
  refine fn_retW (vs:=[.sl [],.i .i64 1]) f25ok (by simp) (by simp) fun n0 hn0=>?_
  clear hn0
  simp only [push_cast,seval,reduceEqDiff]
  repeat' (first|(((first|apply condU_s|apply gdU_t|apply gdU_f)<;>intro _h)<;>simp only [push_cast,seval,reduceEqDiff,_h])|((first|refine c_call (by exact hva) ?_|refine c_call (by exact hsh) ?_|refine c_call (by exact heq) ?_|refine c_call (by exact hle) ?_);simp only [push_cast,seval,reduceEqDiff])|intro _)
  refine c_callsq hep ?_
  simp only [push_cast,seval,reduceEqDiff]
  intros
  exact finW_nil2 rfl rfl
 | true=>
 rw [h3] at hep
 simp only [bq,if_true,if_false,Int.reduceBEq,reduceCtorEq]
 have hfix:=(eqPs_iff _ _).1 h2
 have hcnt:cntL ps<=l.length:=by
  have:=congrArg List.length ((eqPa_iff _ _).1 h3)
  rw [List.length_map,List.length_map,cnt_lvs ps hfix] at this
  omega
 have hbw:=bld_wt ps (l.map Prod.snd)
 have hbu:=fun bid=>c_build W0 bid _ ps l (Nat.lt_succ_self _) (by omega) hcnt
 unfold bldOk2
 unfold bldOut
 generalize (bldL ps (l.map Prod.snd)).1=O at *
 have hwO:wtPs O<=2^22:=by omega
 have hva2:=c_Valid W0 O (by omega)
 have hsh2:=c_shape W0 _ O (Nat.lt_succ_self _) (by omega)
 have heq2:=c_sEqual W0 _ (shpPs O) ps (Nat.lt_succ_self _) (by have:=wt_shp O;omega)
 have hle2:=c_leavesS W0 hT O (by omega)
 have hlen2:=lvsPs_len O [] 0 []
 have hep2:=c_eqLf W0 (lvsPs O [] 0 []) l (by omega) (fun x hx=>by have:=lvs_sub O hx;omega)
 generalize eqLf (lvsPs O [] 0 []) l=E3 at *
 generalize eqPs (shpPs O) ps=E2 at *
 generalize validP O=E1 at *
 generalize hR:l.drop (cntL ps)=LR at *
 generalize hS:(if (E1&&(E2&&E3))=true then O else [])=S
 generalize hE:(if (E1&&(E2&&E3))=true then (0:Int) else 1)=E
 refine fn_retW (vs:=[.sl (S.map Part.enc),.i .i64 E]) f25ok (by simp) (by simp) fun n0 hn0=>?_
 clear hn0
 simp only [push_cast,seval,reduceEqDiff]
 repeat' (first|(((first|apply condU_s|apply gdU_t|apply gdU_f)<;>intro _h)<;>simp only [push_cast,seval,reduceEqDiff,_h])|((first|refine c_call (by exact hva) ?_|refine c_call (by exact hsh) ?_|refine c_call (by exact heq) ?_|refine c_call (by exact hle) ?_);simp only [push_cast,seval,reduceEqDiff])|intro _)
 refine c_callsq hep ?_
 unfold bx at hbu
 simp only [push_cast,seval,reduceEqDiff]
 intros
 refine c_calls (hbu _) (fun i e h=>h) ?_
 rw [over_one (fun p hp=>by cases hp)]
 simp only [List.append_nil]
 cases E1
 ·simp only [bq,if_true,if_false,Int.reduceBEq,reduceCtorEq] at hS hE
  subst hS hE
  simp only [push_cast,seval,reduceEqDiff]
  repeat' (first|(((first|apply condU_s|apply gdU_t|apply gdU_f)<;>intro _h)<;>simp only [push_cast,seval,reduceEqDiff,_h])|(refine c_call (by exact hva2) ?_;simp only [push_cast,seval,reduceEqDiff])|intro _)
  exact finW_nil2 rfl rfl
 cases E2
 ·simp only [bq,if_true,if_false,Int.reduceBEq,reduceCtorEq] at hS hE
  subst hS hE
  simp only [push_cast,seval,reduceEqDiff]
  repeat' (first|(((first|apply condU_s|apply gdU_t|apply gdU_f)<;>intro _h)<;>simp only [push_cast,seval,reduceEqDiff,_h])|((first|refine c_call (by exact hva2) ?_|refine c_call (by exact hsh2) ?_|refine c_call (by exact heq2) ?_);simp only [push_cast,seval,reduceEqDiff])|intro _)
  exact finW_nil2 rfl rfl
 simp only [push_cast,seval,reduceEqDiff]
 repeat' (first|(((first|apply condU_s|apply gdU_t|apply gdU_f)<;>intro _h)<;>simp only [push_cast,seval,reduceEqDiff,_h])|((first|refine c_call (by exact hva2) ?_|refine c_call (by exact hsh2) ?_|refine c_call (by exact heq2) ?_|refine c_call (by exact hle2) ?_);simp only [push_cast,seval,reduceEqDiff])|intro _)
 refine c_callsq hep2 ?_
 cases E3
 ·simp only [bq,if_true,if_false,Int.reduceBEq,reduceCtorEq] at hS hE
  subst hS hE
  simp only [push_cast,seval,reduceEqDiff]
  intros
  exact finW_nil2 rfl rfl
 ·simp only [bq,if_true,if_false,Int.reduceBEq,reduceCtorEq] at hS hE
  subst hS hE
  simp only [push_cast,seval,reduceEqDiff]
  intros
  refine finW_rets ?_
  simp [push_cast,get]
theorem bld_back {ps:List Part} (hv:validB ps=true):bldB (shpPs ps) (lvsPs ps [] 0 [])=true/\bldOut (shpPs ps) (lvsPs ps [] 0 [])=ps:=by
 have hw:=valid_wf hv
 have ho:bldOut (shpPs ps) (lvsPs ps [] 0 [])=ps:=by
  unfold bldOut
  have:=bld_inv ps [] 0 [] []
  rw [List.append_nil] at this
  rw [this];rfl
 refine ⟨?_,ho⟩
 unfold bldB bldOk1 bldOk2
 rw [ho,valid_same,valid_same,hv,valid_shp hv,shp_shp ps hw,eqPs_refl]
 have h1:eqPa (lvsPs (shpPs ps) [] 0 []) (lvsPs ps [] 0 [])=true:=by
  rw [eqPa_iff,lvs_shp ps hw [] 0 [],List.map_map];rfl
 have h2:eqLf (lvsPs ps [] 0 []) (lvsPs ps [] 0 [])=true:=(eqLf_iff _ _).2 rfl
 rw [h1,h2];rfl
theorem atP_none {l:List Leaf} {pa:Bytes} (h:pa ∉ l.map Prod.fst):atP l pa=[]:=by
 induction l with
 | nil=>rfl
 | cons x l ih=>
  rw [List.map_cons,List.mem_cons,not_or] at h
  rw [atP,if_neg (by simp only [beq_iff_eq];exact fun he=>h.1 he.symm)]
  exact ih h.2
theorem inv_both {ps qs:List Part} (hp:validB ps=true) (hq:validB qs=true):(eqPs (shpPs ps) (shpPs qs)&&eqLf (lvsPs ps [] 0 []) (lvsPs qs [] 0 []))=eqPs ps qs:=by
 rw [Bool.eq_iff_iff,Bool.and_eq_true,eqPs_iff,eqLf_iff,eqPs_iff]
 constructor
 ·rintro ⟨h1,h2⟩
  rw [<-(bld_back hp).2,<-(bld_back hq).2,h1,h2]
 ·rintro rfl;exact ⟨rfl,rfl⟩
theorem c_LeavesG (hT:PowTab W0) (ps:List Part) (hw:wtPs ps<=2^24) (hv:validP ps=true):RetS Tryz.prog W0 30 [.sl (ps.map Part.enc)] [] (.tup [.sl ((lvsPs ps [] 0 []).map leafV),.i .i64 0]) []:=
 c_Leaves W0 (2^24) (fun i hi=>c_itoaG W0 hT i (by omega)) ps hw hw hv
set_option maxHeartbeats 4000000 in
theorem c_VariantsInverse (hT:PowTab W0) (ps qs:List Part) (hw:wtPs ps<=2^20) (hwq:wtPs qs<=2^20):RetS Tryz.prog W0 6 [.sl (ps.map Part.enc),.sl (qs.map Part.enc)] [] (.b true) []:=by
 have haw:=c_awake W0
 have hfe:=c_few W0 ps (by omega)
 have hfq:=c_few W0 qs (by omega)
 have hva:=c_rValid W0 ps (by omega)
 have hvq:=c_rValid W0 qs (by omega)
 cases hfp:fewPs ps
 ·rw [hfp] at hfe
  refine fn_retW (vs:=[.b true]) f6ok (by simp) (by simp) fun n0 hn0=>?_
  clear hn0
  simp only [push_cast,seval,reduceEqDiff]
  repeat' (first|(((first|apply condU_s|apply gdU_t|apply gdU_f)<;>intro _h)<;>simp only [push_cast,seval,reduceEqDiff,_h])|((first|refine c_call (by exact haw) ?_|refine c_call (by exact hfe) ?_);simp only [push_cast,seval,reduceEqDiff])|intro _)
  all_goals (first|(refine finW_ret ?_;simp [get]<;>(intros;omega);done)|(refine finW_rets ?_;simp [push_cast,get];done)|skip)
 rw [hfp] at hfe
 cases hfq2:fewPs qs
 ·rw [hfq2] at hfq
  refine fn_retW (vs:=[.b true]) f6ok (by simp) (by simp) fun n0 hn0=>?_
  clear hn0
  simp only [push_cast,seval,reduceEqDiff]
  repeat' (first|(((first|apply condU_s|apply gdU_t|apply gdU_f)<;>intro _h)<;>simp only [push_cast,seval,reduceEqDiff,_h])|((first|refine c_call (by exact haw) ?_|refine c_call (by exact hfe) ?_|refine c_call (by exact hfq) ?_);simp only [push_cast,seval,reduceEqDiff])|intro _)
  all_goals (first|(refine finW_ret ?_;simp [get]<;>(intros;omega);done)|(refine finW_rets ?_;simp [push_cast,get];done)|skip)
 rw [hfq2] at hfq
 cases hp:validB ps
 ·rw [hp] at hva
  refine fn_retW (vs:=[.b true]) f6ok (by simp) (by simp) fun n0 hn0=>?_
  clear hn0
  simp only [push_cast,seval,reduceEqDiff]
  repeat' (first|(((first|apply condU_s|apply gdU_t|apply gdU_f)<;>intro _h)<;>simp only [push_cast,seval,reduceEqDiff,_h])|((first|refine c_call (by exact haw) ?_|refine c_call (by exact hfe) ?_|refine c_call (by exact hfq) ?_|refine c_call (by exact hva) ?_);simp only [push_cast,seval,reduceEqDiff])|intro _)
  all_goals (first|(refine finW_ret ?_;simp [get]<;>(intros;omega);done)|(refine finW_rets ?_;simp [push_cast,get];done)|skip)
 rw [hp] at hva
 cases hq:validB qs
 ·rw [hq] at hvq
  refine fn_retW (vs:=[.b true]) f6ok (by simp) (by simp) fun n0 hn0=>?_
  clear hn0
  simp only [push_cast,seval,reduceEqDiff]
  repeat' (first|(((first|apply condU_s|apply gdU_t|apply gdU_f)<;>intro _h)<;>simp only [push_cast,seval,reduceEqDiff,_h])|((first|refine c_call (by exact haw) ?_|refine c_call (by exact hfe) ?_|refine c_call (by exact hfq) ?_|refine c_call (by exact hva) ?_|refine c_call (by exact hvq) ?_);simp only [push_cast,seval,reduceEqDiff])|intro _)
  all_goals (first|(refine finW_ret ?_;simp [get]<;>(intros;omega);done)|(refine finW_rets ?_;simp [push_cast,get];done)|skip)
 rw [hq] at hvq
 have hsv:validP (shpPs ps)=true:=by rw [valid_same];exact valid_shp hp
 have hle:=c_LeavesG W0 hT ps (by omega) (by rw [valid_same];exact hp)
 have hsh:=c_Shape W0 ps (by omega) (by rw [valid_same];exact hp)
 have hle2:=c_LeavesG W0 hT qs (by omega) (by rw [valid_same];exact hq)
 have hsh2:=c_Shape W0 qs (by omega) (by rw [valid_same];exact hq)
 have hem:=c_LeavesG W0 hT (shpPs ps) (by have:=wt_shp ps;omega) hsv
 rw [lvs_shp ps (valid_wf hp) [] 0 []] at hem
 have hws:=wt_shp ps
 have hbl:wtLf ((lvsPs ps [] 0 []).map Prod.snd)<=2^20:=by
  have:=lvs_wtS ps [] 0 []
  rw [wtPs_nil] at this;omega
 have hbu:=c_sBuild W0 hT (shpPs ps) (lvsPs ps [] 0 []) (by omega) (by omega)
 obtain ⟨hb1,hb2⟩:=bld_back hp
 unfold bldV bldE at hbu
 rw [hb1,hb2] at hbu
 simp only [if_true] at hbu
 have hee:=c_rEqual W0 _ ps ps (Nat.lt_succ_self _) (by omega)
 rw [eqPs_refl] at hee
 have hnd:=(paths_nodup ps (valid_wf hp) (valid_wfk hp) [] 0 []).1
 have hboth:=inv_both hp hq
 have heS:=c_rEqual W0 _ (shpPs ps) (shpPs qs) (Nat.lt_succ_self _) (by omega)
 have heP:=c_rEqual W0 _ ps qs (Nat.lt_succ_self _) (by omega)
 have hln:=lvsPs_len ps [] 0 []
 have hlnq:=lvsPs_len qs [] 0 []
 have hsl:=c_sameLeaves W0 (lvsPs ps [] 0 []) (lvsPs qs [] 0 []) (by omega) (by omega) (fun x hx=>by have:=lvs_sub ps hx;omega)
 have hth:=fun l (hl:l.length<=2^30)=>c_theirs W0 l hl
 have hat:=fun l pa (hl:l.length<=2^30)=>c_rAt W0 l pa (by omega)
 generalize hL:lvsPs ps [] 0 []=L at *
 generalize lvsPs qs [] 0 []=LQ at *
 generalize shpPs ps=S at *
 generalize shpPs qs=SQ at *
 generalize eqPs S SQ=B1 at *
 generalize eqLf L LQ=B2 at *
 generalize eqPs ps qs=B3 at *
 have hnL:((L.length:Int) != (L.length:Int))=false:=by simp
 refine fn_retW (vs:=[.b true]) f6ok (by simp) (by simp) fun n0 hn0=>?_
 clear hn0
 simp only [push_cast,seval,reduceEqDiff,List.length_map,hnL]
 repeat' (first|(((first|apply condU_s|apply gdU_t|apply gdU_f)<;>intro _h)<;>simp only [push_cast,seval,reduceEqDiff,_h,List.length_map,hnL])|((first|refine c_call (by exact haw) ?_|refine c_call (by exact hfe) ?_|refine c_call (by exact hfq) ?_|refine c_call (by exact hva) ?_|refine c_call (by exact hvq) ?_|refine c_call (by exact hle) ?_|refine c_call (by exact hsh) ?_|refine c_call (by exact hbu) ?_|refine c_call (by exact hem) ?_|refine c_call (by exact hee) ?_);simp only [push_cast,seval,reduceEqDiff,List.length_map,hnL])|intro _)
 refine aWP_loopW L.length (Inv:=fun m st=>∃done rest n,L=done++rest/\m=rest.length/\st=⟨[(0,.sl (ps.map Part.enc)),(1,.sl (qs.map Part.enc)),(5,.sl (L.map leafV)),(7,.sl (S.map Part.enc)),(11,.sl ((L.map fun x=>(x.1,[])).map leafV)),(13,.i .i64 done.length)],[],n⟩) ⟨_,StLe.refl,[],L,_,rfl,rfl,rfl⟩ ?_
 rintro m _ ⟨done,rest,n,hz,rfl,rfl⟩
 cases rest with
 | nil=>
  have hlt0:decide ((done.length:Int)<(L.length:Int))=false:=by rw [hz];simp
  clear hz
  cases B1
  ·simp only [bq,if_true,if_false,Int.reduceBEq,reduceCtorEq] at hboth
   subst hboth
   simp only [push_cast,seval,reduceEqDiff,hlt0,List.length_map]
   repeat' (first|(((first|apply condU_s|apply gdU_t|apply gdU_f)<;>intro _h)<;>simp only [push_cast,seval,reduceEqDiff,_h,hlt0,List.length_map])|((first|refine c_call (by exact hle2) ?_|refine c_call (by exact hsh2) ?_|refine c_call (by exact heS) ?_|refine c_call (by exact heP) ?_);simp only [push_cast,seval,reduceEqDiff,hlt0,List.length_map])|intro _)
   exact finW_ret (by simp [get])
  ·simp only [bq,if_true,if_false,Int.reduceBEq,reduceCtorEq] at hboth
   subst hboth
   have ht1:=hth L (by omega)
   have ht2:=hth LQ (by omega)
   simp only [push_cast,seval,reduceEqDiff,hlt0,List.length_map]
   repeat' (first|(((first|apply condU_s|apply gdU_t|apply gdU_f)<;>intro _h)<;>simp only [push_cast,seval,reduceEqDiff,_h,hlt0,List.length_map])|((first|refine c_call (by exact hle2) ?_|refine c_call (by exact hsh2) ?_|refine c_call (by exact heS) ?_|refine c_call (by exact ht1) ?_|refine c_call (by exact ht2) ?_|refine c_call (by exact hsl) ?_|refine c_call (by exact heP) ?_);simp only [push_cast,seval,reduceEqDiff,hlt0,List.length_map])|intro _)
   exact finW_ret (by simp [get])
 | cons x rest=>
  have hlt0:decide ((done.length:Int)<(L.length:Int))=true:=by rw [hz];simp;omega
  have hbd:=zip_bd hz
  have hxd:x.1 ∉ done.map Prod.fst:=by
   rw [hz,List.map_append,List.map_cons] at hnd
   have:=(List.nodup_append.1 hnd).2.2
   intro hm
   exact this _ hm _ (by simp) rfl
  have hgL:(L.map leafV)[done.length]? = some (.agg [.s x.1,.sl (x.2.map Part.enc)]):=by rw [hz,List.getElem?_map,List.getElem?_append_right (by simp)];simp [leafV]
  have hgE:((L.map fun x=>(x.1,([]:List Part))).map leafV)[done.length]? = some (.agg [.s x.1,.sl []]):=by rw [hz,List.getElem?_map,List.getElem?_map,List.getElem?_append_right (by simp)];simp [leafV]
  have hcel:=celLf L
  have htk:(if 0<=done.length/\done.length<=L.length then some (V.sl (List.take done.length (L.map leafV))) else none)=some (V.sl (done.map leafV)):=by
   rw [if_pos ⟨Nat.zero_le _,by omega⟩,hz];simp
  have hth1:=hth done (by omega)
  have hat1:=hat done x.1 (by omega)
  rw [atP_none hxd] at hat1
  simp only [push_cast,seval,reduceEqDiff,hlt0,hgL,hgE,beq_self_eq_true,if_pos hbd,htk,eq_true hcel,List.length_map,List.map_nil,List.length_nil]
  repeat' (first|(((first|apply condU_s|apply gdU_t|apply gdU_f)<;>intro _h)<;>simp only [push_cast,seval,reduceEqDiff,_h,hlt0,hgL,hgE,beq_self_eq_true,if_pos hbd,htk,eq_true hcel,List.length_map,List.map_nil,List.length_nil])|((first|refine c_call (by exact hth1) ?_|refine c_call (by exact hat1) ?_);simp only [push_cast,seval,reduceEqDiff,hlt0,hgL,hgE,beq_self_eq_true,if_pos hbd,htk,eq_true hcel,List.length_map,List.map_nil,List.length_nil])|intro _)
  refine aWP_loopW done.length (Inv:=fun m st=>∃kd kr n,done=kd++kr/\m=kr.length/\st=⟨[(0,.sl (ps.map Part.enc)),(1,.sl (qs.map Part.enc)),(5,.sl (L.map leafV)),(7,.sl (S.map Part.enc)),(11,.sl ((L.map fun x=>(x.1,[])).map leafV)),(13,.i .i64 done.length),(14,.i .i64 kd.length)],[],n⟩) ⟨_,StLe.refl,[],done,_,rfl,rfl,rfl⟩ ?_
  rintro m _ ⟨kd,kr,n2,hkz,rfl,rfl⟩
  cases kr with
  | nil=>
   have hlt1:decide ((kd.length:Int)<(done.length:Int))=false:=by rw [hkz];simp
   simp only [push_cast,seval,reduceEqDiff,hlt1,wrap_zip x (done:=done) (by omega)]
   intros
   exact ⟨_,_,Nat.lt_succ_self _,StLe.refl,done++[x],rest,_,by rw [hz];simp,rfl,rfl⟩
  | cons y kr=>
   have hlt1:decide ((kd.length:Int)<(done.length:Int))=true:=by rw [hkz];simp;omega
   have hkb:=zip_bd hkz
   have hkL:kd.length<L.length:=by omega
   have hgy:(L.map leafV)[kd.length]? = some (.agg [.s y.1,.sl (y.2.map Part.enc)]):=by
    rw [hz,hkz,List.append_assoc,List.getElem?_map,List.getElem?_append_right (by simp)];simp [leafV]
   have hyx:(y.1 == x.1)=false:=by
    rw [beq_eq_false_iff_ne]
    intro he
    exact hxd (by rw [<-he,hkz];simp)
   simp only [push_cast,seval,reduceEqDiff,hlt1,hgL,hgy,hyx,if_pos hbd,if_pos hkL,List.length_map,wrap_zip y (done:=kd) (by omega)]
   intros
   exact ⟨_,_,Nat.lt_succ_self _,StLe.refl,kd++[y],kr,_,by rw [hkz];simp,rfl,rfl⟩
end Go.Ir
