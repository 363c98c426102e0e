/-
  The two checks of a message agree, and what a message has ..
  What a message has that the checks accept: the cases of its ..
  How heavy resolved parts are.
  Flat forms as plain Lean data: the two sides agree.
  Contracts: Clone of cases, cloned.
  Contracts: Flat, of the reference.
  What an input reads as, as an abstract value: plain data ..
  The end of a law's proof: from the contract of the law to ..
  Inputs that are messages: every well-formed slice of parts ..
  Inputs that are locales: their rules, and the rest.
  Contracts: SameForm of a form with itself, formOf.
  Contracts: leaves, of the program
  Contracts: leaves and Leaves, of the program.
  Contracts: Sound, of the program.
  Contracts: awake, and the law VariantsFlat.
  The IR of functions of the program, printed by our own tool
  Contracts: values
  Contracts: the index of the key that a value chooses, of ..
  Contracts: Value of the reference, Select of both sides.
  Contracts: Sound and Select, of the reference.
  Contracts: FewForm
  Contract: form of the law's package.
  Contract: the law VariantsSelect.
  Inputs that are forms or values.
-/
import Derived.Test.YtjhgnkpcldnmdaaGreatDoorPad
import Derived.Test.YtjhgnkpcldnmdaaGreatDoorRows
import Derived.ChangeArms
import Derived.Carry
import Derived.ChangeSame
import Derived.OpenShut
import Derived.Test.YtjhgnkpcldnmdaaGreatDoorChecked
set_option linter.all false
set_option linter.defProp false
set_option linter.unusedSimpArgs false
set_option linter.unusedVariables false
open Nat (reduceEqDiff)
section
namespace Go.Ir
section tree
variable {P : Part → Prop} {Q : List Part → Prop} {R : List Case → Prop}
theorem tree_ind (hp:∀p:Part,R p.cases->Q p.parts->P p) (q0:Q []) (q1:∀p ps,P p->Q ps->Q (p::ps)) (r0:R []) (r1:∀(c:Case) (cs:List Case),Q c.2->R cs->R (c::cs)) :
  ∀N,(∀p:Part,p.wt<N->P p)/\(∀ps,wtPs ps<N->Q ps)/\(∀cs,wtCs cs<N->R cs):=by
 intro N
 induction N with
 | zero=>exact ⟨fun p h=>by omega,fun p h=>by omega,fun p h=>by omega⟩
 | succ N ih=>
  have h1:∀p:Part,p.wt<N+1->P p:=fun p h=>by
   rw [p.wt_eq] at h
   exact hp p (ih.2.2 _ (by omega)) (ih.2.1 _ (by omega))
  have h2:∀ps,wtPs ps<N+1->Q ps:=by
   intro ps
   induction ps with
   | nil=>intro _;exact q0
   | cons p ps ih2=>intro h;rw [wtPs_cons] at h;exact q1 p ps (h1 p (by omega)) (ih2 (by omega))
  refine ⟨h1,h2,fun cs=>?_⟩
  induction cs with
  | nil=>intro _;exact r0
  | cons c cs ih2=>intro h;rw [wtCs_cons] at h;exact r1 c cs (h2 c.2 (by omega)) (ih2 (by omega))
theorem tree_Q (hp:∀p:Part,R p.cases->Q p.parts->P p) (q0:Q []) (q1:∀p ps,P p->Q ps->Q (p::ps)) (r0:R []) (r1:∀(c:Case) (cs:List Case),Q c.2->R cs->R (c::cs)) (ps:List Part):Q ps:=
 (tree_ind hp q0 q1 r0 r1 _).2.1 ps (Nat.lt_succ_self _)
end tree
theorem nameB_ne {s:Bytes} (h:nameB s=true):s≠[]:=by rintro rfl;cases h
theorem selB_iff (k:Int):selB k=true↔k=7\/k=8\/k=9:=by unfold selB;simp;omega
theorem len0 {α:Type} {l:List α} (h:((l.length:Int) == 0)=true):l=[]:=by
 have:(l.length:Int)=0:=by simpa using h
 exact List.length_eq_zero_iff.1 (by omega)
theorem fields_plain (p:Part) (c:Bool) (h11:(p.kind == 11)=false) (hs:selB p.kind=false):plainB p c=(p.fieldsB&&!(p.kind == 10&&!c)):=by
 obtain ⟨k,t,nm,st,cs,ps⟩:=p
 simp only at h11 hs
 have h7:(k == 7)=false/\(k == 8)=false/\(k == 9)=false:=by
  have:¬(k=7\/k=8\/k=9):=fun h=>by rw [(selB_iff k).2 h] at hs;cases hs
  simp;omega
 obtain ⟨h7,h8,h9⟩:=h7
 unfold plainB plainK wT wN wS Part.fieldsB fieldsK
 simp only
 have ht:(t == t)=true:=by simp
 have hn:(nm == nm)=true:=by simp
 have hss:(st == st)=true:=by simp
 by_cases h1:k=1
 ·subst h1
  simp only [bq,if_true,if_false,Int.reduceBEq,reduceCtorEq,Int.reduceBEq,ht,hn,hss]
  generalize (t == [])=a1;generalize (nm == [])=a2;generalize (st == [])=a3;generalize ((cs.length:Int) == 0)=a4;generalize ((ps.length:Int) == 0)=a5
  cases a1<;>cases a2<;>cases a3<;>cases a4<;>cases a5<;>rfl
 by_cases h10:k=10
 ·subst h10
  simp only [bq,if_true,if_false,Int.reduceBEq,reduceCtorEq,Int.reduceBEq,ht,hn,hss]
  generalize (t == [])=a1;generalize (nm == [])=a2;generalize (st == [])=a3;generalize ((cs.length:Int) == 0)=a4;generalize ((ps.length:Int) == 0)=a5
  cases a1<;>cases a2<;>cases a3<;>cases a4<;>cases a5<;>cases c<;>rfl
 by_cases h2:k=2
 ·subst h2
  simp only [bq,if_true,if_false,Int.reduceBEq,reduceCtorEq,Int.reduceBEq,ht,hn,hss]
  generalize (t == [])=a1;generalize nameB nm=a2;generalize (st == [])=a3;generalize ((cs.length:Int) == 0)=a4;generalize ((ps.length:Int) == 0)=a5
  cases a1<;>cases a2<;>cases a3<;>cases a4<;>cases a5<;>rfl
 by_cases h3:k=3
 ·subst h3
  simp only [bq,if_true,if_false,Int.reduceBEq,reduceCtorEq,Int.reduceBEq,ht,hn,hss,numSt]
  generalize (t == [])=a1;generalize nameB nm=a2;generalize (st == [])=a3;generalize ((cs.length:Int) == 0)=a4;generalize ((ps.length:Int) == 0)=a5
  generalize (st == [105,110,116,101,103,101,114])=a6;generalize (st == [112,101,114,99,101,110,116])=a7
  cases a1<;>cases a2<;>cases a3<;>cases a4<;>cases a5<;>cases a6<;>cases a7<;>rfl
 by_cases h4:k=4
 ·subst h4
  simp only [bq,if_true,if_false,Int.reduceBEq,reduceCtorEq,Int.reduceBEq,ht,hn,hss]
  generalize (t == [])=a1;generalize nameB nm=a2;generalize nameB st=a3;generalize ((cs.length:Int) == 0)=a4;generalize ((ps.length:Int) == 0)=a5
  cases a1<;>cases a2<;>cases a3<;>cases a4<;>cases a5<;>rfl
 by_cases h5:k=5
 ·subst h5
  simp only [bq,if_true,if_false,Int.reduceBEq,reduceCtorEq,Int.reduceBEq,ht,hn,hss]
  generalize (t == [])=a1;generalize nameB nm=a2;generalize skeletonB st=a3;generalize ((cs.length:Int) == 0)=a4;generalize ((ps.length:Int) == 0)=a5
  cases a1<;>cases a2<;>cases a3<;>cases a4<;>cases a5<;>rfl
 by_cases h6:k=6
 ·subst h6
  simp only [bq,if_true,if_false,Int.reduceBEq,reduceCtorEq,Int.reduceBEq,ht,hn,hss]
  generalize (t == [])=a1;generalize nameB nm=a2;generalize nameB st=a3;generalize ((cs.length:Int) == 0)=a4;generalize ((ps.length:Int) == 0)=a5
  cases a1<;>cases a2<;>cases a3<;>cases a4<;>cases a5<;>rfl
 have e:∀j:Int,k≠j->(k == j)=false:=fun j h=>by simpa using h
 simp [e 1 h1,e 10 h10,e 2 h2,e 3 h3,e 4 h4,e 5 h5,e 6 h6,h7,h8,h9,h11]
theorem pos_dec (n:Nat):decide ((n:Int)>0) = !((n:Int) == 0):=by
 by_cases h:n=0
 ·subst h;rfl
 ·have h1:((n:Nat):Int)>0:=by omega
  have h2:¬((n:Int)=0):=by omega
  rw [decide_eq_true h1,beq_eq_false_iff_ne.2 h2];rfl
theorem cnt_sel {k:Int} (h:selB k=true):cntB k=(k != 9):=by
 rcases (selB_iff k).1 h with rfl|rfl|rfl<;>rfl
theorem chk_formed0 (ps:List Part):∀d c prev l,(chkPs ps d c prev l).1=formedPs ps (d+1) c prev:=by
 refine tree_Q (P:=fun p=>∀d c l,((p.fieldsB&&!(p.kind == 10&&!c))&&(p.chk d c l).1)=p.formedB (d+1) c)
  (Q:=fun ps=>∀d c prev l,(chkPs ps d c prev l).1=formedPs ps (d+1) c prev)
  (R:=fun cs=>∀k d c n seen l,selB k=true->(chkCs cs k d c n seen l).1=(decide ((n:Int)<=20)&&formedCs cs k d c seen)) ?_ ?_ ?_ ?_ ?_ ps
 ·intro p hr hq d c l
  rw [p.chk_eq,p.formedB_eq]
  by_cases h11:p.kind=11
  ·have hs:selB p.kind=false:=by rw [h11];rfl
   have h11':(p.kind == 11)=true:=by simpa using h11
   have h:=hq (d+1) c false l
   simp only [h11',hs,if_true,if_false,Bool.false_eq_true]
   have hf:p.fieldsB=(nameB p.name&&(p.text == []&&(p.style == []&&((p.cases.length:Int) == 0)))):=by
    unfold Part.fieldsB fieldsK;rw [h11];simp
   have h10:(p.kind == 10)=false:=by rw [h11];rfl
   have hd:decide (d+1>8)=decide (d>=8):=by simp;omega
   have hc:=pos_dec p.cases.length
   rw [hf,h10]
   unfold elHead
   rw [hd,hc,<-h]
   generalize nameB p.name=a1;generalize (p.text == [])=a2;generalize (p.style == [])=a3;generalize ((p.cases.length:Int) == 0)=a4
   cases decide (d>=8) with
   | true=>cases a1<;>cases a2<;>cases a3<;>cases a4<;>rfl
   | false=>
    simp only [Bool.false_eq_true,if_false]
    generalize chkPs p.parts (d+1) c false l=r
    obtain ⟨b,l1⟩:=r
    cases b<;>cases a1<;>cases a2<;>cases a3<;>cases a4<;>rfl
  ·have h11':(p.kind == 11)=false:=by simpa using h11
   simp only [h11',if_false,Bool.false_eq_true]
   cases hs:selB p.kind with
   | true=>
    have h:=hr p.kind (d+1) c p.cases.length [] l hs
    have hf:p.fieldsB=(nameB p.name&&(p.text == []&&(p.style == []&&((p.parts.length:Int) == 0)))):=by
     unfold Part.fieldsB fieldsK;rcases (selB_iff _).1 hs with e|e|e<;>(rw [e];simp)
    have h10:(p.kind == 10)=false:=by rcases (selB_iff _).1 hs with e|e|e<;>(rw [e];rfl)
    have hd:decide (d+1>8)=decide (d>=8):=by simp;omega
    have hc:=pos_dec p.parts.length
    have h20:decide ((p.cases.length:Int)>20) = !decide ((p.cases.length:Int)<=20):=by
     rw [Bool.eq_iff_iff];simp
    have h1:decide ((p.cases.length:Int)<1)=true->formedCs p.cases p.kind (d+1) c []=false:=by
     intro hh
     have:p.cases=[]:=List.length_eq_zero_iff.1 (by simp at hh;omega)
     rw [this];simp [formedCs]
    rw [hf,h10]
    unfold selHead
    rw [hd,hc,h20]
    simp only [if_true]
    generalize nameB p.name=a1;generalize (p.text == [])=a2;generalize (p.style == [])=a3;generalize ((p.parts.length:Int) == 0)=a4
    generalize decide ((p.cases.length:Int)<1)=a5 at *
    generalize formedCs p.cases p.kind (d+1) c []=F at *
    generalize decide ((p.cases.length:Int)<=20)=a6 at *
    cases decide (d>=8) with
    | true=>cases a1<;>cases a2<;>cases a3<;>cases a4<;>rfl
    | false=>
     simp only [Bool.false_eq_true,if_false]
     generalize chkCs p.cases p.kind (d+1) c p.cases.length [] l=r at *
     obtain ⟨b,l1⟩:=r
     simp only at h
     subst h
     cases a5 with
     | true=>rw [h1 rfl];cases a1<;>cases a2<;>cases a3<;>cases a4<;>cases a6<;>rfl
     | false=>cases F<;>cases a1<;>cases a2<;>cases a3<;>cases a4<;>cases a6<;>rfl
   | false=>
    simp only [if_false,Bool.false_eq_true]
    rw [fields_plain p c h11' hs];simp
 ·intro d c prev l;rfl
 ·intro p ps hp hq d c prev l
  rw [chkPs_cons,formedPs_cons,<-hp d c l]
  have hq2:=hq d c (p.kind == 1)
  generalize p.fieldsB=a1;generalize (p.kind == 10&&!c)=a2
  rw [Bool.and_comm (p.kind == 1) prev]
  generalize (prev&&p.kind == 1)=a3
  generalize p.chk d c l=r
  obtain ⟨b,l1⟩:=r
  simp only
  cases a1<;>cases a2<;>cases a3<;>cases b<;>simp [hq2]
 ·intro k d c n seen l _;simp [chkCs,formedCs]
 ·intro x cs hq hr k d c n seen l hs
  rw [chkCs_cons,formedCs_cons,cnt_sel hs,<-hq d (c||(k != 9)) false l]
  generalize (!keyB k x.1||seen.contains x.1)=a1
  generalize chkPs x.2 d (c||(k != 9)) false l=r
  obtain ⟨b,l1⟩:=r
  have:=hr k d c n (seen++[x.1]) l1 hs
  simp only
  cases a1<;>cases b<;>simp [this]
theorem text_len_eq (ps:List Part):∀d c prev,formedPs ps d c prev=true->lenPs ps=(textPs ps).length:=by
 refine tree_Q (P:=fun p=>∀d c,p.formedB d c=true->p.lenB=p.textB.length)
  (Q:=fun ps=>∀d c prev,formedPs ps d c prev=true->lenPs ps=(textPs ps).length)
  (R:=fun cs=>∀k d c keys,formedCs cs k d c keys=true->lenCs cs=(textCs cs).length) ?_ ?_ ?_ ?_ ?_ ps
 ·intro p hr hq d c h
  rw [p.formedB_eq] at h
  rw [p.lenB_eq,p.textB_eq]
  by_cases h11:p.kind=11
  ·have h1:(p.kind == 1)=false:=by rw [h11];rfl
   have h10:(p.kind == 10)=false:=by rw [h11];rfl
   have h11':(p.kind == 11)=true:=by simpa using h11
   rw [h11',if_pos rfl,Bool.and_eq_true] at h
   have h3:=hq _ _ _ h.2
   simp only [h1,h10,h11',if_true,if_false,Bool.false_eq_true]
   cases p.parts.isEmpty<;>simp [h3]<;>omega
  ·have h11':(p.kind == 11)=false:=by simpa using h11
   rw [h11',if_neg (by simp)] at h
   cases hs:selB p.kind with
   | true=>
    rw [hs,if_pos rfl,Bool.and_eq_true] at h
    have h3:=hr _ _ _ _ h.2
    have e1:(p.kind == 1)=false/\(p.kind == 10)=false/\(p.kind == 2)=false/\(decide (p.kind>=3)&&decide (p.kind<=9))=true:=by
     rcases (selB_iff _).1 hs with e|e|e<;>(rw [e];decide)
    obtain ⟨e1,e10,e2,e39⟩:=e1
    simp only [e1,e10,e2,h11',e39,if_true,if_false,Bool.false_eq_true]
    unfold useN useH useS useC
    rw [if_pos e39,hs]
    cases hst:(p.style == [])<;>simp [h3]<;>omega
   | false=>
    rw [hs,if_neg (by simp)] at h
    unfold plainB at h
    simp only [Bool.and_eq_true] at h
    obtain ⟨⟨⟨⟨⟨hk,hc⟩,hp⟩,ht⟩,hn⟩,hst⟩:=h
    have hc:=len0 hc
    rw [hc]
    by_cases k1:p.kind=1
    ·simp [k1]
    by_cases k10:p.kind=10
    ·simp [k10]
    have e:∀j:Int,p.kind≠j->(p.kind == j)=false:=fun j h=>by simpa using h
    by_cases k2:p.kind=2
    ·have hst2:p.style=[]:=by unfold wS at hst;rw [k2] at hst;simpa using hst
     rw [k2,hst2]
     simp [useN,selB,lenCs]<;>omega
    have k36:p.kind=3\/p.kind=4\/p.kind=5\/p.kind=6:=by
     unfold plainK at hk
     rw [e 1 k1,e 10 k10,e 2 k2] at hk
     simp only [Bool.false_eq_true,if_false] at hk
     split at hk
     ·rename_i hh;simp at hh;omega
     ·cases hk
    have e39:(decide (p.kind>=3)&&decide (p.kind<=9))=true:=by simp;omega
    simp only [e 1 k1,e 10 k10,e 2 k2,h11',e39,if_true,if_false,Bool.false_eq_true]
    unfold useN useH useS useC
    rw [if_pos e39,hs]
    cases hst:(p.style == [])<;>simp [lenCs,textCs]<;>omega
 ·intro d c prev _;simp [lenPs,textPs]
 ·intro p ps hp hq d c prev h
  rw [formedPs_cons,Bool.and_eq_true,Bool.and_eq_true] at h
  rw [lenPs_cons,textPs_cons,List.length_append,hp _ _ h.2.1,hq _ _ _ h.2.2]
 ·intro k d c keys _;simp [lenCs,textCs]
 ·intro x cs hq hr k d c keys h
  rw [formedCs_cons,Bool.and_eq_true,Bool.and_eq_true] at h
  rw [lenCs_cons,textCs_cons,hq _ _ _ h.2.1,hr _ _ _ _ h.2.2]
  simp<;>omega
mutual
def Part.nms:Part->List Bytes
 | ⟨k,_,n,_,cs,ps⟩=>(if decide (k>=2)&&decide (k<=9) then [n] else [])++(nmsPs ps++nmsCs cs)
def nmsPs:List Part->List Bytes
 | []=>[]
 | p::ps=>p.nms++nmsPs ps
def nmsCs:List (Bytes × List Part)->List Bytes
 | []=>[]
 | (_,ps)::cs=>nmsPs ps++nmsCs cs
end
theorem Part.nms_eq (p:Part):p.nms=(if decide (p.kind>=2)&&decide (p.kind<=9) then [p.name] else [])++(nmsPs p.parts++nmsCs p.cases):=by cases p;simp only [Part.nms]
theorem nmsPs_cons (p:Part) (ps:List Part):nmsPs (p::ps)=p.nms++nmsPs ps:=by simp only [nmsPs]
theorem nmsCs_cons (c:Case) (cs:List Case):nmsCs (c::cs)=nmsPs c.2++nmsCs cs:=by obtain ⟨k,q⟩:=c;simp only [nmsCs]
def Grew (l l' m:List Bytes):Prop:=(∀x,x∈l'↔x∈l\/x∈m)/\(l.Nodup->l'.Nodup)
theorem Grew.refl (l:List Bytes):Grew l l []:=⟨fun x=>by simp,fun h=>h⟩
theorem Grew.trans {a b c m n:List Bytes} (h:Grew a b m) (k:Grew b c n):Grew a c (m++n):=
 ⟨fun x=>by rw [k.1,h.1];simp [or_assoc],fun hn=>k.2 (h.2 hn)⟩
theorem Grew.same {a b m n:List Bytes} (h:Grew a b m) (hm:∀x,x∈m↔x∈n):Grew a b n:=⟨fun x=>by rw [h.1,hm],h.2⟩
theorem nodup_snoc {l:List Bytes} {x:Bytes} (h:l.Nodup) (hx:x ∉ l):(l++[x]).Nodup:=by
 rw [List.nodup_append]
 exact ⟨h,by simp,fun a ha b hb=>by simp at hb;subst hb;rintro rfl;exact hx ha⟩
theorem put_grew (x:Bytes) (l:List Bytes):Grew l (putN x l) [x]:=by
 unfold putN
 cases h:l.contains x with
 | true=>
  have hm:x∈l:=by simpa using h
  exact ⟨fun y=>by simp;rintro rfl;exact hm,fun h=>h⟩
 | false=>
  have hm:x ∉ l:=by simpa using h
  exact ⟨fun y=>by simp,fun h=>nodup_snoc h hm⟩
theorem add_grew (k:Int) (x:Bytes) (l:List Bytes):Grew l (addN k x l) (if decide (k>=2)&&decide (k<=9) then [x] else []):=by
 unfold addN
 cases hk:(decide (k>=2)&&decide (k<=9)) with
 | false=>simp only [Bool.false_and,Bool.false_eq_true,if_false];exact Grew.refl l
 | true=>
  have:=put_grew x l
  unfold putN at this
  cases h:l.contains x with
  | true=>rw [h] at this;simpa using this
  | false=>rw [h] at this;simpa using this
theorem names_grew (ps:List Part):∀l,Grew l (namesPs ps l) (nmsPs ps):=by
 refine tree_Q (P:=fun p=>∀l,Grew l (p.names l) p.nms) (Q:=fun ps=>∀l,Grew l (namesPs ps l) (nmsPs ps)) (R:=fun cs=>∀l,Grew l (namesCs cs l) (nmsCs cs)) ?_ ?_ ?_ ?_ ?_ ps
 ·intro p hr hq l
  rw [p.names_eq,p.nms_eq]
  exact (add_grew _ _ _).trans ((hq _).trans (hr _))
 ·intro l;simp only [namesPs,nmsPs];exact Grew.refl l
 ·intro p ps hp hq l;rw [namesPs_cons,nmsPs_cons];exact (hp l).trans (hq _)
 ·intro l;simp only [namesCs,nmsCs];exact Grew.refl l
 ·intro c cs hq hr l;rw [namesCs_cons,nmsCs_cons];exact (hq l).trans (hr _)
theorem fields_name {p:Part} (h:p.fieldsB=true):(if decide (p.kind>=2)&&decide (p.kind<=9) then [p.name] else [])=(if !(p.kind == 11)&&!(p.name == []) then [p.name] else []):=by
 obtain ⟨k,t,nm,st,cs,ps⟩:=p
 unfold Part.fieldsB fieldsK at h
 simp only at h⊢
 have e:∀j:Int,k≠j->(k == j)=false:=fun j h=>by simpa using h
 by_cases k1:k=1
 ·subst k1;simp at h;simp [h.2.1]
 by_cases k10:k=10
 ·subst k10;simp at h;simp [h.2.1]
 rw [e 1 k1,e 10 k10] at h
 simp only [Bool.false_eq_true,if_false,Bool.and_eq_true] at h
 have hn:=nameB_ne h.1
 have hn':(nm == [])=false:=by simpa using hn
 by_cases k11:k=11
 ·subst k11;rfl
 by_cases hk:2<=k/\k<=9
 ·have:(decide (k>=2)&&decide (k<=9))=true:=by simp;omega
  rw [this,e 11 k11,hn'];rfl
 ·have h2:=h.2.2
  rw [e 2 (by omega),e 11 k11,e 7 (by omega),e 8 (by omega),e 9 (by omega),e 3 (by omega),e 4 (by omega),e 6 (by omega),e 5 (by omega)] at h2
  simp at h2
theorem fields_cases {p:Part} (h:p.fieldsB=true):(selB p.kind=false->p.cases=[])/\((p.kind == 11)=false->p.parts=[])/\(p.kind == 11||selB p.kind->p.text=[]/\p.style=[]):=by
 obtain ⟨k,t,nm,st,cs,ps⟩:=p
 unfold Part.fieldsB fieldsK at h
 simp only at h⊢
 have e:∀j:Int,k≠j->(k == j)=false:=fun j h=>by simpa using h
 have nil:∀{α:Type} (l:List α),((l.length:Int) == 0)=true->l=[]:=fun l h=>len0 h
 by_cases k1:k=1
 ·subst k1;simp only [Int.reduceBEq,if_true,Bool.and_eq_true] at h
  exact ⟨fun _=>nil _ h.2.2.2.1,fun _=>nil _ h.2.2.2.2,fun hh=>by cases hh⟩
 by_cases k10:k=10
 ·subst k10;simp only [Int.reduceBEq,if_true,if_false,Bool.false_eq_true,Bool.and_eq_true] at h
  exact ⟨fun _=>nil _ h.2.2.2.1,fun _=>nil _ h.2.2.2.2,fun hh=>by cases hh⟩
 rw [e 1 k1,e 10 k10] at h
 simp only [Bool.false_eq_true,if_false,Bool.and_eq_true] at h
 obtain ⟨hn,ht,h⟩:=h
 by_cases k2:k=2
 ·subst k2;simp only [Int.reduceBEq,if_true,Bool.and_eq_true] at h
  exact ⟨fun _=>nil _ h.2.1,fun _=>nil _ h.2.2,fun hh=>by cases hh⟩
 by_cases k11:k=11
 ·subst k11;simp only [Int.reduceBEq,if_true,if_false,Bool.false_eq_true,Bool.and_eq_true] at h
  exact ⟨fun _=>nil _ h.2,fun hh=>(by cases hh),fun _=>⟨by simpa using ht,by simpa using h.1⟩⟩
 rw [e 2 k2,e 11 k11] at h
 simp only [Bool.false_eq_true,if_false] at h
 by_cases hs:selB k=true
 ·have h789:(k == 7||k == 8||k == 9)=true:=by rcases (selB_iff k).1 hs with rfl|rfl|rfl<;>rfl
  rw [h789,if_pos rfl,Bool.and_eq_true] at h
  exact ⟨fun hh=>(by rw [hs] at hh;cases hh),fun _=>nil _ h.2,fun _=>⟨by simpa using ht,by simpa using h.1⟩⟩
 ·have hs':selB k=false:=by simpa using hs
  have n7:k≠7/\k≠8/\k≠9:=⟨fun e=>hs ((selB_iff k).2 (.inl e)),fun e=>hs ((selB_iff k).2 (.inr (.inl e))),fun e=>hs ((selB_iff k).2 (.inr (.inr e)))⟩
  rw [e 7 n7.1,e 8 n7.2.1,e 9 n7.2.2] at h
  simp only [Bool.or_self,Bool.false_eq_true,if_false] at h
  have hx:((cs.length:Int) == 0)=true/\((ps.length:Int) == 0)=true:=by
   split at h
   ·simp only [Bool.and_eq_true] at h;exact h.2
   ·split at h
    ·simp only [Bool.and_eq_true] at h;exact h.2
    ·split at h
     ·simp only [Bool.and_eq_true] at h;exact h.2
     ·cases h
  refine ⟨fun _=>nil _ hx.1,fun _=>nil _ hx.2,fun hh=>?_⟩
  rw [e 11 k11,hs'] at hh;cases hh
theorem chk_grew (ps:List Part):∀d c prev l,(chkPs ps d c prev l).1=true->Grew l (chkPs ps d c prev l).2 (nmsPs ps):=by
 refine tree_Q (P:=fun p=>p.fieldsB=true->∀d c l,(p.chk d c l).1=true->Grew l (p.chk d c l).2 p.nms)
  (Q:=fun ps=>∀d c prev l,(chkPs ps d c prev l).1=true->Grew l (chkPs ps d c prev l).2 (nmsPs ps))
  (R:=fun cs=>∀k d c n seen l,(chkCs cs k d c n seen l).1=true->Grew l (chkCs cs k d c n seen l).2 (nmsCs cs)) ?_ ?_ ?_ ?_ ?_ ps
 ·intro p hr hq hf d c l h
  obtain ⟨hc,hp,_⟩:=fields_cases hf
  rw [p.chk_eq] at h⊢
  rw [p.nms_eq,fields_name hf]
  have hfin:∀l2 m,Grew l l2 m->Grew l (if !(p.kind == 11)&&!(p.name == []) then putN p.name l2 else l2) ((if !(p.kind == 11)&&!(p.name == []) then [p.name] else [])++m):=by
   intro l2 m hm
   cases (!(p.kind == 11)&&!(p.name == [])) with
   | true=>
    simp only [if_true]
    exact (hm.trans (put_grew p.name l2)).same fun x=>by simp;constructor<;>(intro h;rcases h with h|h<;>simp [h])
   | false=>simpa using hm
  by_cases h11:p.kind=11
  ·have hs:selB p.kind=false:=by rw [h11];rfl
   have h11':(p.kind == 11)=true:=by simpa using h11
   rw [hc hs]
   have h0:nmsCs []=[]:=by simp only [nmsCs]
   rw [h0,List.append_nil]
   have h2:=hq (d+1) c false l
   simp only [h11',hs,if_true,if_false,Bool.false_eq_true] at h hfin⊢
   by_cases hd:decide (d>=8)=true
   ·rw [hd] at h;simp at h
   ·have hd':decide (d>=8)=false:=by simpa using hd
    rw [hd'] at h⊢
    simp only [Bool.false_eq_true,if_false] at h⊢
    generalize chkPs p.parts (d+1) c false l=r at *
    obtain ⟨b,l1⟩:=r
    cases b with
    | false=>simp at h
    | true=>exact hfin l1 _ (h2 rfl)
  ·have h11':(p.kind == 11)=false:=by simpa using h11
   rw [hp h11']
   have h0:nmsPs []=[]:=by simp only [nmsPs]
   rw [h0,List.nil_append]
   simp only [h11',if_false,Bool.false_eq_true] at h hfin⊢
   cases hs:selB p.kind with
   | false=>
    rw [hs] at h
    rw [hc hs]
    have h0:nmsCs []=[]:=by simp only [nmsCs]
    rw [h0]
    simp only [if_false,Bool.false_eq_true] at h⊢
    exact hfin l [] (Grew.refl l)
   | true=>
    rw [hs] at h
    have h2:=hr p.kind (d+1) c p.cases.length [] l
    simp only [if_true] at h⊢
    by_cases hd:decide (d>=8)=true
    ·rw [hd] at h;simp at h
    ·have hd':decide (d>=8)=false:=by simpa using hd
     rw [hd'] at h⊢
     simp only [Bool.false_eq_true,if_false] at h⊢
     generalize chkCs p.cases p.kind (d+1) c p.cases.length [] l=r at *
     obtain ⟨b,l1⟩:=r
     cases b with
     | false=>simp at h
     | true=>exact hfin l1 _ (h2 rfl)
 ·intro d c prev l _;simp only [chkPs,nmsPs];exact Grew.refl l
 ·intro p ps hp hq d c prev l h
  rw [chkPs_cons] at h⊢
  rw [nmsPs_cons]
  split at h
  ·cases h
  ·rename_i hn
   rw [if_neg hn]
   have hf:p.fieldsB=true:=by
    cases hh:p.fieldsB with
    | true=>rfl
    | false=>exfalso;apply hn;rw [hh];simp
   have h1:=hp hf d c l
   generalize p.chk d c l=r at *
   obtain ⟨b,l1⟩:=r
   cases b with
   | false=>simp at h
   | true=>exact (h1 rfl).trans (hq _ _ _ _ h)
 ·intro k d c n seen l _;simp only [chkCs,nmsCs];exact Grew.refl l
 ·intro x cs hq hr k d c n seen l h
  rw [chkCs_cons] at h⊢
  rw [nmsCs_cons]
  split at h
  ·cases h
  ·rename_i hn
   rw [if_neg hn]
   have h1:=hq d (c||(k != 9)) false l
   generalize chkPs x.2 d (c||(k != 9)) false l=r at *
   obtain ⟨b,l1⟩:=r
   cases b with
   | false=>simp at h
   | true=>exact (h1 rfl).trans (hr _ _ _ _ _ _ h)
theorem nodup_sub {a b:List Bytes} (ha:a.Nodup) (h:∀x∈a,x∈b):a.length<=b.length:=by
 induction a generalizing b with
 | nil=>simp
 | cons x a ih=>
  rw [List.nodup_cons] at ha
  have hx:x∈b:=h x (by simp)
  have:=ih (b:=b.erase x) ha.2 fun y hy=>by
   have hne:y≠x:=fun e=>ha.1 (e ▸ hy)
   exact (List.mem_erase_of_ne hne).2 (h y (by simp [hy]))
  rw [List.length_erase_of_mem hx] at this
  have:0<b.length:=List.length_pos_of_mem hx
  simp;omega
theorem valid_same (ps:List Part):validP ps=validB ps:=by
 unfold validP validB
 rw [chk_formed0 ps 0 false false []]
 have h01:(0:Int)+1=1:=rfl
 rw [h01]
 cases hf:formedPs ps 1 false false with
 | false=>simp
 | true=>
  have h1:=chk_grew ps 0 false false [] (by rw [chk_formed0,h01,hf])
  have h2:=names_grew ps []
  have h3:=text_len_eq ps _ _ _ hf
  have ha:=nodup_sub (h1.2 List.nodup_nil) fun x hx=>(h2.1 x).2 ((h1.1 x).1 hx)
  have hb:=nodup_sub (h2.2 List.nodup_nil) fun x hx=>(h1.1 x).2 ((h2.1 x).1 hx)
  have:(chkPs ps 0 false false []).2.length=(namesPs ps []).length:=Nat.le_antisymm ha hb
  rw [this,h3]
end Go.Ir
end
namespace Go.Ir
structure WfP (p:Part):Prop where
 keys:selB p.kind=true->∀c∈p.cases,keyB p.kind c.1=true
 other:selB p.kind=true->∃c∈p.cases,c.1=kOtherS
 cases0:selB p.kind=false->p.cases=[]
 parts0:(p.kind == 11)=false->p.parts=[]
 elem:(p.kind == 11)=true->p.text=[]/\p.style=[]
 name:selB p.kind=true->p.name.length<=40
theorem nameB_len {s:Bytes} (h:nameB s=true):s.length<=40:=by
 cases s with
 | nil=>simp
 | cons c r=>
  unfold nameB at h
  simp only [Bool.and_eq_true,decide_eq_true_eq] at h
  omega
theorem plain_fields {p:Part} {c:Bool} (h11:(p.kind == 11)=false) (hs:selB p.kind=false) (h:plainB p c=true):p.fieldsB=true:=by
 rw [fields_plain p c h11 hs,Bool.and_eq_true] at h
 exact h.1
theorem formed_wf (ps:List Part):∀d c prev,formedPs ps d c prev=true->allPs WfP ps:=by
 refine tree_Q (P:=fun p=>∀d c,p.formedB d c=true->p.all WfP)
  (Q:=fun ps=>∀d c prev,formedPs ps d c prev=true->allPs WfP ps)
  (R:=fun cs=>∀k d c keys,formedCs cs k d c keys=true->allCs WfP cs/\(∀x∈cs,keyB k x.1=true)/\(keys.contains kOtherS=true\/∃x∈cs,x.1=kOtherS)) ?_ ?_ ?_ ?_ ?_ ps
 ·intro p hr hq d c h
  rw [p.formedB_eq] at h
  rw [p.all_eq]
  cases h11:p.kind == 11 with
  | true=>
   have hs:selB p.kind=false:=by
    have:p.kind=11:=by simpa using h11
    rw [this];rfl
   rw [h11,if_pos rfl,Bool.and_eq_true] at h
   obtain ⟨h1,h2⟩:=h
   unfold elHead at h1
   simp at h1
   have hc:p.cases=[]:=by simpa using h1.2
   refine ⟨⟨fun hh=>(by rw [hs] at hh;cases hh),fun hh=>(by rw [hs] at hh;cases hh),fun _=>hc,fun hh=>(by rw [h11] at hh;cases hh),fun _=>⟨h1.1.1.2,h1.1.2⟩,fun hh=>(by rw [hs] at hh;cases hh)⟩,?_,hq _ _ _ h2⟩
   rw [hc];simp only [allCs]
  | false=>
   rw [h11,if_neg (by simp)] at h
   cases hs:selB p.kind with
   | true=>
    rw [hs,if_pos rfl,Bool.and_eq_true] at h
    obtain ⟨h1,h2⟩:=h
    unfold selHead at h1
    simp at h1
    have hp:p.parts=[]:=by simpa using h1.1.1.2
    obtain ⟨a1,a2,a3⟩:=hr _ _ _ _ h2
    refine ⟨⟨fun _=>a2,fun _=>?_,fun hh=>(by rw [hs] at hh;cases hh),fun _=>hp,fun hh=>(by rw [h11] at hh;cases hh),fun _=>nameB_len h1.1.1.1.1.1.2⟩,a1,?_⟩
    ·rcases a3 with a3|a3
     ·cases a3
     ·exact a3
    ·rw [hp];simp only [allPs]
   | false=>
    rw [hs,if_neg (by simp)] at h
    obtain ⟨f1,f2,f3⟩:=fields_cases (plain_fields h11 hs h)
    refine ⟨⟨fun hh=>(by rw [hs] at hh;cases hh),fun hh=>(by rw [hs] at hh;cases hh),f1,f2,fun hh=>(by rw [h11] at hh;cases hh),fun hh=>(by rw [hs] at hh;cases hh)⟩,?_,?_⟩
    ·rw [f1 hs];simp only [allCs]
    ·rw [f2 h11];simp only [allPs]
 ·intro d c prev _;simp only [allPs]
 ·intro p ps hp hq d c prev h
  rw [formedPs_cons,Bool.and_eq_true,Bool.and_eq_true] at h
  rw [allPs_cons]
  exact ⟨hp _ _ h.2.1,hq _ _ _ h.2.2⟩
 ·intro k d c keys h
  refine ⟨by simp only [allCs],fun x hx=>(by cases hx),.inl ?_⟩
  simpa only [formedCs] using h
 ·intro x cs hq hr k d c keys h
  rw [formedCs_cons,Bool.and_eq_true,Bool.and_eq_true] at h
  obtain ⟨h0,h1,h2⟩:=h
  obtain ⟨a1,a2,a3⟩:=hr _ _ _ _ h2
  have hk:keyB k x.1=true:=by
   cases hh:keyB k x.1 with
   | true=>rfl
   | false=>rw [hh] at h0;simp at h0
  rw [allCs_cons]
  refine ⟨⟨hq _ _ _ h1,a1⟩,fun y hy=>?_,?_⟩
  ·rcases List.mem_cons.1 hy with rfl|hy
   ·exact hk
   ·exact a2 y hy
  ·rcases a3 with a3|⟨y,hy,hy2⟩
   ·have:kOtherS∈keys\/kOtherS=x.1:=by simpa using a3
    rcases this with h|h
    ·left;simpa using h
    ·right;exact ⟨x,by simp,h.symm⟩
   ·right;exact ⟨y,by simp [hy],hy2⟩
theorem valid_wf {ps:List Part} (h:validB ps=true):allPs WfP ps:=by
 unfold validB at h
 rw [Bool.and_eq_true,Bool.and_eq_true] at h
 exact formed_wf ps _ _ _ h.1.1
theorem all_imp {f g:Part->Prop} (hfg:∀p,f p->g p) (ps:List Part):allPs f ps->allPs g ps:=by
 refine tree_Q (P:=fun p=>p.all f->p.all g) (Q:=fun ps=>allPs f ps->allPs g ps) (R:=fun cs=>allCs f cs->allCs g cs) ?_ ?_ ?_ ?_ ?_ ps
 ·intro p hr hq;rw [p.all_eq,p.all_eq];exact fun h=>⟨hfg p h.1,hr h.2.1,hq h.2.2⟩
 ·intro _;simp only [allPs]
 ·intro p ps hp hq;rw [allPs_cons,allPs_cons];exact fun h=>⟨hp h.1,hq h.2⟩
 ·intro _;simp only [allCs]
 ·intro c cs hq hr;rw [allCs_cons,allCs_cons];exact fun h=>⟨hq h.1,hr h.2⟩
theorem all_and {f g:Part->Prop} (ps:List Part):allPs f ps->allPs g ps->allPs (fun p=>f p/\g p) ps:=by
 refine tree_Q (P:=fun p=>p.all f->p.all g->p.all (fun p=>f p/\g p)) (Q:=fun ps=>allPs f ps->allPs g ps->allPs (fun p=>f p/\g p) ps) (R:=fun cs=>allCs f cs->allCs g cs->allCs (fun p=>f p/\g p) cs) ?_ ?_ ?_ ?_ ?_ ps
 ·intro p hr hq;rw [p.all_eq,p.all_eq,p.all_eq];exact fun h k=>⟨⟨h.1,k.1⟩,hr h.2.1 k.2.1,hq h.2.2 k.2.2⟩
 ·intro _ _;simp only [allPs]
 ·intro p ps hp hq;rw [allPs_cons,allPs_cons,allPs_cons];exact fun h k=>⟨hp h.1 k.1,hq h.2 k.2⟩
 ·intro _ _;simp only [allCs]
 ·intro c cs hq hr;rw [allCs_cons,allCs_cons,allCs_cons];exact fun h k=>⟨hq h.1 k.1,hr h.2 k.2⟩
theorem all_short (ps:List Part):∀M,wtPs ps<=M->allPs (fun p=>∀c∈p.cases,c.1.length<=M) ps:=by
 refine tree_Q (P:=fun p=>∀M,p.wt<=M->p.all (fun p=>∀c∈p.cases,c.1.length<=M)) (Q:=fun ps=>∀M,wtPs ps<=M->allPs (fun p=>∀c∈p.cases,c.1.length<=M) ps) (R:=fun cs=>∀M,wtCs cs<=M->allCs (fun p=>∀c∈p.cases,c.1.length<=M) cs) ?_ ?_ ?_ ?_ ?_ ps
 ·intro p hr hq M h
  rw [p.wt_eq] at h
  rw [p.all_eq]
  exact ⟨fun c hc=>by have:=wtCs_mem hc;omega,hr M (by omega),hq M (by omega)⟩
 ·intro M _;simp only [allPs]
 ·intro p ps hp hq M h;rw [wtPs_cons] at h;rw [allPs_cons];exact ⟨hp M (by omega),hq M (by omega)⟩
 ·intro M _;simp only [allCs]
 ·intro c cs hq hr M h;rw [wtCs_cons] at h;rw [allCs_cons];exact ⟨hq M (by omega),hr M (by omega)⟩
theorem collPs_ext (ps:List Part) (l:List Sel):SelExt l (collPs ps l):=(coll_same _ ps (Nat.lt_succ_self _) l).2
theorem collCs_ext (cs:List Case):∀j l,SelExt l (collCs cs j l):=by
 induction cs with
 | nil=>intro j l;simp only [collCs];exact SelExt.refl l
 | cons c cs ih=>intro j l;rw [collCs_cons];exact ((SelExt.mod l j c.1).trans (collPs_ext c.2 _)).trans (ih _ _)
theorem selAdd_ext (l:List Sel) (k:Int) (n:Bytes):SelExt l (selAdd l k n):=by
 unfold selAdd
 split
 ·exact SelExt.app _ _
 ·exact SelExt.refl _
def FoundP (L:List Sel) (p:Part):Prop:=selB p.kind=true->¬findI L p.kind p.name<0
theorem FoundP.mono {L L':List Sel} (h:SelExt L L') {p:Part} (hp:FoundP L p):FoundP L' p:=fun hs=>by
 have:=hp hs
 rw [findI_ext h _ _ this];exact this
theorem coll_found (ps:List Part):allPs WfP ps->∀l,allPs (FoundP (collPs ps l)) ps:=by
 refine tree_Q (P:=fun p=>p.all WfP->∀l,p.all (FoundP (p.coll l))) (Q:=fun ps=>allPs WfP ps->∀l,allPs (FoundP (collPs ps l)) ps) (R:=fun cs=>allCs WfP cs->∀j l,allCs (FoundP (collCs cs j l)) cs) ?_ ?_ ?_ ?_ ?_ ps
 ·intro p hr hq h l
  rw [p.all_eq] at h⊢
  obtain ⟨h1,h2,h3⟩:=h
  rw [p.coll_eq]
  have hp:=hq h3 l
  cases hs:selB p.kind with
  | true=>
   simp only [if_true]
   have e1:=selAdd_ext (collPs p.parts l) p.kind p.name
   have e2:=collCs_ext p.cases (selAt (collPs p.parts l) p.kind p.name) (selAdd (collPs p.parts l) p.kind p.name)
   refine ⟨fun _=>?_,hr h2 _ _,all_imp (fun q hq=>FoundP.mono (e1.trans e2) hq) _ hp⟩
   have:=(selAt_ge (collPs p.parts l) p.kind p.name).1
   rw [findI_ext e2 _ _ this];exact this
  | false=>
   simp only [if_false,Bool.false_eq_true]
   refine ⟨fun hh=>(by rw [hs] at hh;cases hh),?_,hp⟩
   rw [h1.cases0 hs];simp only [allCs]
 ·intro _ l;simp only [allPs]
 ·intro p ps hp hq h l
  rw [allPs_cons] at h⊢
  rw [collPs_cons]
  have e:=collPs_ext ps (p.coll l)
  refine ⟨?_,hq h.2 _⟩
  have h3:=hp h.1 l
  have:=all_imp (f:=FoundP (p.coll l)) (g:=FoundP (collPs ps (p.coll l))) (fun q hq=>FoundP.mono e hq) [p] (by rw [allPs_cons];exact ⟨h3,by simp only [allPs]⟩)
  rw [allPs_cons] at this
  exact this.1
 ·intro _ j l;simp only [allCs]
 ·intro c cs hq hr h j l
  rw [allCs_cons] at h⊢
  rw [collCs_cons]
  have e:=collCs_ext cs j (collPs c.2 (l.modify j (addKey c.1)))
  exact ⟨all_imp (fun q hq=>FoundP.mono e hq) _ (hq h.1 _),hr h.2 _ _⟩
def KS (G:Int->Bytes->Prop) (l:List Sel):Prop:=∀s∈l,∀k∈s.keys,G s.kind k
theorem KS.mod {G:Int->Bytes->Prop} {l:List Sel} (h:KS G l) {j:Nat} {key:Bytes} {s:Sel} (hs:l[j]? = some s) (hk:G s.kind key):KS G (l.modify j (addKey key)):=by
 intro t ht k hkt
 obtain ⟨i,hi⟩:=List.getElem?_of_mem ht
 rw [List.getElem?_modify] at hi
 by_cases hj:j=i
 ·subst hj
  rw [hs] at hi
  have h2:addKey key s=t:=by simpa using hi
  subst h2
  have hm:=List.mem_of_getElem? hs
  unfold addKey at hkt⊢
  split at hkt
  ·rename_i hc;rw [if_pos hc];exact h s hm k hkt
  ·rename_i hc;rw [if_neg hc]
   simp only [List.mem_append,List.mem_singleton] at hkt
   rcases hkt with hkt|rfl
   ·exact h s hm k hkt
   ·exact hk
 ·have:l[i]? = some t:=by
   cases hl:l[i]? with
   | none=>rw [hl] at hi;simp at hi
   | some u=>rw [hl] at hi;simp [hj] at hi;rw [hi]
  exact h t (List.mem_of_getElem? this) k hkt
theorem KS.add {G:Int->Bytes->Prop} {l:List Sel} (h:KS G l) (k:Int) (n:Bytes):KS G (selAdd l k n):=by
 unfold selAdd
 split
 ·intro s hs k hk
  rcases List.mem_append.1 hs with hs|hs
  ·exact h s hs k hk
  ·simp at hs;subst hs;cases hk
 ·exact h
def KeysG (G:Int->Bytes->Prop) (p:Part):Prop:=selB p.kind=true->∀c∈p.cases,G p.kind c.1
theorem selAdd_at (l:List Sel) (k:Int) (n:Bytes):∃s,(selAdd l k n)[selAt l k n]? = some s/\s.kind=k:=by
 unfold selAdd selAt
 by_cases h:findI l k n<0
 ·rw [if_pos h,if_pos h]
  exact ⟨⟨k,n,[]⟩,by simp,rfl⟩
 ·rw [if_neg h,if_neg h]
  unfold findI at h⊢
  induction l with
  | nil=>exact absurd (by simp [idxI]) h
  | cons s l ih=>
   simp only [idxI] at h⊢
   cases hs:selIs k n s with
   | true=>
    refine ⟨s,rfl,?_⟩
    unfold selIs at hs;simp at hs;exact hs.1
   | false=>
    simp only [hs,cond_false] at h⊢
    have h2:¬idxI (selIs k n) l<0:=by intro hlt;rw [if_pos hlt] at h;exact h (by decide)
    obtain ⟨t,h3,h4⟩:=ih h2
    rw [if_neg h2]
    refine ⟨t,?_,h4⟩
    have:(idxI (selIs k n) l+1).toNat=(idxI (selIs k n) l).toNat+1:=by omega
    rw [this];exact h3
theorem ext_at {l l':List Sel} (h:SelExt l l') {j:Nat} {k:Int} (hj:∃s,l[j]? = some s/\s.kind=k):∃s,l'[j]? = some s/\s.kind=k:=by
 obtain ⟨s,h1,h2⟩:=hj
 have hi:j<l'.length:=Nat.lt_of_lt_of_le (List.getElem?_eq_some_iff.1 h1).1 h.1
 exact ⟨l'[j],List.getElem?_eq_getElem hi,by rw [<-(h.2 j s _ h1 (List.getElem?_eq_getElem hi)).1];exact h2⟩
theorem coll_keys (G:Int->Bytes->Prop) (ps:List Part):allPs (KeysG G) ps->∀l,KS G l->KS G (collPs ps l):=by
 refine tree_Q (P:=fun p=>p.all (KeysG G)->∀l,KS G l->KS G (p.coll l)) (Q:=fun ps=>allPs (KeysG G) ps->∀l,KS G l->KS G (collPs ps l))
  (R:=fun cs=>allCs (KeysG G) cs->∀k,(∀c∈cs,G k c.1)->∀j l,(∃s,l[j]? = some s/\s.kind=k)->KS G l->KS G (collCs cs j l)) ?_ ?_ ?_ ?_ ?_ ps
 ·intro p hr hq h l hl
  rw [p.all_eq] at h
  rw [p.coll_eq]
  have h1:=hq h.2.2 l hl
  cases hs:selB p.kind with
  | true=>
   simp only [if_true]
   exact hr h.2.1 p.kind (h.1 hs) _ _ (selAdd_at _ _ _) (h1.add _ _)
  | false=>simpa using h1
 ·intro _ l hl;simpa only [collPs] using hl
 ·intro p ps hp hq h l hl
  rw [allPs_cons] at h
  rw [collPs_cons]
  exact hq h.2 _ (hp h.1 l hl)
 ·intro _ k _ j l _ hl;simpa only [collCs] using hl
 ·intro c cs hq hr h k hk j l hj hl
  rw [allCs_cons] at h
  rw [collCs_cons]
  obtain ⟨s,hs,hsk⟩:=hj
  have h2:=hq h.1 _ (hl.mod hs (by rw [hsk];exact hk c (by simp)))
  exact hr h.2 k (fun d hd=>hk d (by simp [hd])) j _ (ext_at ((SelExt.mod l j c.1).trans (collPs_ext c.2 _)) ⟨s,hs,hsk⟩) h2
theorem findI_ord (l:List Sel) (k:Int) (n:Bytes):findI (l.map Sel.ord) k n=findI l k n:=by
 unfold findI
 induction l with
 | nil=>rfl
 | cons s l ih=>
  have:selIs k n s.ord=selIs k n s:=rfl
  simp only [List.map_cons,idxI,this,ih]
theorem findC_ne {cs:List Case} {k:Bytes} (h:∃c∈cs,c.1=k):findC cs k≠none:=by
 obtain ⟨c,hc,hk⟩:=h
 intro hn
 have:(cs.find? fun c=>c.1 == k)=none:=by
  unfold findC at hn;simpa using hn
 have:=List.find?_eq_none.1 this c hc
 simp [hk] at this
theorem ord_mem {kind:Int} {keys:List Bytes} {k:Bytes} (h:k∈ordK kind keys):k∈keys\/k=kOtherS:=by
 unfold ordK at h
 simp only [List.mem_append,List.mem_singleton] at h
 rcases h with h|h|h
 ·left;exact (List.mem_filter.1 h).1
 ·unfold clsK at h
  split at h
  ·cases h
  ·left;have:=(List.mem_filter.1 h).2;simpa using this
 ·right;exact h
theorem ord_ne (kind:Int) (keys:List Bytes):ordK kind keys≠[]:=by unfold ordK;simp
theorem ord_len (kind:Int) (keys:List Bytes):(ordK kind keys).length<=keys.length+6:=by
 unfold ordK
 rw [List.length_append,List.length_append]
 have h1:=List.length_filter_le (keepK kind) keys
 have h2:(clsK kind keys).length<=5:=by
  unfold clsK
  split
  ·simp
  ·exact List.length_filter_le _ kFive
 simp;omega
theorem sels_len (ps:List Part):(selsP ps).length<=wtPs ps:=by
 unfold selsP
 rw [List.length_map]
 have:=collPs_w ps []
 have h2:=len_selW (collPs ps [])
 simp only [selW] at this;omega
theorem sels_keys (ps:List Part):∀s∈selsP ps,s.keys≠[]/\s.keys.length<=wtPs ps+6:=by
 intro s hs
 obtain ⟨t,ht,rfl⟩:=List.mem_map.1 hs
 refine ⟨ord_ne _ _,?_⟩
 have h1:=ord_len t.kind t.keys
 have h2:=keys_selW ht
 have h3:=collPs_w ps []
 simp only [selW] at h3
 show (ordK t.kind t.keys).length<=_
 omega
theorem KS.nil (G:Int->Bytes->Prop):KS G []:=fun s hs=>by cases hs
theorem sels_klen (ps:List Part):∀s∈selsP ps,∀k∈s.keys,k.length<=wtPs ps+5:=by
 intro s hs k hk
 obtain ⟨t,ht,rfl⟩:=List.mem_map.1 hs
 have h:=coll_keys (fun _ k=>k.length<=wtPs ps) ps (all_imp (fun p hp _ c hc=>hp c hc) ps (all_short ps _ (Nat.le_refl _))) [] (KS.nil _)
 rcases ord_mem (kind:=t.kind) (keys:=t.keys) hk with h1|rfl
 ·have:=h t ht k h1;omega
 ·show 5<=_;omega
theorem valid_ok {ps:List Part} (h:allPs WfP ps):allPs (resOk (selsP ps)) ps:=by
 refine all_imp (fun p hp=>?_) ps (all_and ps h (coll_found ps h []))
 intro hs
 refine ⟨?_,findC_ne (hp.1.other hs)⟩
 unfold selsP
 rw [findI_ord];exact hp.2 hs
theorem combR_401 (l:List Sel) (hk:∀s∈l,s.keys≠[]):combR 401 l=401:=by
 induction l with
 | nil=>rfl
 | cons s l ih=>
  rw [combR]
  have h1:0<s.keys.length:=List.length_pos_iff.2 (hk s (by simp))
  have h2:401*1<=401*s.keys.length:=Nat.mul_le_mul_left _ h1
  rw [Nat.min_eq_right (by omega)]
  exact ih fun t ht=>hk t (by simp [ht])
theorem comb_same (l:List Sel) (hk:∀s∈l,s.keys≠[]):∀n,n<=400->(combP n l<=400/\combR n l=combP n l)\/(400<combP n l/\400<combR n l):=by
 induction l with
 | nil=>intro n hn;left;exact ⟨hn,rfl⟩
 | cons s l ih=>
  intro n hn
  rw [combP,combR]
  by_cases h:400<n*s.keys.length
  ·right
   rw [if_pos h,Nat.min_eq_right (by omega),combR_401 l fun t ht=>hk t (by simp [ht])]
   exact ⟨h,by decide⟩
  ·rw [if_neg h,Nat.min_eq_left (by omega)]
   exact ih (fun t ht=>hk t (by simp [ht])) _ (by omega)
theorem wtPs_app (a b:List Part):wtPs (a++b)=wtPs a+wtPs b:=by
 induction a with
 | nil=>simp [wtPs_nil]
 | cons x a ih=>rw [List.cons_append,wtPs_cons,wtPs_cons,ih];omega

end Go.Ir
namespace Go.Ir
open Go.Proofs
variable (W0 : World)
theorem okCe (l:List Case):∀y∈l.map Case.enc,y.ok=true:=by
 intro y hy;obtain ⟨x,_,rfl⟩:=List.mem_map.1 hy;rfl
theorem celCe (l:List Case):∀y∈l.map Case.enc,(cells y).length=2:=by
 intro y hy;obtain ⟨x,_,rfl⟩:=List.mem_map.1 hy;rfl
def TCs:Nat:=77
theorem c_cloneC (cs:List Case) (hl:cs.length<=2^30):RetN Tryz.prog W0 145 [.sl (cs.map Case.enc)] [] (.arr TCs 2 (cs.map Case.enc)) []:=by
 refine fn_newW (s:=2) f145ok (by simp) (by simp [lk]) fun n0 hn0=>?_
 clear hn0
 have hll:cs.length<=LLim:=by unfold LLim;omega
 cases cs with
 | nil=>
  simp only [push_cast,seval,reduceEqDiff,List.map_nil,List.length_nil,eq_true (show 0<=LLim by decide),eq_true (celCe [])]
  intros
  refine ⟨?_,?_⟩
  ·intros
   exact ⟨_,StLe.own (s:=2) (e:=TCs) (sz:=2) (k:=0) rfl,_,rfl,by simp [lk],rfl,fun _ _ h=>by cases h⟩
  ·intros
   exact finNW_i rfl (by simp [lk,TCs])
 | cons c cs=>
  have hcel:=celCe (c::cs)
  rw [List.map_cons] at hcel
  rw [List.map_cons,Case.enc_eq] at *
  rw [List.length_cons] at hll
  simp only [push_cast,seval,reduceEqDiff,List.length_nil,eq_true (show 0<=LLim by decide),eq_true hcel,List.nil_append,eq_true hll]
  intros
  exact finNW_i rfl (by simp [lk,TCs,Case.enc_eq])
theorem frz_boxM {W0:World} {nt n n' e sz:Nat} {env env':Env} {σ τ:Sto} {rid kid:Id} {A B es:List V} (hrk:rid≠kid) (hr:lk σ rid=some (.box (.agg (A ++ .arr kid::B)))) (hk:lk σ kid=some (.arr e sz es)) (hτ:∀i e',lk τ i=some e'->lk σ i=some e'/\i≠kid) (hτr:lk τ rid=none) (hok:∀y∈es,y.ok=true) (henv:∀s,get env' s=get env s\/get env' s = .any) (hn:n<=n') :
  StLe W0 nt ⟨env,σ,n⟩ ⟨env',(rid,.box (.agg (A ++ .sl es::B)))::τ,n'⟩:=by
 refine StLe.weak (fun i=>if i=kid then some es else none) (fun i es' h=>?_) (fun s=>?_) (fun i e' h=>?_) hn
 ·split at h
  ·rename_i hi;subst hi;cases h
   refine ⟨⟨e,sz,hk⟩,?_⟩
   simp only [lk,if_neg hrk]
   cases hl:lk τ i with
   | none=>rfl
   | some x=>exact absurd rfl (hτ i x hl).2
  ·cases h
 ·rcases henv s with h|h
  ·rw [h];exact .refl _
  ·rw [h];exact .any _
 ·simp only [lk] at h
  by_cases hi:rid=i
  ·rw [if_pos hi] at h
   cases h
   subst hi
   refine ⟨_,hr,.box _ _ (.agg _ _ (by simp) fun k c c' h1 h2=>?_) (by simp [cells]) rfl rfl⟩
   by_cases hk:k<A.length
   ·rw [List.getElem?_append_left hk] at h1 h2
    rw [h1] at h2;cases h2;exact .refl _
   ·rw [List.getElem?_append_right (by omega)] at h1 h2
    cases hq:k-A.length with
    | zero=>
     rw [hq] at h1 h2
     simp at h1 h2
     subst h1 h2
     refine .arr kid es es (by simp) rfl (fun k c c' h1 h2=>?_) (fun k c c' h1 h2=>?_)
     ·rw [h1] at h2;cases h2;exact .refl _
     ·rw [h1] at h2;cases h2
      have:=hok c (List.mem_of_getElem? h1)
      exact ⟨rfl,this,this⟩
    | succ q=>
     rw [hq] at h1 h2
     simp only [List.getElem?_cons_succ] at h1 h2
     rw [h1] at h2;cases h2;exact .refl _
  ·rw [if_neg hi] at h
   exact ⟨_,(hτ i e' h).1,.refl _⟩
set_option maxHeartbeats 4000000 in
theorem c_cloned:∀(N:Nat) (ps:List Part),wtPs ps<N->wtPs ps<=2^24->RetS Tryz.prog W0 115 [.sl (ps.map Part.enc)] [] (.sl (ps.map Part.enc)) []:=by
 intro N
 induction N with
 | zero=>intro ps h;omega
 | succ N ih=>
 intro ps hN hw0
 have hlen:=len_wtPs ps
 refine fn_retW (vs:=[.sl (ps.map Part.enc)]) f115ok (by simp) (by simp) fun n0 hn0=>?_
 clear hn0
 simp only [push_cast,seval,reduceEqDiff]
 intro k1 k2 k3
 refine aWP_loopW ps.length (Inv:=fun m st=>∃done rest n id,ps=done++rest/\m=rest.length/\id.1<n/\st=⟨[(3,.arr id),(7,.sl (ps.map Part.enc)),(8,.i .i64 ps.length),(9,.i .i64 done.length)],[(id,.arr TPt 6 (done.map Part.enc))],n⟩) ⟨_,(StLe.own (s:=3) (e:=TPt) (sz:=6) (k:=99) rfl).trans (StLe.envD (fun t=>?_) (Nat.le_refl _)),[],ps,_,_,rfl,rfl,?_,rfl⟩ ?_
 ·left
  by_cases h3:3=t
  ·subst h3;rfl
  ·simp [get,h3]
 ·simp
 rintro m _ ⟨done,rest,n,id,hz,rfl,hin,rfl⟩
 cases rest with
 | nil=>
  simp only [List.append_nil] at hz
  subst hz
  simp only [push_cast,seval,reduceEqDiff]
  intros
  exact finW_frz (e:=TPt) (sz:=6) rfl (okPt _) (by simp [lk])
 | cons p rest=>
  have hbd:=zip_bd hz
  have hwp:=wtPs_mem (ps:=ps) (p:=p) (by rw [hz];simp)
  have hpw:=p.wt_eq
  have hre:=ih p.parts (by omega) (by omega)
  have hlc:=len_wtCs p.cases
  have hcl:=c_cloneC W0 p.cases (by omega)
  have fix:∀k j,(id=(n+1+k,j))=False:=fun k j=>eq_false fun he=>by rw [he] at hin;simp at hin;omega
  have fxi:∀k j,((n+1+k,j)=id)=False:=fun k j=>eq_false fun he=>of_eq_false (fix k j) he.symm
  have hll:done.length+1<=LLim:=by have:ps.length=done.length+(rest.length+1):=by rw [hz];simp
                                   unfold LLim;omega
  simp only [push_cast,seval,reduceEqDiff,hz,wrap_zip p (done:=done) (by omega),fix,fxi,List.length_map]
  repeat' (first|(((first|apply condU_s|apply gdU_t|apply gdU_f)<;>intro _h)<;>simp only [push_cast,seval,reduceEqDiff,_h,hz,wrap_zip p (done:=done) (by omega),fix,fxi,List.length_map])|(refine c_call (by exact hre) ?_;simp only [push_cast,seval,reduceEqDiff,hz,wrap_zip p (done:=done) (by omega),fix,fxi,List.length_map])|intro _)
  refine c_calln hcl (fun i e h=>by simp [lk] at h) ?_
  rw [over_nil]
  have hTC:TCs=77:=rfl
  simp only [push_cast,seval,reduceEqDiff,hz,wrap_zip p (done:=done) (by omega),fix,fxi,List.length_map]
  intros
  rename_i a1 a2 a3 a4 a5
  have hlt:n<n+1+a1/\n+1+a1<n+1+a1+1+a2+1+a3/\n+1+a1+1+a2+1+a3<n+1+a1+1+a2+1+a3+1+a4+1+a5:=by omega
  generalize n+1+a1+1+a2+1+a3+1+a4+1+a5=n3 at *
  generalize n+1+a1+1+a2+1+a3=c0 at *
  generalize n+1+a1=x0 at *
  obtain ⟨hx0,hc0,hn3⟩:=hlt
  have gic:(id=(c0,19))=False:=eq_false fun he=>by rw [he] at hin;simp at hin;omega
  have gci:((c0,19)=id)=False:=eq_false fun he=>of_eq_false gic he.symm
  have gix:(id=(x0,5))=False:=eq_false fun he=>by rw [he] at hin;simp at hin;omega
  have gxi:((x0,5)=id)=False:=eq_false fun he=>of_eq_false gix he.symm
  refine aWP_loopW p.cases.length (Inv:=fun m st=>∃cd cr n',p.cases=cd++cr/\m=cr.length/\c0<n'/\st=⟨[(3,.arr id),(5,.ref (x0,5) 0),(7,.sl ((done++p::rest).map Part.enc)),(8,.i .i64 (done++p::rest).length),(9,.i .i64 done.length),(23,.i .i64 p.cases.length),(24,.i .i64 cd.length)],[((c0,19),.arr TCs 2 (p.cases.map Case.enc)),((x0,5),.box (.agg [.i .i64 p.kind,.s p.text,.s p.name,.s p.style,.arr (c0,19),.sl (p.parts.map Part.enc)])),(id,.arr TPt 6 (done.map Part.enc))],n'⟩) ⟨_,StLe.refl,[],p.cases,_,rfl,rfl,hn3,rfl⟩ ?_
  clear hre hcl
  rintro m _ ⟨cd,cr,n',hcz,rfl,hn',rfl⟩
  cases cr with
  | nil=>
   have hlt0:decide ((cd.length:Int)<(p.cases.length:Int))=false:=by rw [hcz];simp
   simp only [push_cast,seval,reduceEqDiff,hlt0]
   intros
   refine wkW_i (frz_boxM (e:=TCs) (sz:=2) (rid:=(x0,5)) (kid:=(c0,19)) (A:=[.i .i64 p.kind,.s p.text,.s p.name,.s p.style]) (B:=[.sl (p.parts.map Part.enc)]) (es:=p.cases.map Case.enc) (τ:=[(id,.arr TPt 6 (done.map Part.enc))]) (by simp) (by simp [lk]) (by simp [lk]) (fun i e' h=>?_) (by simp [lk,gix]) (okCe _) (fun s=>.inl rfl) (Nat.le_refl _)) ?_
   ·simp only [lk] at h
    split at h
    ·rename_i he;subst he;cases h
     exact ⟨by simp [lk,gci,gxi],fun h=>of_eq_false gic h⟩
    ·cases h
   have hps:((done++[p]).map Part.enc)=done.map Part.enc++[.agg [.i .i64 p.kind,.s p.text,.s p.name,.s p.style,.sl (p.cases.map Case.enc),.sl (p.parts.map Part.enc)]]:=by simp [Part.enc_eq]
   have gxi2:=gxi
   simp only [push_cast,seval,reduceEqDiff,List.cons_append,List.nil_append,gxi,gix,eq_true hll,List.length_map,<-hps,TPt,wrap_zip p (done:=done) (by omega)]
   intros
   exact ⟨_,_,Nat.lt_succ_self _,StLe.drop (fun i e h=>lk_app_left (τ:=[_]) h) (Nat.le_refl _),done++[p],rest,_,_,by simp,rfl,by (try simp);omega,rfl⟩
  | cons c cr=>
   have hlt0:decide ((cd.length:Int)<(p.cases.length:Int))=true:=by rw [hcz];simp;omega
   have hcb:=zip_bd hcz
   have hcw:=wtCs_mem (cs:=p.cases) (c:=c) (by rw [hcz];simp)
   have hrc:=ih c.2 (by omega) (by omega)
   have hget:(p.cases.map Case.enc)[cd.length]? = some (.agg [.s c.1,.sl (c.2.map Part.enc)]):=by
    rw [hcz,List.getElem?_map,List.getElem?_append_right (by simp)];simp [Case.enc_eq]
   have hset:(p.cases.map Case.enc).set cd.length (.agg [.s c.1,.sl (c.2.map Part.enc)])=p.cases.map Case.enc:=by
    rw [hcz];simp [List.set_append,Case.enc_eq]
   simp only [push_cast,seval,reduceEqDiff,hlt0,hget,hset,if_pos hcb,wrap_zip c (done:=cd) (by omega),List.length_map,TCs]
   repeat' (first|(((first|apply condU_s|apply gdU_t|apply gdU_f)<;>intro _h)<;>simp only [push_cast,seval,reduceEqDiff,_h,hlt0,hget,hset,if_pos hcb,wrap_zip c (done:=cd) (by omega),List.length_map,TCs])|(refine c_call (by exact hrc) ?_;simp only [push_cast,seval,reduceEqDiff,hlt0,hget,hset,if_pos hcb,wrap_zip c (done:=cd) (by omega),List.length_map,TCs])|intro _)
   exact ⟨_,_,Nat.lt_succ_self _,StLe.refl,cd++[c],cr,_,by rw [hcz];simp,rfl,by omega,rfl⟩

end Go.Ir
section
namespace Go.Ir
open Go.RowKit Go.Proofs.YtjhgnkpcldnmdaaGreatDoor
def mkEl (ag:Bool) (c:List V):V:=if ag then .agg c else c.headD .any
inductive WtV (P:Program):TypeId->List V->Prop where
 | bool (t:TypeId) (b:Bool) (h:P.underlying t=some .bool):WtV P t [.b b]
 | int (t:TypeId) (k:IntKind) (n:Int) (h:P.underlying t=some (.int k)) (hw:(Lit.int k n).wf=true):WtV P t [.i k n]
 | str (t:TypeId) (l:List UInt8) (h:P.underlying t=some .string):WtV P t [.s l]
 | sl (t e:TypeId) (es:List V) (h:P.underlying t=some (.slice e)) (he:∀el∈es,∃c,el=mkEl ((aggT P e).getD false) c/\cells el=c) (hc:∀el∈es,(cells el).length=P.cellsOf e) (hw:∀el∈es,WtV P e (cells el)):WtV P t [.sl es]
 | st (t:TypeId) (fs:Array Field) (vs:List V) (h:P.underlying t=some (.struct fs)) (hl:vs.length=P.cellsOf t) (hf:∀f∈fs.toList,WtV P f.type ((vs.drop f.offset).take (P.cellsOf f.type))):WtV P t vs
mutual
def bulkV:V->Nat
 | .s l=>l.length+1
 | .sl es=>bulkVs es+1
 | .agg cs=>bulkVs cs
 | _=>1
def bulkVs:List V->Nat
 | []=>0
 | v::vs=>bulkV v+bulkVs vs
end
theorem bulkVs_append (a b:List V):bulkVs (a++b)=bulkVs a+bulkVs b:=by
 induction a with
 | nil=>simp [bulkVs]
 | cons x a ih=>simp [bulkVs,ih];omega
def layB (P:Program):List Field->Nat->Option Nat
 | [],off=>some off
 | f::fs,off=>if f.offset=off then layB P fs (off+P.cellsOf f.type) else none
def plnB (P:Program) (T:List TypeId):Bool:=T.all fun t=>match P.underlying t with
 | some .bool|some (.int _)|some .string=>P.cellsOf t == 1
 | some (.slice e)=>P.cellsOf t == 1&&T.contains e&&decide (0<P.cellsOf e)
 | some (.struct fs)=>fs.toList.all (fun f=>T.contains f.type)&&layB P fs.toList 0 == some (P.cellsOf t)
 | _=>false
section
variable {H : Type} {enc : TypeId × Value → H} {P : Program} {w : World} {base : Nat} {spare : Nat → Bool} {held : Bool} {T : List TypeId}
theorem bulkAll_mem {d:DataW H} {ds:List (DataW H)} (h:d∈ds):Rows.uptoBulk d<=Rows.uptoBulkAll ds:=by
 induction ds with
 | nil=>cases h
 | cons x ds ih=>
  simp only [Rows.uptoBulkAll]
  rcases List.mem_cons.1 h with rfl|h
  ·omega
  ·have:=ih h;omega
theorem read_fields {μ:Id->Option Value} {Hc:Addr->Option Value} {cs:List Value} :
  ∀(fs:List Field) (off tot:Nat) (ds:List (DataW H)),layB P fs off=some tot->cs.length=tot->ds.length=fs.length->
   (∀(i:Nat) (f:Field) (d:DataW H),fs[i]? = some f->ds[i]? = some d->∃vs,CRel μ Hc vs ((cs.drop f.offset).take (P.cellsOf f.type))/\WtV P f.type vs/\bulkVs vs<=Rows.uptoBulk d)->
   off<=tot/\∃vs,CRel μ Hc vs (cs.drop off)/\(∀pre:List V,pre.length=off->∀f∈fs,WtV P f.type (((pre++vs).drop f.offset).take (P.cellsOf f.type)))/\bulkVs vs<=Rows.uptoBulkAll ds
 | [],off,tot,ds,hlay,hcs,hds,h=>by
  simp only [layB,Option.some.injEq] at hlay
  subst hlay
  refine ⟨Nat.le_refl _,[],?_,fun _ _ f hf=>(by cases hf),by simp [bulkVs]⟩
  rw [List.drop_of_length_le (by omega)]
  exact CRel.nil_
 | f::fs,off,tot,ds,hlay,hcs,hds,h=>by
  simp only [layB] at hlay
  split at hlay
  ·rename_i ho
   cases ds with
   | nil=>simp at hds
   | cons d ds=>
    obtain ⟨hle,vs,h1,h2,h3⟩:=read_fields fs _ tot ds hlay hcs (by simpa using hds) (fun i f' d' hf hd=>h (i+1) f' d' (by simpa using hf) (by simpa using hd))
    obtain ⟨us,g1,g2,g3⟩:=h 0 f d rfl rfl
    rw [ho] at g1
    have hul:us.length=P.cellsOf f.type:=by
     have:=g1.len
     rw [List.length_take,List.length_drop] at this
     omega
    refine ⟨by omega,us++vs,?_,?_,?_⟩
    ·have:=g1.append h1
     rw [<-List.drop_drop,List.take_append_drop] at this
     exact this
    ·intro pre hpre f' hf'
     rcases List.mem_cons.1 hf' with rfl|hf'
     ·rw [ho,<-hpre,List.drop_left,<-hul,List.take_left]
      exact g2
     ·have:=h2 (pre++us) (by simp [hpre,hul]) f' hf'
      rwa [List.append_assoc] at this
    ·rw [bulkVs_append]
     simp only [Rows.uptoBulkAll]
     omega
  ·cases hlay
theorem mkEl_cells {t:TypeId} {vs:List V} {ag:Bool} (hag:aggT P t=some ag) (h:WtV P t vs):cells (mkEl ag vs)=vs:=by
 cases ag with
 | true=>rfl
 | false=>
  cases h with
  | st t fs vs h hl hf=>simp [aggT,h,aggD] at hag
  | _=>rfl
theorem mkEl_bulk {t:TypeId} {vs:List V} {ag:Bool} (hag:aggT P t=some ag) (h:WtV P t vs):bulkV (mkEl ag vs)=bulkVs vs:=by
 cases ag with
 | true=>simp [mkEl,bulkV]
 | false=>
  cases h with
  | st t fs vs h hl hf=>simp [aggT,h,aggD] at hag
  | _=>simp [mkEl,bulkVs]
theorem read_plain {μ:Id->Option Value} (hT:plnB P T=true):∀(n:Nat) (t:TypeId) (cs:List Value) (x:DataW H × List MemPlace),t∈T->DataW.trod enc P w base spare held n t cs=some x->Rows.uptoBulk x.1<=1048576->
  ∃vs,CRel μ (fun ad=>w.cell? ad) vs cs/\WtV P t vs/\bulkVs vs<=Rows.uptoBulk x.1:=by
 intro n
 induction n with
 | zero=>intro t cs x _ h;simp [DataW.trod] at h
 | succ n ih=>
  intro t cs x ht h hb
  have hpl:=List.all_eq_true.1 hT t ht
  have one:∀{c:V} {v:Value},VRel μ (fun ad=>w.cell? ad) c v->v.oneCell'=true->CRel μ (fun ad=>w.cell? ad) [c] [v]:=fun hv h1=>
   ⟨VRels.cons hv VRels.nil_,fun v' hv'=>by rw [List.mem_singleton.1 hv'];exact h1⟩
  cases hu:P.underlying t with
  | none=>simp [hu] at hpl
  | some d=>
   cases d<;>simp only [hu] at hpl<;>(try (cases hpl;done))
   case bool=>
    unfold DataW.trod at h
    rw [hu] at h
    match cs,h with
    | [.bool b],h=>cases h;exact ⟨[.b b],one (.b b) rfl,.bool t b hu,by simp [bulkVs,bulkV,Rows.uptoBulk]⟩
   case int k=>
    unfold DataW.trod at h
    rw [hu] at h
    match cs,h with
    | [.int k' m],h=>
     simp only at h
     split at h
     ·rename_i hk
      obtain ⟨rfl,hw⟩:=hk
      cases h
      exact ⟨[.i k' m],one (.i k' m) rfl,.int t k' m hu hw,by simp [bulkVs,bulkV,Rows.uptoBulk]⟩
     ·cases h
   case string=>
    unfold DataW.trod at h
    rw [hu] at h
    match cs,h with
    | [.string s],h=>
     simp only at h
     split at h
     ·rename_i hs
      cases h
      simp only [Rows.uptoBulk] at hb
      refine ⟨[.s s.data.toList],one ?_ rfl,.str t _ hu,by simp [bulkVs,bulkV,Rows.uptoBulk]⟩
      have:=VRel.s (μ:=μ) (H:=fun ad=>w.cell? ad) s.data.toList (by unfold SLim;omega)
      simpa using this
     ·cases h
   case slice e=>
    simp only [Bool.and_eq_true,beq_iff_eq,List.contains_eq_mem,decide_eq_true_eq] at hpl
    obtain ⟨⟨hc1,heT⟩,hpos⟩:=hpl
    rcases DataW.trod_slice hu h with ⟨rfl,rfl⟩|⟨a,len,cap,elems,rest,m,hm,rfl,rfl,hbase,hlc,hcm,hel,helem,_,_⟩
    ·exact ⟨[.sl []],one (.slE none 0) rfl,.sl t e [] hu (fun _ h=>by cases h) (fun _ h=>by cases h) (fun _ h=>by cases h),by simp [bulkVs,bulkV,Rows.uptoBulk]⟩
    ·cases hm
     simp only [Rows.uptoBulk] at hb
     have hepl:=List.all_eq_true.1 hT e heT
     obtain ⟨ag,hag⟩:∃ag,aggT P e=some ag:=by
      unfold aggT
      cases hue:P.underlying e with
      | none=>simp [hue] at hepl
      | some d=>exact ⟨_,rfl⟩
     have each:∀i,i<len->∃(vs:List V) (seg:List Value) (y:DataW H × List MemPlace),elems[i]? = some y/\seg.length=P.cellsOf e/\(∀k,k<P.cellsOf e->w.cell? (a.add (i*P.cellsOf e+k))=seg[k]?)/\CRel μ (fun ad=>w.cell? ad) vs seg/\WtV P e vs/\bulkVs vs<=Rows.uptoBulk y.1:=by
      intro i hi
      have h1:=helem i hi
      have hlt:i<elems.length:=by omega
      rw [List.getElem?_eq_getElem hlt] at h1
      cases hcs:w.cells? base (a.add (i*P.cellsOf e)) (P.cellsOf e) with
      | none=>rw [hcs] at h1;cases h1
      | some seg=>
       rw [hcs] at h1
       obtain ⟨_,hl,hcell⟩:=World.cells?_some hcs
       have hmem:elems[i].1∈elems.map (·.1):=List.mem_map.2 ⟨_,List.getElem_mem hlt,rfl⟩
       have:=bulkAll_mem hmem
       obtain ⟨vs,r1,r2,r3⟩:=ih e seg elems[i] heT h1 (by omega)
       refine ⟨vs,seg,elems[i],List.getElem?_eq_getElem hlt,hl,fun k hk=>?_,r1,r2,r3⟩
       have:=hcell k hk
       rwa [show (a.add (i*P.cellsOf e)).add k=a.add (i*P.cellsOf e+k) from by
        unfold Addr.add
        by_cases hi:i*P.cellsOf e=0<;>by_cases hj:k=0<;>simp [hi,hj,Nat.add_assoc]] at this
     have all:∀j,j<=len->∃(es:List V) (vals:List Value),es.length=j/\vals.length=j*P.cellsOf e/\(∀el∈es,(∃c,el=mkEl ag c/\cells el=c)/\(cells el).length=P.cellsOf e/\WtV P e (cells el))/\CRel μ (fun ad=>w.cell? ad) (flat es) vals/\
       (∀(k:Nat) (v:Value),vals[k]? = some v->w.cell? (a.add k)=some v)/\bulkVs es<=Rows.uptoBulkAll ((elems.map (·.1)).take j):=by
      intro j
      induction j with
      | zero=>intro _;exact ⟨[],[],rfl,by simp,fun _ h=>(by cases h),CRel.nil_,fun k v h=>(by simp at h),by simp [bulkVs]⟩
      | succ j ihj=>
       intro hj
       obtain ⟨es,vals,g1,g2,g3,g4,g5,g6⟩:=ihj (by omega)
       obtain ⟨vs,seg,y,e1,e2,e3,e4,e5,e6⟩:=each j (by omega)
       have hcl:cells (mkEl ag vs)=vs:=mkEl_cells hag e5
       refine ⟨es++[mkEl ag vs],vals++seg,by simp [g1],by rw [List.length_append,g2,e2,Nat.succ_mul],?_,?_,?_,?_⟩
       ·intro el hel'
        rcases List.mem_append.1 hel' with h'|h'
        ·exact g3 el h'
        ·rw [List.mem_singleton.1 h',hcl]
         exact ⟨⟨vs,rfl,rfl⟩,by rw [e4.len,e2],e5⟩
       ·rw [flat_append]
        refine g4.append ?_
        have:flat [mkEl ag vs]=vs:=by simp [flat,hcl]
        rw [this];exact e4
       ·intro k v hk
        rcases Nat.lt_or_ge k vals.length with hlt|hge
        ·rw [List.getElem?_append_left hlt] at hk;exact g5 k v hk
        ·rw [List.getElem?_append_right hge] at hk
         have hklt:k-vals.length<seg.length:=(List.getElem?_eq_some_iff.1 hk).1
         have:=e3 (k-vals.length) (by omega)
         rw [hk,g2,show j*P.cellsOf e+(k-j*P.cellsOf e)=k by omega] at this
         exact this
       ·rw [bulkVs_append]
        have ht:(elems.map (·.1)).take (j+1)=(elems.map (·.1)).take j++[y.1]:=by
         rw [List.take_add_one,List.getElem?_map,e1];rfl
        have hba:∀(a b:List (DataW H)),Rows.uptoBulkAll (a++b)=Rows.uptoBulkAll a+Rows.uptoBulkAll b:=by
         intro a b
         induction a with
         | nil=>simp [Rows.uptoBulkAll]
         | cons x a ih=>simp [Rows.uptoBulkAll,ih];omega
        rw [ht,hba]
        have:=mkEl_bulk hag e5
        simp only [bulkVs,Rows.uptoBulkAll]
        omega
     obtain ⟨es,vals,g1,g2,g3,g4,g5,g6⟩:=all len (Nat.le_refl _)
     have hlen:∀(ds:List (DataW H)),ds.length<=Rows.uptoBulkAll ds:=by
      intro ds
      induction ds with
      | nil=>simp [Rows.uptoBulkAll]
      | cons d ds ih=>
       have:1<=Rows.uptoBulk d:=by
        cases d<;>(try simp only [Rows.uptoBulk])<;>(try omega)
        rename_i l;cases l<;>simp [Rows.uptoBulk]
       simp only [Rows.uptoBulkAll,List.length_cons]
       omega
     have hl1:=hlen (elems.map (·.1))
     rw [List.length_map,hel] at hl1
     refine ⟨[.sl es],one ?_ rfl,.sl t e es hu (by rw [hag];exact fun el h=>(g3 el h).1) (fun el h=>(g3 el h).2.1) (fun el h=>(g3 el h).2.2),?_⟩
     ·have:=VRel.slC (μ:=μ) (H:=fun ad=>w.cell? ad) es a cap (P.cellsOf e) vals (by omega) (by unfold LLim;omega) (fun el hel'=>(g3 el hel').2.1) g4.len g4.one g5 g4.at_
      rw [g1] at this
      exact this
     ·rw [List.take_of_length_le (by simp;omega)] at g6
      simp only [bulkVs,bulkV,Rows.uptoBulk]
      omega
   case struct fs=>
    simp only [Bool.and_eq_true,beq_iff_eq] at hpl
    obtain ⟨hfT,hlay⟩:=hpl
    obtain ⟨xs,m,hm,rfl,hcs,hxl,hf⟩:=DataW.trod_struct hu h
    cases hm
    simp only [Rows.uptoBulk] at hb
    obtain ⟨_,vs,r1,r2,r3⟩:=read_fields (P:=P) (μ:=μ) (Hc:=fun ad=>w.cell? ad) (cs:=cs) fs.toList 0 (P.cellsOf t) (xs.map (·.1)) hlay hcs (by simp [hxl]) (fun i f d hfi hdi=>by
     have hfi':fs[i]? = some f:=by rw [<-Array.getElem?_toList];exact hfi
     have h1:=hf i f hfi'
     rw [List.getElem?_map] at hdi
     cases hx:xs[i]? with
     | none=>rw [hx] at hdi;cases hdi
     | some y=>
      rw [hx] at hdi h1
      cases hdi
      have hmem:y.1∈xs.map (·.1):=List.mem_map.2 ⟨y,List.mem_of_getElem? hx,rfl⟩
      have:=bulkAll_mem hmem
      have hft:f.type∈T:=by
       have:=List.all_eq_true.1 hfT f (List.mem_of_getElem? hfi)
       simpa using this
      exact ih f.type _ y hft h1 (by omega))
    rw [List.drop_zero] at r1
    refine ⟨vs,r1,.st t fs vs hu (by rw [r1.len,hcs]) (fun f hf'=>by simpa using r2 [] rfl f hf'),?_⟩
    simp only [Rows.uptoBulk]
    omega
end
end Go.Ir
end
section
namespace Go.Ir
open Go.RowKit Go.ChangeShapes Go.WideShapes
section
variable {H : Type} {enc : TypeId × Value → H} {P : Program} {W W' : World}
theorem trodAll_stays (hl:laidOutB P=true) (hb:Below W.heap.size W W') {sp:Nat->Bool}:∀(ts:List TypeId) (vs:List Value) (ds:List (DataW H)) (ps:List MemPlace),(∀t∈ts,P.readableRec t=true/\t<P.types.size)->
  DataW.TrodAll enc P W 0 (fun _=>true) true ts vs ds ps->(∀x∈ps,x.block<W.heap.size)->(∀x∈ps,sp x.block=true)->DataW.TrodAll enc P W' 0 sp true ts vs ds ps
 | [],vs,ds,ps,_,h,_,_=>by
  obtain ⟨rfl,rfl,rfl⟩:=trodAll_nil h
  exact trodAll_mk0
 | t::ts,vs,ds,ps,hts,h,hlt,hsp=>by
  obtain ⟨v,vs',d,ds',p,q,rfl,rfl,rfl,h1,h2⟩:=trodAll_cons h
  obtain ⟨hr,hrow⟩:=hts t (by simp)
  refine trodAll_cons_mk (WideElems.Trod_stays hl hr hrow h1 (fun x hx=>hb.same (hlt x (by simp [hx]))) (fun x hx=>hsp x (by simp [hx]))) (trodAll_stays hl hb ts vs' ds' q (fun t' ht'=>hts t' (by simp [ht'])) h2 (fun x hx=>hlt x (by simp [hx])) (fun x hx=>hsp x (by simp [hx])))
theorem post_true {f:Func} {s:ChangeSpec} {apart fresh handsOn again:Bool} {args:Array Value} {ds gs:List (DataW H)} {before:List MemPlace} {tb:TypeId}
  (hl:laidOutB P=true) (hts:∀t∈f.params.toList,P.readableRec t=true/\t<P.types.size) (hrt:f.resultTypes = #[tb]) (htb:P.underlying tb=some .bool) (hv:s.vars=[])
  (hfn:s.fn H (ds++gs)={ results:=[.lit (.bool true)],args:=ds })
  (hW:DataW.Whole enc P f.params.toList s.vars apart W args.toList ds gs before) (hb:Below W.heap.size W W'):s.post enc P f apart fresh handsOn again W args (.bool true) W':=by
 have hlt:∀p∈before,p.block<W.heap.size:=fun p hp=>hW.lt p hp
 have hW':=hW
 obtain ⟨p,q,hA,hV,rfl,hz,hn⟩:=hW
 rw [hv] at hV
 obtain ⟨rfl,rfl⟩:=trodVars_none hV
 simp only [List.append_nil] at *
 have hold:∀x∈p,(fun b=>decide (b<W.heap.size)) x.block=true:=fun x hx=>by simpa using hlt x hx
 have hargs:∀sp:Nat->Bool,(∀x∈p,sp x.block=true)->DataW.TrodAll enc P W' 0 sp true f.params.toList args.toList ds p:=fun sp hsp=>trodAll_stays hl hb _ _ _ _ hts hA hlt hsp
 have hres:∀(b:Nat) (sp:Nat->Bool) (hd:Bool),DataW.TrodAll enc P W' b sp hd f.resultTypes.toList ((Value.bool true).resultList f.resultTypes.size) [.lit (.bool true)] []:=by
  intro b sp hd
  rw [hrt]
  exact trodAll_cons_mk (p:=[]) (p':=[]) (shut_bool htb _) trodAll_mk0
 refine ⟨ds,[],p,[],p,[],hW',?_,?_,?_,World.keptBut_mono (fun x hx=>⟨hx,.inr (.inl hx)⟩) (hb.frame _),fun _=>?_⟩
 ·rw [List.append_nil,hfn];exact hres _ _ _
 ·rw [List.append_nil,hfn];exact hargs _ hold
 ·rw [hv,List.append_nil,hfn];rfl
 ·refine ⟨ok_one hrt rfl (okWide_bool_mk htb _),.lit (.bool true)::ds,[],p,⟨p,[],?_,by rw [hv];rfl,by simp,?_,?_⟩,fun x hx _=>hx⟩
  ·rw [hrt]
   exact trodAll_cons_mk (p:=[]) (shut_bool htb _) (hargs _ (fun _ _=>rfl))
  ·intro b off hp
   have:=hlt _ hp
   have hfz:=hb.frozen (p:=⟨b,off,none⟩) this
   rw [hfz]
   exact hz b off (by simpa using hp)
  ·intro ha;exact hn ha
theorem Hp.start (W:World) (n:Nat):Hp W [] n (fun _=>none) (fun ad=>W.cell? ad) W where
 base:=Below.refl _ _
 pins _ _ h:=h
 ents _ _ h:=by simp [lk] at h
 unp bk ho:=by obtain ⟨id,e,h,_⟩:=ho;simp [lk] at h
 sep _ _ _ _ _ h:=by simp [lk] at h
 bd _ _:=rfl
theorem calls_true {f:FuncId} {args:List V} {vals:List Value} (h:RetS P W f args [] (.b true) []) (hv:VRels (fun _=>none) (fun ad=>W.cell? ad) args vals) :
  Calls P f vals.toArray W fun e W'=>e = .returned (.bool true)/\Below W.heap.size W W':=
 (h.run 0 W _ _ vals (Hp.start W 0) hv).mono fun e W' ⟨val,μ',H',n',he,hr,hp,_⟩=>⟨by rw [he,hr.b_inv],hp.base⟩
end
end Go.Ir
end
section
namespace Go.Ir
open Go.Proofs
section
variable {P : Program}
theorem WtV.int_inv {t:TypeId} {k:IntKind} {v:V} (h:WtV P t [v]) (ht:P.underlying t=some (.int k)):∃n,v = .i k n/\(Lit.int k n).wf=true:=by
 cases h with
 | int _ k' n h hw=>rw [ht] at h;cases h;exact ⟨n,rfl,hw⟩
 | bool _ b h=>rw [ht] at h;cases h
 | str _ l h=>rw [ht] at h;cases h
 | sl _ e es h _ _ _=>rw [ht] at h;cases h
 | st _ fs vs h _ _=>rw [ht] at h;cases h
theorem WtV.str_inv {t:TypeId} {v:V} (h:WtV P t [v]) (ht:P.underlying t=some .string):∃l,v = .s l:=by
 cases h with
 | int _ k' n h hw=>rw [ht] at h;cases h
 | bool _ b h=>rw [ht] at h;cases h
 | str _ l h=>exact ⟨l,rfl⟩
 | sl _ e es h _ _ _=>rw [ht] at h;cases h
 | st _ fs vs h _ _=>rw [ht] at h;cases h
theorem WtV.sl_inv {t e:TypeId} {v:V} (h:WtV P t [v]) (ht:P.underlying t=some (.slice e)):∃es,v = .sl es/\(∀el∈es,∃c,el=mkEl ((aggT P e).getD false) c/\cells el=c)/\(∀el∈es,(cells el).length=P.cellsOf e)/\(∀el∈es,WtV P e (cells el)):=by
 cases h with
 | int _ k' n h hw=>rw [ht] at h;cases h
 | bool _ b h=>rw [ht] at h;cases h
 | str _ l h=>rw [ht] at h;cases h
 | sl _ e' es h h1 h2 h3=>rw [ht] at h;cases h;exact ⟨es,rfl,h1,h2,h3⟩
 | st _ fs vs h _ _=>rw [ht] at h;cases h
theorem WtV.st_inv {t:TypeId} {fs:Array Field} {vs:List V} (h:WtV P t vs) (ht:P.underlying t=some (.struct fs)):vs.length=P.cellsOf t/\∀f∈fs.toList,WtV P f.type ((vs.drop f.offset).take (P.cellsOf f.type)):=by
 cases h with
 | int _ k' n h hw=>rw [ht] at h;cases h
 | bool _ b h=>rw [ht] at h;cases h
 | str _ l h=>rw [ht] at h;cases h
 | sl _ e' es h h1 h2 h3=>rw [ht] at h;cases h
 | st _ fs' vs h h1 h2=>rw [ht] at h;cases h;exact ⟨h1,h2⟩
end
theorem len2 {l:List V} (h:l.length=2):∃a b,l=[a,b]:=by
 match l,h with
 | [a,b],_=>exact ⟨a,b,rfl⟩
theorem len6 {l:List V} (h:l.length=6):∃a b c d e f,l=[a,b,c,d,e,f]:=by
 match l,h with
 | [a,b,c,d,e,f],_=>exact ⟨a,b,c,d,e,f,rfl⟩
theorem c9:Tryz.prog.cellsOf 9=1:=by kernel_rfl
theorem c3:Tryz.prog.cellsOf 3=1:=by kernel_rfl
theorem c31:Tryz.prog.cellsOf 31=1:=by kernel_rfl
theorem c50:Tryz.prog.cellsOf 73=1:=by kernel_rfl
theorem c52:Tryz.prog.cellsOf 75=6:=by kernel_rfl
theorem c54:Tryz.prog.cellsOf 77=2:=by kernel_rfl
theorem a52:aggT Tryz.prog 75=some true:=by kernel_rfl
theorem a54:aggT Tryz.prog 77=some true:=by kernel_rfl
theorem parts_of:∀(N:Nat) (v:V),bulkV v<=N->WtV Tryz.prog 31 [v]->∃ps,v = .sl (encPs ps)/\wtPs ps<=bulkV v:=by
 intro N
 induction N with
 | zero=>intro v h;cases v<;>simp [bulkV] at h<;>intro hw<;>obtain ⟨es,he,_⟩:=hw.sl_inv Tryz.underlying31<;>cases he
 | succ N ih=>
  intro v hN hw
  obtain ⟨es,rfl,h1,h2,h3⟩:=hw.sl_inv Tryz.underlying31
  rw [a52] at h1
  simp only [Option.getD_some] at h1
  simp only [bulkV] at hN⊢
  have hcs:∀v:V,bulkV v<=N->WtV Tryz.prog 73 [v]->∃cs,v = .sl (encCs cs)/\wtCs cs<=bulkV v:=by
   intro v hv hw
   obtain ⟨es,rfl,h1,h2,h3⟩:=hw.sl_inv Tryz.underlying73
   rw [a54] at h1
   simp only [Option.getD_some] at h1
   simp only [bulkV] at hv⊢
   have:∃cs,es=encCs cs/\wtCs cs<=bulkVs es:=by
    clear hw
    induction es with
    | nil=>exact ⟨[],by simp [encCs],by simp [wtCs]⟩
    | cons el es ihe=>
     simp only [bulkVs] at hv⊢
     obtain ⟨cs,hcs,hcw⟩:=ihe (by omega) (fun x hx=>h1 x (List.mem_cons_of_mem _ hx)) (fun x hx=>h2 x (List.mem_cons_of_mem _ hx)) (fun x hx=>h3 x (List.mem_cons_of_mem _ hx))
     obtain ⟨c,rfl,_⟩:=h1 el (by simp)
     have hst:=h3 (mkEl true c) (by simp)
     have hc:cells (mkEl true c)=c:=rfl
     rw [hc] at hst
     obtain ⟨hl,hf⟩:=hst.st_inv Tryz.underlying77
     rw [c54] at hl
     obtain ⟨x0,x1,rfl⟩:=len2 hl
     have f0:=hf _ (by exact List.mem_cons_self)
     have f1:=hf _ (by exact List.mem_cons_of_mem _ List.mem_cons_self)
     simp only [c9,c31,List.drop_zero,List.drop_succ_cons,List.take_succ_cons,List.take_zero] at f0 f1
     obtain ⟨k,rfl⟩:=f0.str_inv Tryz.underlying9
     have hb:bulkV (mkEl true [.s k,x1])=k.length+1+bulkV x1:=by simp [mkEl,bulkV,bulkVs]
     rw [hb] at hv⊢
     obtain ⟨ps,rfl,hpw⟩:=ih x1 (by omega) f1
     refine ⟨(k,ps)::cs,by rw [hcs];simp [encCs,mkEl],?_⟩
     rw [wtCs_cons]
     simp only
     omega
   obtain ⟨cs,rfl,hw⟩:=this
   exact ⟨cs,rfl,by omega⟩
  have:∃ps,es=encPs ps/\wtPs ps<=bulkVs es:=by
   clear hw
   induction es with
   | nil=>exact ⟨[],by simp [encPs],by simp [wtPs]⟩
   | cons el es ihe=>
    simp only [bulkVs] at hN⊢
    obtain ⟨ps,hps,hpw⟩:=ihe (by omega) (fun x hx=>h1 x (List.mem_cons_of_mem _ hx)) (fun x hx=>h2 x (List.mem_cons_of_mem _ hx)) (fun x hx=>h3 x (List.mem_cons_of_mem _ hx))
    obtain ⟨c,rfl,_⟩:=h1 el (by simp)
    have hst:=h3 (mkEl true c) (by simp)
    have hc:cells (mkEl true c)=c:=rfl
    rw [hc] at hst
    obtain ⟨hl,hf⟩:=hst.st_inv Tryz.underlying75
    rw [c52] at hl
    obtain ⟨x0,x1,x2,x3,x4,x5,rfl⟩:=len6 hl
    have f0:=hf _ (by exact List.mem_cons_self)
    have f1:=hf _ (by exact List.mem_cons_of_mem _ List.mem_cons_self)
    have f2:=hf _ (by exact List.mem_cons_of_mem _ (List.mem_cons_of_mem _ List.mem_cons_self))
    have f3:=hf _ (by exact List.mem_cons_of_mem _ (List.mem_cons_of_mem _ (List.mem_cons_of_mem _ List.mem_cons_self)))
    have f4:=hf _ (by exact List.mem_cons_of_mem _ (List.mem_cons_of_mem _ (List.mem_cons_of_mem _ (List.mem_cons_of_mem _ List.mem_cons_self))))
    have f5:=hf _ (by exact List.mem_cons_of_mem _ (List.mem_cons_of_mem _ (List.mem_cons_of_mem _ (List.mem_cons_of_mem _ (List.mem_cons_of_mem _ List.mem_cons_self)))))
    simp only [c9,c31,c3,c50,List.drop_zero,List.drop_succ_cons,List.take_succ_cons,List.take_zero] at f0 f1 f2 f3 f4 f5
    obtain ⟨k,rfl,hk⟩:=f0.int_inv Tryz.underlying3
    obtain ⟨t,rfl⟩:=f1.str_inv Tryz.underlying9
    obtain ⟨n,rfl⟩:=f2.str_inv Tryz.underlying9
    obtain ⟨s,rfl⟩:=f3.str_inv Tryz.underlying9
    have hb:bulkV (mkEl true [.i .i64 k,.s t,.s n,.s s,x4,x5])=1+(t.length+1)+(n.length+1)+(s.length+1)+bulkV x4+bulkV x5:=by simp [mkEl,bulkV,bulkVs];omega
    rw [hb] at hN⊢
    obtain ⟨cs,rfl,hcw⟩:=hcs x4 (by omega) f4
    obtain ⟨qs,rfl,hqw⟩:=ih x5 (by omega) f5
    refine ⟨⟨k,t,n,s,cs,qs⟩::ps,by rw [hps];simp [encPs,Part.enc,mkEl],?_⟩
    rw [wtPs_cons,Part.wt_eq]
    simp only
    omega
  obtain ⟨ps,rfl,hw'⟩:=this
  exact ⟨ps,rfl,by omega⟩
end Go.Ir
end
section
namespace Go.Ir
open Go.Proofs
def sumW {α:Type} (w:α->Nat):List α->Nat
 | []=>0
 | x::xs=>w x+sumW w xs
theorem list_of {α:Type} {G:V->Prop} (enc:α->V) (w:α->Nat) (hel:∀el,G el->∃x,el=enc x/\w x<=bulkV el):∀es,(∀el∈es,G el)->∃xs,es=xs.map enc/\sumW w xs<=bulkVs es:=by
 intro es
 induction es with
 | nil=>intro _;exact ⟨[],rfl,by simp [sumW]⟩
 | cons e es ih=>
  intro h
  obtain ⟨xs,h1,h2⟩:=ih fun x hx=>h x (by simp [hx])
  obtain ⟨x,h3,h4⟩:=hel e (h e (by simp))
  exact ⟨x::xs,by rw [h1,h3];rfl,by simp only [sumW,bulkVs];omega⟩
section
variable {P : Program}
theorem slice_of {α:Type} {t e:TypeId} {v:V} (h:WtV P t [v]) (ht:P.underlying t=some (.slice e)) (ha:aggT P e=some true) (enc:α->V) (w:α->Nat) (hel:∀c,WtV P e c->∃x,V.agg c=enc x/\w x<=bulkVs c) :
  ∃xs:List α,v = .sl (xs.map enc)/\sumW w xs+1<=bulkV v:=by
 obtain ⟨es,rfl,h1,h2,h3⟩:=h.sl_inv ht
 rw [ha] at h1
 obtain ⟨xs,hx,hw⟩:=list_of (G:=fun el=>∃c,el=V.agg c/\WtV P e c) enc w (fun el ⟨c,hc,hwt⟩=>by
  subst hc
  obtain ⟨x,hx,hwx⟩:=hel c hwt
  exact ⟨x,hx,by simpa [bulkV] using hwx⟩) es fun el hm=>by
  obtain ⟨c,hc,hcc⟩:=h1 el hm
  have:=h3 el hm
  rw [hcc] at this
  exact ⟨c,hc,this⟩
 exact ⟨xs,by rw [hx],by simp only [bulkV];omega⟩
theorem slice_of1 {α:Type} {t e e2:TypeId} {v:V} (h:WtV P t [v]) (ht:P.underlying t=some (.slice e)) (he:P.underlying e=some (.slice e2)) (ha:aggT P e=some false) (hc1:P.cellsOf e=1) (enc:α->V) (w:α->Nat) (hel:∀v,WtV P e [v]->∃x,v=enc x/\w x<=bulkV v) :
  ∃xs:List α,v = .sl (xs.map enc)/\sumW w xs+1<=bulkV v:=by
 obtain ⟨es,rfl,h1,h2,h3⟩:=h.sl_inv ht
 rw [ha] at h1
 obtain ⟨xs,hx,hw⟩:=list_of (G:=fun el=>WtV P e [el]) enc w hel es fun el hm=>by
  obtain ⟨c,hc,hcc⟩:=h1 el hm
  have h4:=h3 el hm
  have h5:=h2 el hm
  rw [hcc] at h4 h5
  rw [hc1] at h5
  match c,h5 with
  | [x],_=>
   have:el=x:=hc
   rw [this];exact h4
 exact ⟨xs,by rw [hx],by simp only [bulkV];omega⟩
theorem WtV.bool_inv {t:TypeId} {v:V} (h:WtV P t [v]) (ht:P.underlying t=some .bool):∃b,v = .b b:=by
 cases h with
 | int _ k' n h hw=>rw [ht] at h;cases h
 | bool _ b h=>exact ⟨b,rfl⟩
 | str _ l h=>rw [ht] at h;cases h
 | sl _ e es h _ _ _=>rw [ht] at h;cases h
 | st _ fs vs h _ _=>rw [ht] at h;cases h
end
theorem len4 {l:List V} (h:l.length=4):∃a b c d,l=[a,b,c,d]:=by
 match l,h with
 | [a,b,c,d],_=>exact ⟨a,b,c,d,rfl⟩
theorem len16 {l:List V} (h:l.length=16):∃a b c d e r,l=a::b::c::d::e::r/\r.length=11:=by
 match l,h with
 | a::b::c::d::e::r,h=>exact ⟨a,b,c,d,e,r,rfl,by simpa using h⟩
theorem sum1 {α:Type} (xs:List α):sumW (fun _=>1) xs=xs.length:=by
 induction xs with
 | nil=>rfl
 | cons x xs ih=>simp only [sumW,ih,List.length_cons];omega
theorem cSpan:Tryz.prog.cellsOf 185=2:=by kernel_rfl
theorem cRel:Tryz.prog.cellsOf 165=4:=by kernel_rfl
theorem cRule:Tryz.prog.cellsOf 129=2:=by kernel_rfl
theorem cRels:Tryz.prog.cellsOf 162=1:=by kernel_rfl
theorem cSpans:Tryz.prog.cellsOf 163=1:=by kernel_rfl
theorem cCond:Tryz.prog.cellsOf 127=1:=by kernel_rfl
theorem cRules:Tryz.prog.cellsOf 22=1:=by kernel_rfl
theorem cBool:Tryz.prog.cellsOf 4=1:=by kernel_rfl
theorem cLoc:Tryz.prog.cellsOf 30=16:=by kernel_rfl
theorem aSpan:aggT Tryz.prog 185=some true:=by kernel_rfl
theorem aRel:aggT Tryz.prog 165=some true:=by kernel_rfl
theorem aRels:aggT Tryz.prog 162=some false:=by kernel_rfl
theorem aRule:aggT Tryz.prog 129=some true:=by kernel_rfl
theorem span_of (c:List V) (h:WtV Tryz.prog 185 c):∃x:Span,V.agg c=x.enc/\1<=bulkVs c:=by
 obtain ⟨hl,hf⟩:=h.st_inv Tryz.underlying185
 rw [cSpan] at hl
 obtain ⟨x0,x1,rfl⟩:=len2 hl
 have f0:=hf _ (by exact List.mem_cons_self)
 have f1:=hf _ (by exact List.mem_cons_of_mem _ List.mem_cons_self)
 simp only [c3,List.drop_zero,List.drop_succ_cons,List.take_succ_cons,List.take_zero] at f0 f1
 obtain ⟨a,rfl,_⟩:=f0.int_inv Tryz.underlying3
 obtain ⟨b,rfl,_⟩:=f1.int_inv Tryz.underlying3
 exact ⟨⟨a,b⟩,rfl,by simp [bulkVs,bulkV]⟩
theorem rel_of (c:List V) (h:WtV Tryz.prog 165 c):∃x:Rel,V.agg c=x.enc/\x.wt<=bulkVs c:=by
 obtain ⟨hl,hf⟩:=h.st_inv Tryz.underlying165
 rw [cRel] at hl
 obtain ⟨x0,x1,x2,x3,rfl⟩:=len4 hl
 have f0:=hf _ (by exact List.mem_cons_self)
 have f1:=hf _ (by exact List.mem_cons_of_mem _ List.mem_cons_self)
 have f2:=hf _ (by exact List.mem_cons_of_mem _ (List.mem_cons_of_mem _ List.mem_cons_self))
 have f3:=hf _ (by exact List.mem_cons_of_mem _ (List.mem_cons_of_mem _ (List.mem_cons_of_mem _ List.mem_cons_self)))
 simp only [c3,cBool,cSpans,List.drop_zero,List.drop_succ_cons,List.take_succ_cons,List.take_zero] at f0 f1 f2 f3
 obtain ⟨a,rfl,_⟩:=f0.int_inv Tryz.underlying3
 obtain ⟨b,rfl,_⟩:=f1.int_inv Tryz.underlying3
 obtain ⟨n,rfl⟩:=f2.bool_inv Tryz.underlying4
 obtain ⟨xs,rfl,hw⟩:=slice_of f3 Tryz.underlying163 aSpan Span.enc (fun _=>1) span_of
 rw [sum1] at hw
 refine ⟨⟨a,b,n,xs⟩,rfl,?_⟩
 simp only [bulkVs,bulkV] at hw⊢
 unfold Rel.wt
 simp only;omega
theorem sum_rels (xs:List Rel):wtRels xs=sumW Rel.wt xs+1:=by
 induction xs with
 | nil=>rfl
 | cons x xs ih=>simp only [sumW,wtRels,ih];omega
theorem sum_cond (xs:List (List Rel)):wtCond xs=sumW wtRels xs:=by
 induction xs with
 | nil=>rfl
 | cons x xs ih=>simp only [sumW,wtCond,ih]
theorem sum_rules (xs:List Rule):wtRules xs=sumW Rule.wt xs:=by
 induction xs with
 | nil=>rfl
 | cons x xs ih=>simp only [sumW,wtRules,ih]
theorem rels_of (v:V) (h:WtV Tryz.prog 162 [v]):∃x:List Rel,v=relsV x/\wtRels x<=bulkV v:=by
 obtain ⟨xs,rfl,hw⟩:=slice_of h Tryz.underlying162 aRel Rel.enc Rel.wt rel_of
 exact ⟨xs,rfl,by rw [sum_rels];exact hw⟩
theorem rule_of (c:List V) (h:WtV Tryz.prog 129 c):∃x:Rule,V.agg c=x.enc/\x.wt<=bulkVs c:=by
 obtain ⟨hl,hf⟩:=h.st_inv Tryz.underlying129
 rw [cRule] at hl
 obtain ⟨x0,x1,rfl⟩:=len2 hl
 have f0:=hf _ (by exact List.mem_cons_self)
 have f1:=hf _ (by exact List.mem_cons_of_mem _ List.mem_cons_self)
 simp only [c9,cCond,List.drop_zero,List.drop_succ_cons,List.take_succ_cons,List.take_zero] at f0 f1
 obtain ⟨a,rfl⟩:=f0.str_inv Tryz.underlying9
 obtain ⟨xs,rfl,hw⟩:=slice_of1 f1 Tryz.underlying127 Tryz.underlying162 aRels cRels relsV wtRels rels_of
 refine ⟨⟨a,xs⟩,rfl,?_⟩
 unfold Rule.wt
 rw [sum_cond]
 simp only [bulkVs,bulkV] at hw⊢
 omega
theorem loc_of (c:List V) (h:WtV Tryz.prog 30 c):∃l:Loc,V.agg c=l.enc/\l.rest.length=11/\wtRules l.card+wtRules l.ord<=bulkVs c:=by
 obtain ⟨hl,hf⟩:=h.st_inv Tryz.underlying30
 rw [cLoc] at hl
 obtain ⟨x0,x1,x2,x3,x4,r,rfl,hr⟩:=len16 hl
 have f0:=hf _ (by exact List.mem_cons_self)
 have f1:=hf _ (by exact List.mem_cons_of_mem _ List.mem_cons_self)
 have f2:=hf _ (by exact List.mem_cons_of_mem _ (List.mem_cons_of_mem _ List.mem_cons_self))
 have f3:=hf _ (by exact List.mem_cons_of_mem _ (List.mem_cons_of_mem _ (List.mem_cons_of_mem _ List.mem_cons_self)))
 have f4:=hf _ (by exact List.mem_cons_of_mem _ (List.mem_cons_of_mem _ (List.mem_cons_of_mem _ (List.mem_cons_of_mem _ List.mem_cons_self))))
 simp only [c9,cRules,List.drop_zero,List.drop_succ_cons,List.take_succ_cons,List.take_zero] at f0 f1 f2 f3 f4
 obtain ⟨a,rfl⟩:=f0.str_inv Tryz.underlying9
 obtain ⟨b,rfl⟩:=f1.str_inv Tryz.underlying9
 obtain ⟨d,rfl⟩:=f2.str_inv Tryz.underlying9
 obtain ⟨xs,rfl,hw⟩:=slice_of f3 Tryz.underlying22 aRule Rule.enc Rule.wt rule_of
 obtain ⟨ys,rfl,hw2⟩:=slice_of f4 Tryz.underlying22 aRule Rule.enc Rule.wt rule_of
 refine ⟨⟨a,b,d,xs,ys,r⟩,rfl,hr,?_⟩
 simp only [sum_rules]
 simp only [bulkVs,bulkV] at hw hw2⊢
 omega
end Go.Ir
end
namespace Go.Ir
open Go.Proofs
variable (W0 : World)
theorem eqPs_self:∀(N:Nat),(∀ps,wtPs ps<N->eqPs ps ps=true)/\(∀cs,wtCs cs<N->eqCs cs cs=true):=by
 intro N
 induction N with
 | zero=>exact ⟨fun _ h=>by omega,fun _ h=>by omega⟩
 | succ N ih=>
  have h1:∀ps,wtPs ps<N+1->eqPs ps ps=true:=by
   intro ps
   induction ps with
   | nil=>intro _;simp [eqPs]
   | cons p ps ih2=>
    intro h;rw [wtPs_cons] at h
    have hp:=p.wt_eq
    rw [eqPs_cons,p.eqB_eq,ih2 (by omega),ih.1 p.parts (by omega),ih.2 p.cases (by omega)];simp
  refine ⟨h1,fun cs=>?_⟩
  induction cs with
  | nil=>intro _;simp [eqCs]
  | cons c cs ih2=>
   intro h;rw [wtCs_cons] at h
   rw [eqCs_cons,h1 c.2 (by omega),ih2 (by omega)];simp
def TRs:Nat:=100
def sS (lo:Option Id) (L:List Sel):Sto:=match lo with
 | none=>[]
 | some id=>[(id,.arr TRs 3 (L.map Sel.enc))]
theorem eqPs_refl (ps:List Part):eqPs ps ps=true:=(eqPs_self _).1 ps (Nat.lt_succ_self _)
theorem finBox {W0:World} {nt n s k:Nat} {ag:Bool} {env:Env} {σ:Sto} {id:Id} {u v:V} (h4:get env s = .ref id 0) (hu:lk σ id=some (.box u)) (φ:Id->Option (List V)) (hφ:∀i es,φ i=some es->(∃e sz,lk σ i=some (.arr e sz es))/\i≠id)
  (hv:VLe φ u v) (hl:(cells v).length=(cells u).length) (ho:u.ok=true) (ho':v.ok=true) (hs:sub v 0 k ag=some v):FinW W0 nt [.c s k ag] [v] [] .ret ⟨env,σ,n⟩:=by
 refine ⟨⟨[(s,.ref id 0)],[(id,.box v)],n⟩,StLe.weak φ (fun i es h=>?_) (fun t=>?_) (fun i e' h=>?_) (Nat.le_refl _),⟨⟨id,0,v,by simp [get],by simp [lk],hs⟩,trivial⟩,fun _ _ h=>by cases h⟩
 ·obtain ⟨a,b⟩:=hφ i es h
  exact ⟨a,by simp only [lk];rw [if_neg (fun he=>b he.symm)]⟩
 ·by_cases ht:s=t
  ·subst ht;rw [h4];simp only [get,if_true];exact .refl _
  ·simp only [get,if_neg ht];exact .any _
 ·simp only [lk] at h
  split at h
  ·rename_i he;subst he;cases h
   exact ⟨_,hu,.box _ _ hv hl ho ho'⟩
  ·cases h
theorem vle_form1 {φ:Id->Option (List V)} (L:List Sel) (b:V) (lo:Option Id) (hn:lo=none->L=[]) (hφ:∀id,lo=some id->φ id=some (L.map Sel.enc)):VLe φ (.agg [sv lo,b]) (.agg [.sl (L.map Sel.enc),b]):=by
 refine .agg _ _ rfl fun k c c' h1 h2=>?_
 match k with
 | 0=>
  simp at h1 h2;subst h1 h2
  cases lo with
  | none=>rw [hn rfl];exact .nil
  | some id=>
   refine .arr id _ _ (hφ id rfl) rfl (fun k c c' h1 h2=>?_) (fun k c c' h1 h2=>?_)
   ·rw [h1] at h2;cases h2;exact .refl _
   ·rw [h1] at h2;cases h2
    obtain ⟨s,_,rfl⟩:=List.mem_map.1 (List.mem_of_getElem? h1)
    exact ⟨rfl,rfl,rfl⟩
 | 1=>simp at h1 h2;subst h1 h2;exact .refl _
 | k+2=>simp at h1
end Go.Ir
section
namespace Go.Ir
open Go.Proofs
variable (W0 : World)
theorem retN_nil {P:Program} {W0:World} {f:FuncId} {args:List V} {x:Ent} {e sz:Nat} (h:∀id,RetN P W0 f (.arr id::args) [(id,.arr e sz [])] x []):RetN P W0 f (.nil::args) [] x [] where
 callable:=(h (0,0)).callable
 dom:=fun id h=>by simp [lk] at h
 run:=by
  intro n w μ H vals hp hv
  have hnone:μ (n,0)=none:=hp.bd _ (Nat.le_refl _)
  have hmono:=setμ_mono (v:=.slice none 0 0) hnone
  have hnew:=(hp.more (Nat.le_succ n)).new_ (n':=n+1) (w':=w) (R:=fun _=>False) ⟨rfl,rfl,rfl,Nat.le_refl _,fun _ _ _=>rfl⟩ (fun _ h=>h.elim) (σ1:=[]) (fun id e h=>⟨h,fun _ _ h=>h⟩) (id:=(n,0)) (e:=.arr e sz []) (val:=.slice none 0 0) hnone (Nat.lt_succ_self _) (Nat.le_refl _) (fun bk hb=>by simp [blk] at hb)
   ⟨.slice none 0 0,[],setμ_self _ _ _,rfl,World.ownsRow_nil w _ e sz,Nat.zero_le _,(fun x hx=>by cases hx),CRel.nil_⟩
  obtain ⟨v0,vs,rfl⟩:∃v0 vs,vals=v0::vs:=by
   cases vals with
   | nil=>have:=hv.len;simp at this
   | cons a b=>exact ⟨a,b,rfl⟩
  have h0:=hv.at_ 0 _ _ rfl rfl
  have hv':VRels (setμ μ (n,0) (.slice none 0 0)) H (.arr (n,0)::args) (v0::vs):=by
   refine VRels.cons ?_ ⟨by have:=hv.len;simpa using this,fun k c v h1 h2=>(hv.at_ (k+1) c v (by simpa using h1) (by simpa using h2)).mono hmono (fun _ _ h=>h)⟩
   rw [h0.nil_inv]
   exact .arr _ _ (setμ_self _ _ _) rfl
  refine Calls.mono ((h (n,0)).run (n+1) w _ H _ hnew.1 hv') ?_
  rintro e' w' ⟨val,μ',H',n',id,h1,h2,h3,h4,h5,h6,h7,h8,h9⟩
  refine ⟨val,μ',H',n',id,h1,h2,h3,?_,h5,h6,by omega,hnew.2.trans h8,fun i hi h0=>h9 i (by omega) ?_⟩
  ·cases hm:μ id with
   | none=>rfl
   | some y=>have:=hmono id y hm;rw [h4] at this;cases this
  ·rw [setμ_ne _ _ (by rintro rfl;simp at hi)];exact h0
theorem c_solid (p:Part) (hw:p.wt<=2^24):RetS Tryz.prog W0 50 [p.v] [] (.b p.solid) []:=by
 have hp:=p.wt_eq
 have hlc:=len_wtCs p.cases
 have case1:∀(c:Case),wtPs c.2<=2^24->RetS Tryz.prog W0 95 [Case.v c] [] (.b (!plainPs c.2)) []:=by
  intro c h2
  have:=c_plain W0 _ c.2 (Nat.lt_succ_self _) h2
  unfold Case.v
  refine fn_retW (vs:=[.b (!plainPs c.2)]) f95ok (by simp) (by simp) fun n0 hn0=>?_
  clear hn0
  simp only [push_cast,seval,reduceEqDiff]
  repeat' (first|(((first|apply condU_s|apply gdU_t|apply gdU_f)<;>intro _h)<;>simp only [push_cast,seval,reduceEqDiff,_h])|(refine c_call (by exact this) ?_;simp only [push_cast,seval,reduceEqDiff])|intro _)
  all_goals (first|(refine finW_ret ?_;simp [get]<;>(intros;omega);done)|(refine finW_rets ?_;simp [push_cast,get];done)|skip)
 have hany:RetS Tryz.prog W0 94 [.sl (p.cases.map Case.enc),.fn 95 [] []] [] (.b (p.cases.any fun c=>!plainPs c.2)) []:=
  anyCase W0 (by omega) (fun c hc=>by have:=wtCs_mem hc;exact case1 c (by omega))
 have hpl:=c_plain W0 _ p.parts (Nat.lt_succ_self _) (by omega)
 rw [Part.solid_eq,<-plainCs_any]
 generalize hS:(!selB p.kind&&plainPs p.parts&&!p.cases.any fun c=>!plainPs c.2)=S
 unfold Part.v
 refine fn_retW (vs:=[.b S]) f50ok (by simp) (by simp) fun n0 hn0=>?_
 clear hn0
 simp only [push_cast,seval,reduceEqDiff]
 repeat' (first|(((first|apply condU_s|apply gdU_t|apply gdU_f)<;>intro _h)<;>(simp only [push_cast,seval,reduceEqDiff,_h];try (have _g:=_h;simp at _g)))|((first|refine c_call (by exact c_sSel W0 _) ?_|refine c_call (by exact hpl) ?_);simp only [push_cast,seval,reduceEqDiff])|intro _)
 all_goals (try (refine c_callsq hany ?_;simp only [push_cast,seval,reduceEqDiff]))
 repeat' (first|(((first|apply condU_s|apply gdU_t|apply gdU_f)<;>intro _h)<;>(simp only [push_cast,seval,reduceEqDiff,_h];try (have _g:=_h;simp at _g)))|intro _)
 all_goals (first|(refine finW_ret ?_;simp [get,<-hS, *]<;>(intros;omega);done)|(refine finW_rets ?_;simp [push_cast,get,<-hS, *];done)|skip)
abbrev Leaf:=Bytes × List Part
def leafV (l:Leaf):V:=.agg [.s l.1,.sl (l.2.map Part.enc)]
theorem leafV_eq (l:Leaf):leafV l = .agg [.s l.1,.sl (l.2.map Part.enc)]:=rfl
def decN (n:Nat):Bytes:=Lib.decDigits n
mutual
def Part.lvs:Part->Bytes->List Leaf
 | ⟨k,_,_,_,cs,ps⟩,pa=>if selB k then lvsCs cs pa else lvsPs ps pa 0 []
def lvsPs:List Part->Bytes->Nat->List Part->List Leaf
 | [],pa,n,run=>[(pa++decN n,run)]
 | p::ps,pa,n,run=>if p.solid then lvsPs ps pa n (run++[p]) else (pa++decN n,run)::(p.lvs (pa++decN (n+1)++[47])++lvsPs ps pa (n+1) [])
def lvsCs:List (Bytes × List Part)->Bytes->List Leaf
 | [],_=>[]
 | (key,ps)::cs,pa=>lvsPs ps (pa++key++[47]) 0 []++lvsCs cs pa
end
theorem Part.lvs_eq (p:Part) (pa:Bytes):p.lvs pa=if selB p.kind then lvsCs p.cases pa else lvsPs p.parts pa 0 []:=by cases p;simp only [Part.lvs]
theorem lvsPs_nil (pa:Bytes) (n:Nat) (run:List Part):lvsPs [] pa n run=[(pa++decN n,run)]:=by simp only [lvsPs]
theorem lvsPs_cons (p:Part) (ps:List Part) (pa:Bytes) (n:Nat) (run:List Part):lvsPs (p::ps) pa n run=if p.solid then lvsPs ps pa n (run++[p]) else (pa++decN n,run)::(p.lvs (pa++decN (n+1)++[47])++lvsPs ps pa (n+1) []):=by simp only [lvsPs]
theorem lvsCs_cons (c:Case) (cs:List Case) (pa:Bytes):lvsCs (c::cs) pa=lvsPs c.2 (pa++c.1++[47]) 0 []++lvsCs cs pa:=by obtain ⟨k,q⟩:=c;simp only [lvsCs]
theorem lvs_len:∀(N:Nat) (ps:List Part),wtPs ps<N->∀pa n run,(lvsPs ps pa n run).length<=1+2*wtPs ps:=by
 intro N
 induction N with
 | zero=>intro ps h;omega
 | succ N ih=>
  have hcs:∀cs:List Case,wtCs cs<N->∀pa,(lvsCs cs pa).length<=2*wtCs cs:=by
   intro cs
   induction cs with
   | nil=>intro _ pa;simp [lvsCs]
   | cons c cs ih2=>
    intro h pa;rw [wtCs_cons] at h;rw [lvsCs_cons,wtCs_cons,List.length_append]
    have h1:=ih c.2 (by omega) (pa++c.1++[47]) 0 [];have h2:=ih2 (by omega) pa;omega
  intro ps
  induction ps with
  | nil=>intro _ pa n run;simp [lvsPs]
  | cons p ps ih2=>
   intro h pa n run;rw [wtPs_cons] at h;rw [lvsPs_cons,wtPs_cons]
   have hw:=p.wt_eq
   split
   ·have:=ih2 (by omega) pa n (run++[p]);omega
   ·have h3:=ih2 (by omega) pa (n+1) []
    have h4:(p.lvs (pa++decN (n+1)++[47])).length+1<=2*p.wt:=by
     rw [p.lvs_eq]
     split
     ·have:=hcs p.cases (by omega) (pa++decN (n+1)++[47]);omega
     ·have:=ih p.parts (by omega) (pa++decN (n+1)++[47]) 0 [];omega
    rw [List.length_cons,List.length_append];omega
theorem lvsPs_len (ps:List Part) (pa:Bytes) (n:Nat) (run:List Part):(lvsPs ps pa n run).length<=1+2*wtPs ps:=lvs_len _ ps (Nat.lt_succ_self _) pa n run
def TL:Nat:=68
def LvR (bid lid:Id) (o:List Leaf) (n n':Nat) (v:V) (σ':Sto):Prop:=v = .tup []/\∃id:Id,(id=lid\/n<=id.1)/\id.1<n'/\σ'=[(id,.arr TL 2 (o.map leafV)),(bid,.box (.arr id))]
theorem c_leavesFn (q:List Part) (pa:Bytes) (o:List Leaf) (bid lid:Id) (hne:lid≠bid)
  (h:RetN Tryz.prog W0 69 [.arr lid,.sl (q.map Part.enc),.s pa] [(lid,.arr TL 2 (o.map leafV))] (.arr TL 2 ((o++lvsPs q pa 0 []).map leafV)) []) :
  RetE Tryz.prog W0 117 [.sl (q.map Part.enc),.s pa,.ref bid 0] [(lid,.arr TL 2 (o.map leafV)),(bid,.box (.arr lid))] (LvR bid lid (o++lvsPs q pa 0 [])):=by
 refine fn_retEW f117ok (by simp) fun n0 hn0=>?_
 have hb:bid.1<n0:=hn0 bid (.box (.arr lid)) (by simp [lk,hne])
 clear hn0
 have h1:(lid=bid)=False:=eq_false hne
 have h3:∀j:Nat,((n0,j)=bid)=False:=fun j=>ne_idx hb
 have h4:∀a b:Id,(isA (V.arr a)=isA (V.arr b))=True:=fun _ _=>eq_true rfl
 have hov:over [(lid,Ent.arr TL 2 (o.map leafV))] [] [(lid,.arr TL 2 (o.map leafV)),(bid,.box (.arr lid))]=[(bid,.box (.arr lid))]:=by
  simp [over,lk,h1,List.filter]
 simp only [push_cast,seval,reduceEqDiff,h1,h3,h4]
 refine c_calln h (fun i e h=>lk_app_left (τ:=[_]) h) ?_
 rw [hov]
 simp only [push_cast,seval,reduceEqDiff,h1,h3,h4]
 intros
 exact ⟨_,StLe.refl,[],_,trivial,fun _ _ h=>h,rfl,_,.inr (Nat.le_refl _),by simp only;omega,rfl⟩
theorem over_x2 {x a b:Id} {X A B:Ent} {σo:Sto} (h1:x≠a) (h2:x≠b):over [(a,A),(b,B)] σo [(x,X),(a,A),(b,B)]=σo++[(x,X)]:=by
 by_cases hab:a=b
 ·subst hab;simp [over,lk,List.filter,h1,Ne.symm h1]
 ·simp [over,lk,List.filter,h1,h2,Ne.symm h1,Ne.symm h2,hab]
theorem lk_x2 {x a b:Id} {A B:Ent} (h1:x≠a) (h2:x≠b):lk [(a,A),(b,B)] x=none:=by
 simp [lk,Ne.symm h1,Ne.symm h2]
set_option maxHeartbeats 4000000 in
theorem c_lists (p:Part) (pa:Bytes) (bid:Id) (hw:p.wt<=2^24) (hpa:pa.length+32*p.wt<=2^32+32) (M:Nat)
  (hcl:∀(q:List Part) (pa':Bytes) (o:List Leaf) (lid:Id),wtPs q<p.wt->pa'.length+32*wtPs q<=2^32->lid≠bid->o.length+2*wtPs q+1<=M->
   RetE Tryz.prog W0 117 [.sl (q.map Part.enc),.s pa',.ref bid 0] [(lid,.arr TL 2 (o.map leafV)),(bid,.box (.arr lid))] (LvR bid lid (o++lvsPs q pa' 0 [])))
  (o:List Leaf) (lid:Id) (hne:lid≠bid) (ho:o.length+2*p.wt<=M) :
  RetE Tryz.prog W0 116 [p.v,.s pa,.fn 117 [] [.ref bid 0]] [(lid,.arr TL 2 (o.map leafV)),(bid,.box (.arr lid))] (LvR bid lid (o++p.lvs pa)):=by
 have hpw:=p.wt_eq
 have hlc:=len_wtCs p.cases
 have hsel:=c_sSel W0 p.kind
 generalize hS:o++p.lvs pa=S
 rw [p.lvs_eq] at hS
 unfold Part.v
 refine fn_retEW f116ok (by simp) fun n0 hn0=>?_
 have hb:bid.1<n0:=hn0 bid (.box (.arr lid)) (by simp [lk,hne])
 have hl:lid.1<n0:=hn0 lid (.arr TL 2 (o.map leafV)) (by simp [lk])
 clear hn0
 have h1:(lid=bid)=False:=eq_false hne
 have h2:∀j:Nat,((n0,j)=bid)=False:=fun j=>ne_idx hb
 have h3:∀j:Nat,((n0,j)=lid)=False:=fun j=>ne_idx hl
 cases hs:selB p.kind with
 | false=>
  rw [hs] at hsel hS
  simp only [bq,if_true,if_false,Int.reduceBEq,reduceCtorEq] at hS
  subst hS
  simp only [push_cast,seval,reduceEqDiff,h1,h2,h3]
  repeat' (first|(((first|apply condU_s|apply gdU_t|apply gdU_f)<;>intro _h)<;>simp only [push_cast,seval,reduceEqDiff,_h,h1,h2,h3])|(refine c_call (by exact hsel) ?_;simp only [push_cast,seval,reduceEqDiff,h1,h2,h3])|intro _)
  refine c_callx (hcl p.parts pa o lid (by omega) (by omega) hne (by omega)) (lk_drop1 (lk_x2 (fun he=>of_eq_false (h3 _) he) (fun he=>of_eq_false (h2 _) he))) (fun n2 v σo hle hR=>?_)
  obtain ⟨rfl,id,hi1,hi2,rfl⟩:=hR
  rw [over_x2 (fun he=>of_eq_false (h3 _) he) (fun he=>of_eq_false (h2 _) he)]
  simp only [push_cast,seval,reduceEqDiff,h1,h2,h3]
  intros
  exact ⟨_,StLe.refl,[],_,trivial,fun i e h=>lk_app_left (τ:=[_]) h,rfl,id,by rcases hi1 with h|h;exact .inl h;exact .inr (by omega),by simp only;omega,rfl⟩
 | true=>
  rw [hs] at hsel hS
  simp only [bq,if_true,if_false,Int.reduceBEq,reduceCtorEq] at hS
  simp only [push_cast,seval,reduceEqDiff,h1,h2,h3,List.length_map]
  repeat' (first|(((first|apply condU_s|apply gdU_t|apply gdU_f)<;>intro _h)<;>simp only [push_cast,seval,reduceEqDiff,_h,h1,h2,h3,List.length_map])|(refine c_call (by exact hsel) ?_;simp only [push_cast,seval,reduceEqDiff,h1,h2,h3,List.length_map])|intro _)
  refine aWP_loopW p.cases.length (Inv:=fun m st=>∃cd cr n lid' o',p.cases=cd++cr/\m=cr.length/\o'++lvsCs cr pa=S/\o'.length+2*wtCs cr<=M/\(lid'=lid\/n0<=lid'.1)/\lid'.1<n/\n0<=n/\st=⟨[(1,.s pa),(2,.fn 117 [] [.ref bid 0]),(18,.sl (p.cases.map Case.enc)),(19,.i .i64 p.cases.length),(20,.i .i64 cd.length)],[(lid',.arr TL 2 (o'.map leafV)),(bid,.box (.arr lid'))],n⟩) ⟨_,StLe.drop (lk_drop1 (lk_x2 (fun he=>of_eq_false (h3 _) he) (fun he=>of_eq_false (h2 _) he))) (Nat.le_refl _),[],p.cases,_,lid,o,rfl,rfl,hS,by omega,.inl rfl,by (try simp only);omega,by (try simp only);omega,rfl⟩ ?_
  clear hS
  rintro m _ ⟨cd,cr,n,lid',o',hcz,rfl,hd,hM,hl1,hl2,hn,rfl⟩
  have hne':lid'≠bid:=by
   rcases hl1 with rfl|h
   ·exact hne
   ·rintro rfl;omega
  cases cr with
  | nil=>
   have hlt0:decide ((cd.length:Int)<(p.cases.length:Int))=false:=by rw [hcz];simp
   simp only [lvsCs,List.append_nil] at hd
   subst hd
   simp only [push_cast,seval,reduceEqDiff,hlt0]
   intros
   exact ⟨_,StLe.refl,[],_,trivial,fun _ _ h=>h,rfl,lid',hl1,by simp only;omega,rfl⟩
  | cons c cr=>
   have hlt0:decide ((cd.length:Int)<(p.cases.length:Int))=true:=by rw [hcz];simp;omega
   have hcb:=zip_bd hcz
   have hcw:=wtCs_mem (cs:=p.cases) (c:=c) (by rw [hcz];simp)
   have hget:(p.cases.map Case.enc)[cd.length]? = some (.agg [.s c.1,.sl (c.2.map Part.enc)]):=by
    rw [hcz,List.getElem?_map,List.getElem?_append_right (by simp)];simp [Case.enc_eq]
   rw [lvsCs_cons] at hd
   rw [wtCs_cons] at hM
   have hlv:=lvsPs_len c.2 (pa++c.1++[47]) 0 []
   have g1:(lid'=bid)=False:=eq_false hne'
   have g2:∀k j:Nat,((n+1+k,j)=bid)=False:=fun k j=>ne_idx (by omega)
   have g3:∀k j:Nat,((n+1+k,j)=lid')=False:=fun k j=>ne_idx (by omega)
   simp only [push_cast,seval,reduceEqDiff,hlt0,hget,if_pos hcb,wrap_zip c (done:=cd) (by omega),List.length_map,g1,g2,g3]
   repeat' (first|(((first|apply condU_s|apply gdU_t|apply gdU_f)<;>intro _h)<;>simp only [push_cast,seval,reduceEqDiff,_h,hlt0,hget,if_pos hcb,wrap_zip c (done:=cd) (by omega),List.length_map,g1,g2,g3])|(refine jp_i (by simp only [List.length_append,List.length_cons,List.length_nil,SLim]<;>omega) ?_;simp only [push_cast,seval,reduceEqDiff,hlt0,hget,if_pos hcb,wrap_zip c (done:=cd) (by omega),List.length_map,g1,g2,g3])|intro _)
   refine c_callx (hcl c.2 (pa++c.1++[47]) o' lid' (by omega) (by simp only [List.length_append,List.length_cons,List.length_nil];omega) hne' (by omega)) (lk_drop1 (lk_x2 (fun he=>of_eq_false (g3 _ _) he) (fun he=>of_eq_false (g2 _ _) he))) (fun n2 v σo hle hR=>?_)
   obtain ⟨rfl,id,hi1,hi2,rfl⟩:=hR
   rw [over_x2 (fun he=>of_eq_false (g3 _ _) he) (fun he=>of_eq_false (g2 _ _) he)]
   rw [<-List.append_assoc] at hd
   simp only [push_cast,seval,reduceEqDiff,hlt0,hget,if_pos hcb,wrap_zip c (done:=cd) (by omega),List.length_map,g1,g2,g3]
   intros
   refine ⟨_,_,Nat.lt_succ_self _,StLe.drop (fun i e h=>lk_app_left (τ:=[_]) h) (Nat.le_refl _),cd++[c],cr,_,id,_,by rw [hcz];simp,rfl,hd,?_,?_,?_,?_,rfl⟩
   ·rw [List.length_append];omega
   ·rcases hi1 with rfl|h
    ·exact hl1
    ·exact .inr (by omega)
   ·rcases hi1 with rfl|h<;>omega
   ·omega
end Go.Ir
end
namespace Go.Ir
open Go.Proofs
variable (W0 : World)
theorem lvsCs_len (cs:List Case) (pa:Bytes):(lvsCs cs pa).length<=2*wtCs cs:=by
 induction cs with
 | nil=>simp [lvsCs]
 | cons c cs ih=>rw [lvsCs_cons,wtCs_cons,List.length_append];have:=lvsPs_len c.2 (pa++c.1++[47]) 0 [];omega
theorem lvs_part (p:Part) (pa:Bytes):(p.lvs pa).length+1<=2*p.wt:=by
 rw [p.lvs_eq,p.wt_eq]
 split
 ·have:=lvsCs_len p.cases pa;omega
 ·have:=lvsPs_len p.parts pa 0 [];omega
theorem frz_slot {W0:World} {nt n n' s e sz:Nat} {env:Env} {σ τ:Sto} {rid:Id} {es:List V} (hs:get env s = .arr rid) (hr:lk σ rid=some (.arr e sz es)) (hτ:∀i e',lk τ i=some e'->lk σ i=some e'/\i≠rid) (hok:∀y∈es,y.ok=true) (hn:n<=n') :
  StLe W0 nt ⟨env,σ,n⟩ ⟨(s,.sl es)::env,τ,n'⟩:=by
 refine StLe.weak (fun i=>if i=rid then some es else none) (fun i es' h=>?_) (fun t=>?_) (fun i e' h=>⟨e',(hτ i e' h).1,.refl _⟩) hn
 ·split at h
  ·rename_i hi;subst hi;cases h
   refine ⟨⟨e,sz,hr⟩,?_⟩
   cases hl:lk τ i with
   | none=>rfl
   | some x=>exact absurd rfl (hτ i x hl).2
  ·cases h
 ·by_cases ht:s=t
  ·subst ht
   rw [hs]
   simp only [get,if_true]
   refine .arr rid es es (by simp) rfl (fun k c c' h1 h2=>?_) (fun k c c' h1 h2=>?_)
   ·rw [h1] at h2;cases h2;exact .refl _
   ·rw [h1] at h2;cases h2
    have:=hok c (List.mem_of_getElem? h1)
    exact ⟨rfl,this,this⟩
  ·simp only [get,if_neg ht];exact .refl _
theorem over_m2 {x a b:Id} {X A B:Ent} {σo:Sto} (h1:x≠a) (h2:x≠b):over [(a,A),(b,B)] σo [(a,A),(x,X),(b,B)]=σo++[(x,X)]:=by
 by_cases hab:a=b
 ·subst hab;simp [over,lk,List.filter,h1,Ne.symm h1]
 ·simp [over,lk,List.filter,h1,h2,Ne.symm h1,Ne.symm h2,hab]
theorem lk_m2 {x a b:Id} {X A B:Ent} (h1:x≠a) (h2:x≠b):∀i e,lk [(a,A),(b,B)] i=some e->lk [(a,A),(x,X),(b,B)] i=some e:=by
 intro i e h
 simp only [lk] at h⊢
 split at h
 ·rename_i ha;rw [if_pos ha];exact h
 ·rename_i ha
  rw [if_neg ha]
  split at h
  ·rename_i hb;subst hb;rw [if_neg h2,if_pos rfl];exact h
  ·cases h
set_option maxHeartbeats 4000000 in
theorem c_leavesA (K:Nat) (hI:∀i:Nat,i<=K->RetS Tryz.prog W0 114 [.i .i64 i] [] (.s (decN i)) []/\(decN i).length<=20) :
  ∀(N:Nat) (ps:List Part) (pa:Bytes) (o:List Leaf) (lid:Id),wtPs ps<N->wtPs ps<=2^24->wtPs ps<=K->pa.length+32*wtPs ps<=2^32->o.length+2*wtPs ps+1<=2^30->
  RetN Tryz.prog W0 69 [.arr lid,.sl (ps.map Part.enc),.s pa] [(lid,.arr TL 2 (o.map leafV))] (.arr TL 2 ((o++lvsPs ps pa 0 []).map leafV)) []:=by
 intro N
 induction N with
 | zero=>intro ps pa o lid h;omega
 | succ N ih=>
 intro ps pa o0 lid0 hN hw0 hK0 hpa hM
 have hlen:=len_wtPs ps
 generalize hS:o0++lvsPs ps pa 0 []=S
 refine fn_newW (s:=6) f69ok (by simp) (by simp [lk]) fun n0 hn0=>?_
 have hl0:lid0.1<n0:=hn0 lid0 (.arr TL 2 (o0.map leafV)) (by simp [lk])
 clear hn0
 simp only [push_cast,seval,reduceEqDiff]
 intros
 rename_i a1 a2 a3 a4
 have hn1:n0<n0+1+a1+1+a2+1+a3+1+a4:=by omega
 generalize n0+1+a1+1+a2+1+a3+1+a4=n1 at *
 refine aWP_loopW ps.length (Inv:=fun m st=>∃done rest n lid rid o run k,ps=done++rest/\m=rest.length/\o++lvsPs rest pa k run=S/\o.length+2*wtPs rest+1<=2^30/\k<=done.length/\run.length<=done.length/\wtPs run+wtPs rest<=wtPs ps/\n0<n/\lid.1<n/\rid.1<n/\lid≠(n0,3)/\rid≠(n0,3)/\rid≠lid/\st=⟨[(2,.s pa),(3,.ref (n0,3) 0),(7,.arr rid),(8,.i .i64 k),(11,.sl (ps.map Part.enc)),(12,.i .i64 ps.length),(13,.i .i64 done.length)],[(rid,.arr TPt 6 (run.map Part.enc)),(lid,.arr TL 2 (o.map leafV)),((n0,3),.box (.arr lid))],n⟩) ⟨_,(StLe.own (s:=7) (e:=TPt) (sz:=6) (k:=99) rfl).trans ((StLe.envD (fun t=>?_) (Nat.le_refl _)).trans (StLe.sub (σ':=[((n1,99),.arr TPt 6 []),(lid0,.arr TL 2 (o0.map leafV)),((n0,3),.box (.arr lid0))]) ?_ ?_ (Nat.le_refl _))),[],ps,_,lid0,(n1,99),o0,[],0,rfl,rfl,hS,hM,by simp,by simp,by simp [wtPs_nil],?_,?_,?_,?_,?_,?_,rfl⟩ ?_
 ·left
  by_cases h3:7=t
  ·subst h3;rfl
  ·simp [get,h3]
 ·have e1:((n1,99):Id)≠lid0:=fun he=>by rw [<-he] at hl0;simp at hl0;omega
  have e2:lid0≠((n0,3):Id):=fun he=>by rw [he] at hl0;simp at hl0
  have e3:((n1,99):Id)≠(n0,3):=fun he=>by injection he with h1 h2;omega
  simp [e1,e2,Ne.symm e1,Ne.symm e2]
 ·intro p hp
  simp at hp⊢
  rcases hp with h|h|h<;>simp [h]
 ·(try simp only);omega
 ·(try simp only);omega
 ·(try simp only);omega
 ·intro he;rw [he] at hl0;simp at hl0
 ·intro he;injection he with h1 h2;omega
 ·intro he;rw [<-he] at hl0;simp at hl0;omega
 clear hS
 rintro m _ ⟨done,rest,n,lid,rid,o,run,k,hz,rfl,hd,hM,hk,hrl,hrw,hn,hl,hr,hlb,hrb,hrl2,rfl⟩
 have d1:∀i j:Nat,((n+1+i,j)=lid)=False:=fun i j=>ne_idx (by omega)
 have d1':∀i j:Nat,(lid=(n+1+i,j))=False:=fun i j=>eq_false fun he=>of_eq_false (d1 i j) he.symm
 have d2:∀i j:Nat,((n+1+i,j)=rid)=False:=fun i j=>ne_idx (by omega)
 have d2':∀i j:Nat,(rid=(n+1+i,j))=False:=fun i j=>eq_false fun he=>of_eq_false (d2 i j) he.symm
 have d3:∀i j q:Nat,((n+1+i,j)=(n0,q))=False:=fun i j q=>eq_false fun he=>by injection he with h1 h2;omega
 have d3':∀i j q:Nat,((n0,q)=(n+1+i,j))=False:=fun i j q=>eq_false fun he=>of_eq_false (d3 i j q) he.symm
 have c1:(lid=(n0,3))=False:=eq_false hlb
 have c1':((n0,3)=lid)=False:=eq_false (Ne.symm hlb)
 have c2:(rid=(n0,3))=False:=eq_false hrb
 have c2':((n0,3)=rid)=False:=eq_false (Ne.symm hrb)
 have c3:(rid=lid)=False:=eq_false hrl2
 have c3':(lid=rid)=False:=eq_false (Ne.symm hrl2)
 have hia:∀a b:Id,(isA (V.arr a)=isA (V.arr b))=True:=fun _ _=>eq_true rfl
 cases rest with
 | nil=>
  have hlt0:decide ((done.length:Int)<(ps.length:Int))=false:=by rw [hz];simp
  have hpl:ps.length=done.length:=by rw [hz];simp
  rw [lvsPs_nil] at hd
  subst hd
  obtain ⟨hIk,hIl⟩:=hI k (by omega)
  have hcl:=c_cloned W0 _ run (Nat.lt_succ_self _) (by omega)
  generalize hdk:decN k=DK at *
  have hap:List.map leafV o++[.agg [.s (pa++DK),.sl (run.map Part.enc)]]=(o++[(pa++DK,run)]).map leafV:=by simp [leafV]
  have hll:o.length+1<=LLim:=by unfold LLim;omega
  simp only [push_cast,seval,reduceEqDiff,hlt0]
  intro k1
  refine wkW_i (frz_slot (s:=7) (rid:=rid) (e:=TPt) (sz:=6) (es:=run.map Part.enc) (τ:=[(lid,.arr TL 2 (o.map leafV)),((n0,3),.box (.arr lid))]) rfl (by simp [lk]) (fun i e' h=>?_) (okPt _) (Nat.le_refl _)) ?_
  ·refine ⟨lk_drop1 (by simp [lk,c3',c2']) i e' h,?_⟩
   rintro rfl
   simp [lk,c3',c2'] at h
  simp only [push_cast,seval,reduceEqDiff,c1,c1',c2,c2',c3,c3',d1,d1',hia,TL,hap,eq_true hll,List.length_map]
  repeat' (first|(((first|apply condU_s|apply gdU_t|apply gdU_f)<;>intro _h)<;>simp only [push_cast,seval,reduceEqDiff,_h,c1,c1',c2,c2',c3,c3',d1,d1',hia,TL,hap,eq_true hll,List.length_map])|((first|refine c_call (by exact hIk) ?_|refine c_call (by exact hcl) ?_|refine jp_i (by simp only [List.length_append,List.length_cons,List.length_nil,SLim]<;>omega) ?_);simp only [push_cast,seval,reduceEqDiff,c1,c1',c2,c2',c3,c3',d1,d1',hia,TL,hap,eq_true hll,List.length_map])|intro _)
  exact finNW_i rfl (by simp [lk])
 | cons p rest=>
  have hbd:=zip_bd hz
  have hwp:=wtPs_mem (ps:=ps) (p:=p) (by rw [hz];simp)
  have hpl:ps.length=done.length+(rest.length+1):=by rw [hz];simp
  have hlt0:decide ((done.length:Int)<(ps.length:Int))=true:=by simp;omega
  have hget:(ps.map Part.enc)[done.length]? = some p.enc:=by rw [hz,List.getElem?_map,List.getElem?_append_right (by simp)];simp
  rw [lvsPs_cons] at hd
  rw [wtPs_cons] at hM hrw
  have hso:=c_solid W0 p (by omega)
  unfold Part.v at hso
  cases hsl:p.solid with
  | true=>
   rw [hsl] at hso hd
   simp only [bq,if_true,if_false,Int.reduceBEq,reduceCtorEq] at hd
   have hll:run.length+1<=LLim:=by unfold LLim;omega
   have hap:List.map Part.enc run++[.agg [.i .i64 p.kind,.s p.text,.s p.name,.s p.style,.sl (p.cases.map Case.enc),.sl (p.parts.map Part.enc)]]=(run++[p]).map Part.enc:=by simp [Part.enc_eq]
   simp only [push_cast,seval,reduceEqDiff,hlt0,hget,if_pos hbd,wrap_zip p (done:=done) (by omega),List.length_map,c1,c1',c2,c2',c3,c3',d1,d1',d2,d2',d3,d3',TPt,hap,eq_true hll]
   repeat' (first|(((first|apply condU_s|apply gdU_t|apply gdU_f)<;>intro _h)<;>simp only [push_cast,seval,reduceEqDiff,_h,hlt0,hget,if_pos hbd,wrap_zip p (done:=done) (by omega),List.length_map,c1,c1',c2,c2',c3,c3',d1,d1',d2,d2',d3,d3',TPt,hap,eq_true hll])|(refine c_call (by exact hso) ?_;simp only [push_cast,seval,reduceEqDiff,hlt0,hget,if_pos hbd,wrap_zip p (done:=done) (by omega),List.length_map,c1,c1',c2,c2',c3,c3',d1,d1',d2,d2',d3,d3',TPt,hap,eq_true hll])|intro _)
   rename_i b1 b2 b3 b4 b5
   refine ⟨_,_,Nat.lt_succ_self _,StLe.dropM (by simp [lk,d1',d3']) (Nat.le_refl _),done++[p],rest,_,lid,_,o,run++[p],k,by rw [hz];simp,rfl,hd,by omega,by simp;omega,by simp;omega,?_,?_,?_,?_,hlb,?_,?_,rfl⟩
   ·rw [wtPs_app,wtPs_cons,wtPs_nil];omega
   ·omega
   ·omega
   ·simp only;omega
   ·intro he;injection he with h1 h2;omega
   ·intro he;rw [<-he] at hl;simp at hl;omega
  | false=>
   rw [hsl] at hso hd
   simp only [bq,if_true,if_false,Int.reduceBEq,reduceCtorEq] at hd
   simp only [push_cast,seval,reduceEqDiff,hlt0,hget,if_pos hbd,wrap_zip p (done:=done) (by omega),List.length_map,c1,c1',c2,c2',c3,c3',d1,d1',d2,d2',d3,d3']
   repeat' (first|(((first|apply condU_s|apply gdU_t|apply gdU_f)<;>intro _h)<;>simp only [push_cast,seval,reduceEqDiff,_h,hlt0,hget,if_pos hbd,wrap_zip p (done:=done) (by omega),List.length_map,c1,c1',c2,c2',c3,c3',d1,d1',d2,d2',d3,d3'])|(refine c_call (by exact hso) ?_;simp only [push_cast,seval,reduceEqDiff,hlt0,hget,if_pos hbd,wrap_zip p (done:=done) (by omega),List.length_map,c1,c1',c2,c2',c3,c3',d1,d1',d2,d2',d3,d3'])|intro _)
   rename_i b1 b2 b3
   have hx:n<n+1+b1/\n+1+b1<n+1+b1+1+b2+1+b3:=by omega
   generalize n+1+b1+1+b2+1+b3=n2 at *
   have g1:∀j:Nat,((n+1+b1,j)=lid)=False:=fun j=>d1 b1 j
   have g1':∀j:Nat,(lid=(n+1+b1,j))=False:=fun j=>d1' b1 j
   have g2:∀j:Nat,((n+1+b1,j)=rid)=False:=fun j=>d2 b1 j
   have g3:∀j q:Nat,((n+1+b1,j)=(n0,q))=False:=fun j q=>d3 b1 j q
   have g3':∀j q:Nat,((n0,q)=(n+1+b1,j))=False:=fun j q=>d3' b1 j q
   generalize n+1+b1=x0 at *
   obtain ⟨hx1,hx2⟩:=hx
   have e1:∀i j:Nat,((n2+1+i,j)=lid)=False:=fun i j=>ne_idx (by omega)
   have e1':∀i j:Nat,(lid=(n2+1+i,j))=False:=fun i j=>eq_false fun he=>of_eq_false (e1 i j) he.symm
   have e3:∀i j q:Nat,((n2+1+i,j)=(n0,q))=False:=fun i j q=>eq_false fun he=>by injection he with h1 h2;omega
   have e3':∀i j q:Nat,((n0,q)=(n2+1+i,j))=False:=fun i j q=>eq_false fun he=>of_eq_false (e3 i j q) he.symm
   have e4:∀i j q:Nat,((n2+1+i,j)=(x0,q))=False:=fun i j q=>eq_false fun he=>by injection he with h1 h2;omega
   have e4':∀i j q:Nat,((x0,q)=(n2+1+i,j))=False:=fun i j q=>eq_false fun he=>of_eq_false (e4 i j q) he.symm
   have f1:∀j:Nat,((n2,j)=lid)=False:=fun j=>ne_idx (by omega)
   have f3:∀j q:Nat,((n2,j)=(n0,q))=False:=fun j q=>eq_false fun he=>by injection he with h1 h2;omega
   have f3':∀j q:Nat,((n0,q)=(n2,j))=False:=fun j q=>eq_false fun he=>of_eq_false (f3 j q) he.symm
   have f4:∀j q:Nat,((n2,j)=(x0,q))=False:=fun j q=>eq_false fun he=>by injection he with h1 h2;omega
   have f4':∀j q:Nat,((x0,q)=(n2,j))=False:=fun j q=>eq_false fun he=>of_eq_false (f4 j q) he.symm
   obtain ⟨hIk,hIl⟩:=hI k (by omega)
   obtain ⟨hIk2',hIl2⟩:=hI (k+1) (by omega)
   have hIk2:RetS Tryz.prog W0 114 [.i .i64 ((k:Int)+1)] [] (.s (decN (k+1))) []:=hIk2'
   have hcl:=c_cloned W0 _ run (Nat.lt_succ_self _) (by omega)
   generalize decN k=DK at *
   generalize decN (k+1)=DL at *
   have hap:List.map leafV o++[.agg [.s (pa++DK),.sl (run.map Part.enc)]]=(o++[(pa++DK,run)]).map leafV:=by simp [leafV]
   have hll:o.length+1<=LLim:=by unfold LLim;omega
   have hwk:IntKind.i64.wrap ((k:Int)+1)=((k+1:Nat):Int):=by rw [wrap64 (by omega) (by omega)];simp
   refine wkW_i (frz_slot (s:=7) (rid:=rid) (e:=TPt) (sz:=6) (es:=run.map Part.enc) (τ:=[((x0,10),.box (.agg [.i .i64 p.kind,.s p.text,.s p.name,.s p.style,.sl (p.cases.map Case.enc),.sl (p.parts.map Part.enc)])),(lid,.arr TL 2 (o.map leafV)),((n0,3),.box (.arr lid))]) rfl (by simp [lk,g2]) (fun i e' h=>?_) (okPt _) (Nat.le_refl _)) ?_
   ·have hne:i≠rid:=by
     rintro rfl
     simp [lk,g2,c3',c2'] at h
    refine ⟨?_,hne⟩
    simp only [lk] at h⊢
    by_cases hx:(x0,10)=i
    ·rw [if_pos hx] at h⊢;exact h
    ·rw [if_neg hx] at h⊢;rw [if_neg (Ne.symm hne)];exact h
   simp only [push_cast,seval,reduceEqDiff,c1,c1',c2,c2',c3,c3',g1,g1',g3,g3',e1,e1',e3,e3',e4,e4',f1,f3,f3',f4,f4',hia,TL,hap,eq_true hll,List.length_map,hwk,wrap_zip p (done:=done) (by omega)]
   repeat' (first|(((first|apply condU_s|apply gdU_t|apply gdU_f)<;>intro _h)<;>simp only [push_cast,seval,reduceEqDiff,_h,c1,c1',c2,c2',c3,c3',g1,g1',g3,g3',e1,e1',e3,e3',e4,e4',f1,f3,f3',f4,f4',hia,TL,hap,eq_true hll,List.length_map,hwk,wrap_zip p (done:=done) (by omega)])|((first|refine c_call (by exact hIk) ?_|refine c_call (by exact hcl) ?_|refine c_call (by exact hIk2) ?_|refine jp_i (by simp only [List.length_append,List.length_cons,List.length_nil,SLim]<;>omega) ?_);simp only [push_cast,seval,reduceEqDiff,c1,c1',c2,c2',c3,c3',g1,g1',g3,g3',e1,e1',e3,e3',e4,e4',f1,f3,f3',f4,f4',hia,TL,hap,eq_true hll,List.length_map,hwk,wrap_zip p (done:=done) (by omega)])|intro _)
   have hli:=c_lists W0 p (pa++DL++[47]) (n0,3) (by omega) (by simp only [List.length_append,List.length_cons,List.length_nil];omega) (2^30)
    (fun q pa' o' lid' h1 h2 h3 h4=>c_leavesFn W0 q pa' o' (n0,3) lid' h3 (ih q pa' o' lid' (by omega) (by omega) (by omega) h2 (by omega))) (o++[(pa++DK,run)]) (n2,32) (fun he=>of_eq_false (f3 _ _) he) (by simp only [List.length_append,List.length_cons,List.length_nil];omega)
   unfold Part.v at hli
   refine c_callx hli (lk_m2 (fun he=>of_eq_false (f4' _ _) he) (fun he=>of_eq_false (g3 _ _) he)) (fun n5 v σo hle hR=>?_)
   obtain ⟨rfl,id,hi1,hi2,rfl⟩:=hR
   have hlp:=lvs_part p (pa++DL++[47])
   simp only [TL]
   rw [over_m2 (fun he=>of_eq_false (f4' _ _) he) (fun he=>of_eq_false (g3 _ _) he)]
   generalize p.lvs (pa++DL++[47])=LV at *
   rw [show o++(pa++DK,run)::(LV++lvsPs rest pa (k+1) [])=(o++[(pa++DK,run)]++LV)++lvsPs rest pa (k+1) [] by simp] at hd
   simp only [push_cast,seval,reduceEqDiff,c1,c1',c2,c2',c3,c3',g1,g1',g3,g3',e1,e1',e3,e3',e4,e4',f1,f3,f3',f4,f4',hia,TL,hap,eq_true hll,List.length_map,hwk,wrap_zip p (done:=done) (by omega)]
   intros
   rename_i b4 b5
   have hx3:n5<n5+1+b4+1+b5:=by omega
   generalize n5+1+b4+1+b5=n6 at *
   have hid:id.1<n6:=by omega
   have hid2:id=(n2,32)\/n0<id.1:=by
    rcases hi1 with h|h
    ·exact .inl h
    ·exact .inr (by omega)
   refine ⟨_,⟨[(2,.s pa),(3,.ref (n0,3) 0),(7,.arr (n6,99)),(8,.i .i64 ((k+1:Nat):Int)),(11,.sl (ps.map Part.enc)),(12,.i .i64 ps.length),(13,.i .i64 (done++[p]).length)],[((n6,99),.arr TPt 6 []),(id,.arr TL 2 ((o++[(pa++DK,run)]++LV).map leafV)),((n0,3),.box (.arr id))],n6+1⟩,Nat.lt_succ_self _,(StLe.own (s:=7) (e:=TPt) (sz:=6) (k:=99) rfl).trans ((StLe.envD (fun t=>?_) (Nat.le_refl _)).trans (StLe.drop (fun i e h=>lk_app_left (τ:=[_]) h) (Nat.le_refl _))),done++[p],rest,_,id,(n6,99),_,[],k+1,by rw [hz];simp,rfl,hd,?_,?_,?_,?_,?_,?_,?_,?_,?_,?_,rfl⟩
   ·left
    by_cases h3:7=t
    ·subst h3;rfl
    ·simp [get,h3]
   ·simp only [List.length_append,List.length_cons,List.length_nil];omega
   ·simp;omega
   ·simp
   ·rw [wtPs_nil];omega
   ·omega
   ·omega
   ·simp only;omega
   ·rcases hid2 with rfl|h
    ·exact fun he=>of_eq_false (f3 _ _) he
    ·rintro rfl;simp at h
   ·intro he;injection he with h1 h2;omega
   ·rintro rfl;simp at hid
theorem c_Leaves (K:Nat) (hI:∀i:Nat,i<=K->RetS Tryz.prog W0 114 [.i .i64 i] [] (.s (decN i)) []/\(decN i).length<=20) (ps:List Part) (hw:wtPs ps<=2^24) (hK:wtPs ps<=K) (hv:validP ps=true) :
  RetS Tryz.prog W0 30 [.sl (ps.map Part.enc)] [] (.tup [.sl ((lvsPs ps [] 0 []).map leafV),.i .i64 0]) []:=by
 have hva:=c_Valid W0 ps hw
 rw [hv] at hva
 have hle:=retN_nil (e:=TL) (sz:=2) (fun id=>c_leavesA W0 K hI _ ps [] [] id (Nat.lt_succ_self _) hw hK (by simp;omega) (by simp;omega))
 rw [List.nil_append] at hle
 refine fn_retW (vs:=[.sl ((lvsPs ps [] 0 []).map leafV),.i .i64 0]) f30ok (by simp) (by simp) fun n0 hn0=>?_
 clear hn0
 simp only [push_cast,seval,reduceEqDiff]
 repeat' (first|(((first|apply condU_s|apply gdU_t|apply gdU_f)<;>intro _h)<;>simp only [push_cast,seval,reduceEqDiff,_h])|(refine c_call (by exact hva) ?_;simp only [push_cast,seval,reduceEqDiff])|intro _)
 refine c_calln hle (fun i e h=>by simp [lk] at h) ?_
 rw [over_nil]
 simp only [push_cast,seval,reduceEqDiff]
 intros
 exact ⟨⟨_,[],_⟩,frz_slot (s:=2) (e:=TL) (sz:=2) (es:=(lvsPs ps [] 0 []).map leafV) rfl (by simp [lk]) (fun _ _ h=>by cases h) (fun y hy=>by obtain ⟨x,_,rfl⟩:=List.mem_map.1 hy;rfl) (Nat.le_refl _),⟨by simp [ResOk,get],by simp [ResOk,get],trivial⟩,fun _ _ h=>by cases h⟩
def nodupK:List Bytes->List Bytes->Bool
 | _,[]=>true
 | d,k::r=>!d.contains k&&nodupK (d++[k]) r
def lastOther (l:List Bytes):Bool:=match l.getLast? with
 | none=>false
 | some k=>k == kOtherS
def headS (s:Sel):Bool:=selB s.kind&&(nameB s.name&&lastOther s.keys)
def soundGo:List Sel->List Sel->Bool
 | _,[]=>true
 | d,s::r=>headS s&&(nodupK [] s.keys&&(!d.any (selIs s.kind s.name)&&soundGo (d++[s]) r))
def soundP (f:FormP):Bool:=soundGo [] f.1&&(decide ((combP 1 f.1:Int)<=400)&&((f.2.length:Int) == (combP 1 f.1:Int)))
theorem elSel (s:Sel):ElOk true 3 s.enc:=elOk_agg rfl
theorem ifSel:okFn Tryz.prog 87 19 (gIF_0 86 3 true) gIFR=true:=by kernel_rfl
theorem cfSel:okFn Tryz.prog 46 9 (gCF_0 87) gCFR=true:=by kernel_rfl
theorem anySel {l:List Sel} {g:FuncId} {first caps:List V} {σ:Sto} {p:Sel->Bool} (hl:l.length<2^62) (hg:∀x∈l,RetS Tryz.prog W0 g (first++[x.enc]++caps) σ (.b (p x)) σ) :
  RetS Tryz.prog W0 46 [.sl (l.map Sel.enc),.fn g first caps] σ (.b (l.any p)) σ:=by
 rw [<-idxI_ge]
 exact containsFunc_ret W0 cfSel _ _ _ _ (indexFunc_ret W0 ifSel Sel.enc l p g first caps σ (fun x _=>elSel x) hg hl)
theorem c_sound1 (t s:Sel) (sid:Id) (σ:Sto) (hs:lk σ sid=some (.box (.agg [.i .i64 s.kind,.s s.name,.sl (s.keys.map V.s)]))):RetS Tryz.prog W0 47 [t.enc,.ref sid 0] σ (.b (selIs s.kind s.name t)) σ:=by
 generalize hS:selIs s.kind s.name t=S
 unfold selIs at hS
 refine fn_retW (vs:=[.b S]) f47ok (by simp) (fun _ h=>h) fun n0 hn0=>?_
 have h1:∀j,((n0,j)=sid)=False:=fun j=>ne_idx (hn0 _ _ hs)
 simp only [push_cast,seval,reduceEqDiff,h1,hs]
 repeat' (first|(((first|apply condU_s|apply gdU_t|apply gdU_f)<;>intro _h)<;>simp only [push_cast,seval,reduceEqDiff,_h,h1,hs])|intro _)
 all_goals subst hS
 all_goals (refine finW_retS (by simp [get, *]) (fun i e h=>lk_fresh (hn0 i e h) h))
theorem last_cases (l:List Bytes):(l=[]/\lastOther l=false)\/∃d k,l=d++[k]/\lastOther l=(k == kOtherS):=by
 rcases List.eq_nil_or_concat l with h|⟨d,k,h⟩
 ·left;subst h;exact ⟨rfl,rfl⟩
 ·right;refine ⟨d,k,by rw [h,List.concat_eq_append],?_⟩
  subst h;rw [List.concat_eq_append];simp [lastOther]
set_option maxHeartbeats 4000000 in
theorem c_Sound (f:FormP) (h1:f.1.length<=2^26) (hk:∀s∈f.1,s.keys.length<=2^26/\s.name.length<=2^30):RetS Tryz.prog W0 12 [formV f] [] (.b (soundP f)) []:=by
 obtain ⟨L,VS⟩:=f
 simp only at h1 hk
 have hco:=c_comb W0 L (by omega) (fun s hs=>by have:=(hk s hs).1;omega)
 unfold soundP formV
 simp only
 generalize combP 1 L=CB at *
 generalize hT:(decide ((CB:Int)<=400)&&((VS.length:Int) == (CB:Int)))=T
 generalize hS:(soundGo [] L&&T)=S
 refine fn_retW (vs:=[.b S]) f12ok (by simp) (by simp) fun n0 hn0=>?_
 clear hn0
 simp only [push_cast,seval,reduceEqDiff,List.length_map]
 intros
 refine aWP_loopW L.length (Inv:=fun m st=>∃done rest n,L=done++rest/\m=rest.length/\(soundGo done rest&&T)=S/\n0<n/\st=⟨[(1,.ref (n0,1) 0),(9,.sl (L.map Sel.enc)),(10,.i .i64 L.length),(11,.i .i64 done.length)],[((n0,1),.box (.agg [.sl (L.map Sel.enc),.sl (VS.map vEnc)]))],n⟩) ⟨_,StLe.refl,[],L,_,rfl,rfl,hS,by (try simp only);omega,rfl⟩ ?_
 clear hS
 rintro m _ ⟨done,rest,n,hz,rfl,hd,hn,rfl⟩
 cases rest with
 | nil=>
  have hlt0:decide ((done.length:Int)<(L.length:Int))=false:=by rw [hz];simp
  rw [soundGo,Bool.true_and] at hd
  subst hd
  simp only [push_cast,seval,reduceEqDiff,hlt0,List.length_map]
  repeat' (first|(((first|apply condU_s|apply gdU_t|apply gdU_f)<;>intro _h)<;>simp only [push_cast,seval,reduceEqDiff,_h,hlt0,List.length_map])|(refine c_call (by exact hco) ?_;simp only [push_cast,seval,reduceEqDiff,hlt0,List.length_map])|intro _)
  all_goals (refine finW_ret ?_;simp only [<-hT];simp [get, *])
 | cons s rest=>
  have hlt0:decide ((done.length:Int)<(L.length:Int))=true:=by rw [hz];simp;omega
  have hbd:=zip_bd hz
  obtain ⟨hks,hns⟩:=hk s (by rw [hz];simp)
  have hget:(L.map Sel.enc)[done.length]? = some s.enc:=by rw [hz,List.getElem?_map,List.getElem?_append_right (by simp)];simp
  have hsel:=c_sSel W0 s.kind
  have hnm:=c_tName W0 s.name (by unfold SLim;omega)
  rw [soundGo] at hd
  unfold headS at hd
  have f1:∀k j q:Nat,((n+1+k,j)=(n0,q))=False:=fun k j q=>eq_false fun he=>by injection he with h1 h2;omega
  have f1':∀k j q:Nat,((n0,q)=(n+1+k,j))=False:=fun k j q=>eq_false fun he=>of_eq_false (f1 k j q) he.symm
  cases hs:selB s.kind with
  | false=>
   rw [hs] at hd hsel
   simp only [Bool.false_and] at hd
   subst hd
   simp only [push_cast,seval,reduceEqDiff,hlt0,hget,if_pos hbd,f1,f1',List.length_map]
   repeat' (first|(((first|apply condU_s|apply gdU_t|apply gdU_f)<;>intro _h)<;>simp only [push_cast,seval,reduceEqDiff,_h,hlt0,hget,if_pos hbd,f1,f1',List.length_map])|(refine c_call (by exact hsel) ?_;simp only [push_cast,seval,reduceEqDiff,hlt0,hget,if_pos hbd,f1,f1',List.length_map])|intro _)
   exact finW_ret (by simp [get])
  | true=>
  cases hm:nameB s.name with
  | false=>
   rw [hs] at hd hsel
   rw [hm] at hd hnm
   simp only [Bool.false_and,Bool.true_and] at hd
   subst hd
   simp only [push_cast,seval,reduceEqDiff,hlt0,hget,if_pos hbd,f1,f1',List.length_map]
   repeat' (first|(((first|apply condU_s|apply gdU_t|apply gdU_f)<;>intro _h)<;>simp only [push_cast,seval,reduceEqDiff,_h,hlt0,hget,if_pos hbd,f1,f1',List.length_map])|((first|refine c_call (by exact hsel) ?_|refine c_call (by exact hnm) ?_);simp only [push_cast,seval,reduceEqDiff,hlt0,hget,if_pos hbd,f1,f1',List.length_map])|intro _)
   exact finW_ret (by simp [get])
  | true=>
  rw [hs] at hd hsel
  rw [hm] at hd hnm
  rcases last_cases s.keys with ⟨hk0,hlo⟩|⟨kd0,kl,hk0,hlo⟩
  ·rw [hlo] at hd
   simp only [Bool.false_and,Bool.true_and] at hd
   subst hd
   simp only [push_cast,seval,reduceEqDiff,hlt0,hget,if_pos hbd,f1,f1',List.length_map,hk0,List.map_nil,List.length_nil]
   repeat' (first|(((first|apply condU_s|apply gdU_t|apply gdU_f)<;>intro _h)<;>simp only [push_cast,seval,reduceEqDiff,_h,hlt0,hget,if_pos hbd,f1,f1',List.length_map,hk0,List.map_nil,List.length_nil])|((first|refine c_call (by exact hsel) ?_|refine c_call (by exact hnm) ?_);simp only [push_cast,seval,reduceEqDiff,hlt0,hget,if_pos hbd,f1,f1',List.length_map,hk0,List.map_nil,List.length_nil])|intro _)
   exact finW_ret (by simp [get])
  ·have hkl:s.keys.length=kd0.length+1:=by rw [hk0];simp
   have hne:((s.keys.length:Int) == 0)=false:=by rw [hkl];simp;omega
   have hw1:IntKind.i64.wrap ((s.keys.length:Int)-1)=(kd0.length:Int):=by rw [wrap64 (by omega) (by omega)];omega
   have hgl:(s.keys.map V.s)[kd0.length]? = some (.s kl):=by rw [hk0,List.getElem?_map];simp
   have hltk:kd0.length<s.keys.length:=by omega
   cases hlk:(kl == kOtherS) with
   | false=>
    have hbk:(kl == [111,116,104,101,114])=false:=hlk
    rw [hlo,hlk] at hd
    simp only [Bool.false_and,Bool.true_and] at hd
    subst hd
    simp only [push_cast,seval,reduceEqDiff,hlt0,hget,if_pos hbd,f1,f1',List.length_map,hne,hw1,hgl,if_pos hltk,hbk]
    repeat' (first|(((first|apply condU_s|apply gdU_t|apply gdU_f)<;>intro _h)<;>simp only [push_cast,seval,reduceEqDiff,_h,hlt0,hget,if_pos hbd,f1,f1',List.length_map,hne,hw1,hgl,if_pos hltk,hbk])|((first|refine c_call (by exact hsel) ?_|refine c_call (by exact hnm) ?_);simp only [push_cast,seval,reduceEqDiff,hlt0,hget,if_pos hbd,f1,f1',List.length_map,hne,hw1,hgl,if_pos hltk,hbk])|intro _)
    exact finW_ret (by simp [get])
   | true=>
    have hbk:(kl == [111,116,104,101,114])=true:=hlk
    rw [hlo,hlk] at hd
    simp only [Bool.true_and] at hd
    simp only [push_cast,seval,reduceEqDiff,hlt0,hget,if_pos hbd,f1,f1',List.length_map,hne,hw1,hgl,if_pos hltk,hbk]
    repeat' (first|(((first|apply condU_s|apply gdU_t|apply gdU_f)<;>intro _h)<;>simp only [push_cast,seval,reduceEqDiff,_h,hlt0,hget,if_pos hbd,f1,f1',List.length_map,hne,hw1,hgl,if_pos hltk,hbk])|((first|refine c_call (by exact hsel) ?_|refine c_call (by exact hnm) ?_);simp only [push_cast,seval,reduceEqDiff,hlt0,hget,if_pos hbd,f1,f1',List.length_map,hne,hw1,hgl,if_pos hltk,hbk])|intro _)
    rename_i b1 b2 b3 b4
    have hx:n<n+1+b1/\n+1+b1<n+1+b1+1+b2+1+b3+1+b4:=by omega
    generalize n+1+b1+1+b2+1+b3+1+b4=n2 at *
    generalize n+1+b1=x0 at *
    obtain ⟨hx1,hx2⟩:=hx
    have g1:∀j q:Nat,((x0,j)=(n0,q))=False:=fun j q=>eq_false fun he=>by injection he with h1 h2;omega
    have g1':∀j q:Nat,((n0,q)=(x0,j))=False:=fun j q=>eq_false fun he=>of_eq_false (g1 j q) he.symm
    clear hk0 hlo hkl hne hw1 hgl hltk hbk hlk hsel hnm f1 f1'
    refine aWP_loopW s.keys.length (Inv:=fun m st=>∃kd kr n,s.keys=kd++kr/\m=kr.length/\(nodupK kd kr&&(!done.any (selIs s.kind s.name)&&soundGo (done++[s]) rest)&&T)=S/\x0<n/\st=⟨[(1,.ref (n0,1) 0),(3,.i .i64 done.length),(4,.ref (x0,4) 0),(9,.sl (L.map Sel.enc)),(10,.i .i64 L.length),(11,.i .i64 done.length),(44,.sl (s.keys.map V.s)),(45,.i .i64 s.keys.length),(46,.i .i64 kd.length)],[((x0,4),.box (.agg [.i .i64 s.kind,.s s.name,.sl (s.keys.map V.s)])),((n0,1),.box (.agg [.sl (L.map Sel.enc),.sl (VS.map vEnc)]))],n⟩) ⟨_,StLe.refl,[],s.keys,_,rfl,rfl,hd,hx2,rfl⟩ ?_
    clear hd
    rintro m _ ⟨kd,kr,n3,hkz,rfl,hd,hn3,rfl⟩
    cases kr with
    | nil=>
     have hlt1:decide ((kd.length:Int)<(s.keys.length:Int))=false:=by rw [hkz];simp
     rw [nodupK,Bool.true_and] at hd
     have han:=anySel W0 (l:=done) (p:=selIs s.kind s.name) (σ:=[((x0,4),.box (.agg [.i .i64 s.kind,.s s.name,.sl (s.keys.map V.s)]))]) (first:=[]) (caps:=[.ref (x0,4) 0]) (by omega) (fun t _=>c_sound1 W0 t s (x0,4) _ (by simp [lk]))
     have htk:(if 0<=done.length/\done.length<=L.length then some (V.sl (List.take done.length (L.map Sel.enc))) else none)=some (V.sl (done.map Sel.enc)):=by
      rw [if_pos ⟨Nat.zero_le _,by omega⟩,hz];simp
     have hcel:∀y∈L.map Sel.enc,(cells y).length=3:=fun y hy=>by obtain ⟨x,_,rfl⟩:=List.mem_map.1 hy;rfl
     generalize hAN:done.any (selIs s.kind s.name)=AN at *
     cases AN with
     | true=>
      simp only [bq,if_true,if_false,Int.reduceBEq,reduceCtorEq] at hd
      subst hd
      simp only [push_cast,seval,reduceEqDiff,hlt1,List.length_map,g1,g1',htk,eq_true hcel]
      intros
      refine c_callr han (fun i e h=>lk_app_left (τ:=[_]) h) ?_
      simp only [push_cast,seval,reduceEqDiff,hlt1,List.length_map,g1,g1',htk,eq_true hcel]
      intros
      exact finW_ret (by simp [get])
     | false=>
      simp only [bq,if_true,if_false,Int.reduceBEq,reduceCtorEq] at hd
      simp only [push_cast,seval,reduceEqDiff,hlt1,List.length_map,g1,g1',htk,eq_true hcel,wrap_zip s (done:=done) (by omega)]
      intros
      refine c_callr han (fun i e h=>lk_app_left (τ:=[_]) h) ?_
      simp only [push_cast,seval,reduceEqDiff,hlt1,List.length_map,g1,g1',htk,eq_true hcel,wrap_zip s (done:=done) (by omega)]
      intros
      exact ⟨_,_,Nat.lt_succ_self _,StLe.drop1 (by simp [lk,g1']) (Nat.le_refl _),done++[s],rest,_,by rw [hz];simp,rfl,hd,by omega,rfl⟩
    | cons key kr=>
     have hlt1:decide ((kd.length:Int)<(s.keys.length:Int))=true:=by rw [hkz];simp;omega
     have hkb:=zip_bd hkz
     rw [nodupK] at hd
     have hgk:(s.keys.map V.s)[kd.length]? = some (.s key):=by rw [hkz,List.getElem?_map,List.getElem?_append_right (by simp)];simp
     have htk:(if 0<=kd.length/\kd.length<=s.keys.length then some (V.sl (List.take kd.length (s.keys.map V.s))) else none)=some (V.sl (kd.map V.s)):=by
      rw [if_pos ⟨Nat.zero_le _,by omega⟩,hkz];simp
     have hcel:∀y∈s.keys.map V.s,(cells y).length=1:=fun y hy=>by obtain ⟨x,_,rfl⟩:=List.mem_map.1 hy;rfl
     have hin:=c_containsS W0 kd key (by omega)
     cases hc:kd.contains key with
     | true=>
      rw [hc] at hd hin
      simp only [bq,if_true,if_false,Int.reduceBEq,reduceCtorEq] at hd
      subst hd
      simp only [push_cast,seval,reduceEqDiff,hlt1,List.length_map,g1,g1',htk,hgk,if_pos hkb,eq_true hcel]
      repeat' (first|(((first|apply condU_s|apply gdU_t|apply gdU_f)<;>intro _h)<;>simp only [push_cast,seval,reduceEqDiff,_h,hlt1,List.length_map,g1,g1',htk,hgk,if_pos hkb,eq_true hcel])|(refine c_call (by exact hin) ?_;simp only [push_cast,seval,reduceEqDiff,hlt1,List.length_map,g1,g1',htk,hgk,if_pos hkb,eq_true hcel])|intro _)
      exact finW_ret (by simp [get])
     | false=>
      rw [hc] at hd hin
      simp only [bq,if_true,if_false,Int.reduceBEq,reduceCtorEq] at hd
      simp only [push_cast,seval,reduceEqDiff,hlt1,List.length_map,g1,g1',htk,hgk,if_pos hkb,eq_true hcel,wrap_zip key (done:=kd) (by omega)]
      repeat' (first|(((first|apply condU_s|apply gdU_t|apply gdU_f)<;>intro _h)<;>simp only [push_cast,seval,reduceEqDiff,_h,hlt1,List.length_map,g1,g1',htk,hgk,if_pos hkb,eq_true hcel,wrap_zip key (done:=kd) (by omega)])|(refine c_call (by exact hin) ?_;simp only [push_cast,seval,reduceEqDiff,hlt1,List.length_map,g1,g1',htk,hgk,if_pos hkb,eq_true hcel,wrap_zip key (done:=kd) (by omega)])|intro _)
      exact ⟨_,_,Nat.lt_succ_self _,StLe.refl,kd++[key],kr,_,by rw [hkz];simp,rfl,hd,by omega,rfl⟩
theorem retS_weak {P:Program} {W0:World} {f:FuncId} {args args':List V} {σ σ':Sto} {v:V} (h:RetS P W0 f args' σ v σ') (hl:args.length=args'.length)
  (ha:∀(k:Nat) (a a':V),args[k]? = some a->args'[k]? = some a'->VLe (fun _=>none) a a'):RetS P W0 f args σ v σ' where
 callable:=h.callable
 dom:=h.dom
 run:=fun n w μ H vals hp hv=>h.run n w μ H vals hp ⟨by rw [<-hl];exact hv.len,fun k c x hc hx=>by
  have hk:k<args.length:=by rw [hl];exact (List.getElem?_eq_some_iff.1 hc).1
  have hg:args[k]? = some args[k]:=List.getElem?_eq_getElem hk
  exact VRel.le (fun _ _ h=>h) (fun _ _ h=>by cases h) (ha k _ _ hg hc) (hv.at_ k _ x hg hx)⟩
def VLs (φ:Id->Option (List V)):List V->List V->Prop
 | [],[]=>True
 | a::xs,b::ys=>(VLe φ a b/\(cells b).length=(cells a).length/\a.ok=true/\b.ok=true)/\VLs φ xs ys
 | _,_=>False
theorem VLs.at_ {φ:Id->Option (List V)}:∀{xs ys:List V},VLs φ xs ys->xs.length=ys.length/\∀(k:Nat) (c c':V),xs[k]? = some c->ys[k]? = some c'->VLe φ c c'/\(cells c').length=(cells c).length/\c.ok=true/\c'.ok=true
 | [],[],_=>⟨rfl,fun k c c' h=>by simp at h⟩
 | a::xs,b::ys,h=>by
  obtain ⟨h1,h2⟩:=h
  obtain ⟨h3,h4⟩:=VLs.at_ h2
  refine ⟨by simp [h3],fun k c c' hc hc'=>?_⟩
  cases k with
  | zero=>simp at hc hc';subst hc hc';exact h1
  | succ k=>exact h4 k c c' (by simpa using hc) (by simpa using hc')
theorem vle_slL {φ:Id->Option (List V)} {xs ys:List V} (h:VLs φ xs ys):VLe φ (.sl xs) (.sl ys):=.sl _ _ h.at_.1 (fun k c c' h1 h2=>(h.at_.2 k c c' h1 h2).1) (fun k c c' h1 h2=>(h.at_.2 k c c' h1 h2).2)
theorem vle_agL {φ:Id->Option (List V)} {xs ys:List V} (h:VLs φ xs ys):VLe φ (.agg xs) (.agg ys):=.agg _ _ h.at_.1 (fun k c c' h1 h2=>(h.at_.2 k c c' h1 h2).1)
def tA:Part:=⟨1,[97],[],[],[],[]⟩
def tX:Part:=⟨1,[120],[],[],[],[]⟩
def tC:Part:=⟨10,[],[],[],[],[]⟩
def awakeP:List Part:=[tA,⟨7,[],[110],[],[([111,110,101],[tX]),([111,116,104,101,114],[tC])],[]⟩]
def litT (k:Int) (t:Bytes):V:=.agg [.i .i64 k,.s t,.s [],.s [],.nil,.nil]
def awakeV:V:=.sl [litT 1 [97],.agg [.i .i64 7,.s [],.s [110],.s [],.sl [.agg [.s [111,110,101],.sl [litT 1 [120]]],.agg [.s [111,116,104,101,114],.sl [litT 10 []]]],.nil]]
theorem vle_lit (φ:Id->Option (List V)) (k:Int) (t:Bytes):VLe φ (litT k t) (Part.enc ⟨k,t,[],[],[],[]⟩):=by
 rw [Part.enc_eq]
 exact vle_agL ⟨⟨.refl _,rfl,rfl,rfl⟩,⟨.refl _,rfl,rfl,rfl⟩,⟨.refl _,rfl,rfl,rfl⟩,⟨.refl _,rfl,rfl,rfl⟩,⟨.nil,rfl,rfl,rfl⟩,⟨.nil,rfl,rfl,rfl⟩,trivial⟩
theorem vle_awake (φ:Id->Option (List V)):VLe φ awakeV (.sl (awakeP.map Part.enc)):=by
 have l1:∀k t,VLe φ (.sl [litT k t]) (.sl [Part.enc ⟨k,t,[],[],[],[]⟩]):=fun k t=>vle_slL ⟨⟨vle_lit φ k t,rfl,rfl,rfl⟩,trivial⟩
 refine vle_slL ⟨⟨vle_lit φ 1 [97],rfl,rfl,rfl⟩,⟨?_,rfl,rfl,rfl⟩,trivial⟩
 rw [Part.enc_eq]
 refine vle_agL ⟨⟨.refl _,rfl,rfl,rfl⟩,⟨.refl _,rfl,rfl,rfl⟩,⟨.refl _,rfl,rfl,rfl⟩,⟨.refl _,rfl,rfl,rfl⟩,⟨?_,rfl,rfl,rfl⟩,⟨.nil,rfl,rfl,rfl⟩,trivial⟩
 exact vle_slL ⟨⟨vle_agL ⟨⟨.refl _,rfl,rfl,rfl⟩,⟨l1 1 [120],rfl,rfl,rfl⟩,trivial⟩,rfl,rfl,rfl⟩,⟨vle_agL ⟨⟨.refl _,rfl,rfl,rfl⟩,⟨l1 10 [],rfl,rfl,rfl⟩,trivial⟩,rfl,rfl,rfl⟩,trivial⟩
theorem dec01:decN 0=[48]/\decN 1=[49]:=by constructor<;>(unfold decN Lib.decDigits;rfl)
def tP:Part:=⟨7,[],[110],[],[([111,110,101],[tX]),([111,116,104,101,114],[tC])],[]⟩
theorem awake_lvs:lvsPs awakeP [] 0 []=[([48],[tA]),([49,47,111,110,101,47,48],[tX]),([49,47,111,116,104,101,114,47,48],[tC]),([49],[])]:=by
 have s1:tA.solid=true:=rfl
 have s2:tP.solid=false:=rfl
 have s3:tX.solid=true:=rfl
 have s4:tC.solid=true:=rfl
 have l2:∀pa,tP.lvs pa=lvsCs [([111,110,101],[tX]),([111,116,104,101,114],[tC])] pa:=fun pa=>by rw [Part.lvs_eq];rfl
 show lvsPs [tA,tP] [] 0 []=_
 simp only [lvsPs_cons,s1,s2,s3,s4,if_true,if_false,Bool.false_eq_true,lvsPs_nil,l2,lvsCs_cons,lvsCs,Nat.zero_add,dec01.1,dec01.2]
 rfl
def loc0:Loc:=⟨[],[],[],[],[],[.s [],.s [],.s [],.s [],.i .i64 0,.i .i64 0,.nil,.nil,.nil,.nil,.nil]⟩
theorem awake_valid:validP awakeP=true:=by decide
theorem awake_flat:flatP loc0 awakeP=(([⟨7,[110],[[111,110,101],[111,116,104,101,114]]⟩],[[⟨1,[97,120],[],[],[],[]⟩],[tA,⟨3,[],[110],[],[],[]⟩]]),0):=by rfl
theorem c_FlatG (l:Loc) (ps:List Part) (hrl:l.rest.length=11) (hb:wtRules l.card+wtRules l.ord<=2^24) (hw:wtPs ps<=2^20) :
  RetS Tryz.prog W0 11 [l.enc,.sl (ps.map Part.enc)] [] (.tup [formV (flatP l ps).1,.i .i64 (flatP l ps).2]) []:=
 c_Flat W0 l ps rfl hrl hb (by omega) (by have:=sels_len ps;omega) (fun s hs=>by have:=sels_keys ps s hs;exact ⟨this.1,by omega⟩) (fun s hs k hk=>by have:=sels_klen ps s hs k hk;omega)
  (fun hv=>valid_ok (valid_wf (by rw [<-valid_same];exact hv)))
theorem c_awake:RetS Tryz.prog W0 8 [] [] (.b true) []:=by
 have hI:∀i:Nat,i<=99->RetS Tryz.prog W0 114 [.i .i64 i] [] (.s (decN i)) []/\(decN i).length<=20:=fun i hi=>by
  refine ⟨c_itoa W0 i (by omega),?_⟩
  unfold decN Lib.decDigits
  split
  ·simp
  ·unfold Lib.decDigits
   rw [dif_pos (by omega)]
   simp
 have hwt:wtPs awakeP<=99:=by decide
 have hlv:=c_Leaves W0 99 hI awakeP (by omega) (by omega) awake_valid
 rw [awake_lvs] at hlv
 have hlv2:RetS Tryz.prog W0 30 [awakeV] [] _ []:=retS_weak hlv rfl (fun k a a' h1 h2=>by
  match k with
  | 0=>simp at h1 h2;subst h1 h2;exact vle_awake _
  | k+1=>simp at h1)
 have hfl:=c_FlatG W0 loc0 awakeP rfl (by decide) (by omega)
 rw [awake_flat] at hfl
 have hfl2:RetS Tryz.prog W0 11 [.agg [.s [],.s [],.s [],.nil,.nil,.s [],.s [],.s [],.s [],.i .i64 0,.i .i64 0,.nil,.nil,.nil,.nil,.nil],awakeV] [] _ []:=retS_weak hfl rfl (fun k a a' h1 h2=>by
  match k with
  | 0=>
   simp only [List.getElem?_cons_zero,Option.some.injEq] at h1 h2;subst h1 h2
   exact vle_agL ⟨⟨.refl _,rfl,rfl,rfl⟩,⟨.refl _,rfl,rfl,rfl⟩,⟨.refl _,rfl,rfl,rfl⟩,⟨.nil,rfl,rfl,rfl⟩,⟨.nil,rfl,rfl,rfl⟩,⟨.refl _,rfl,rfl,rfl⟩,⟨.refl _,rfl,rfl,rfl⟩,⟨.refl _,rfl,rfl,rfl⟩,⟨.refl _,rfl,rfl,rfl⟩,⟨.refl _,rfl,rfl,rfl⟩,⟨.refl _,rfl,rfl,rfl⟩,⟨.refl _,rfl,rfl,rfl⟩,⟨.refl _,rfl,rfl,rfl⟩,⟨.refl _,rfl,rfl,rfl⟩,⟨.refl _,rfl,rfl,rfl⟩,⟨.refl _,rfl,rfl,rfl⟩,trivial⟩
  | 1=>simp only [List.getElem?_cons_zero,List.getElem?_cons_succ,Option.some.injEq] at h1 h2;subst h1 h2;exact vle_awake _
  | k+2=>simp at h1)
 have hso:=c_Sound W0 ([⟨7,[110],[[111,110,101],[111,116,104,101,114]]⟩],[[⟨1,[97,120],[],[],[],[]⟩],[tA,⟨3,[],[110],[],[],[]⟩]]) (by decide) (fun s hs=>by simp at hs;subst hs;decide)
 rw [show soundP ([⟨7,[110],[[111,110,101],[111,116,104,101,114]]⟩],[[⟨1,[97,120],[],[],[],[]⟩],[tA,⟨3,[],[110],[],[],[]⟩]])=true from rfl] at hso
 have hpl:=c_plain W0 _ [tA,⟨3,[],[110],[],[],[]⟩] (Nat.lt_succ_self _) (by decide)
 rw [show plainPs [tA,⟨3,[],[110],[],[],[]⟩]=true from rfl] at hpl
 have heq:=c_rEqual W0 _ [⟨1,[97,120],[],[],[],[]⟩] [⟨1,[97,120],[],[],[],[]⟩] (Nat.lt_succ_self _) (by decide)
 rw [eqPs_refl] at heq
 have heq2:RetS Tryz.prog W0 28 [.sl ([(⟨1,[97,120],[],[],[],[]⟩:Part)].map Part.enc),.sl [litT 1 [97,120]]] [] _ []:=retS_weak heq rfl (fun k a a' h1 h2=>by
  match k with
  | 0=>simp only [List.getElem?_cons_zero,Option.some.injEq] at h1 h2;subst h1 h2;exact .refl _
  | 1=>simp only [List.getElem?_cons_zero,List.getElem?_cons_succ,Option.some.injEq] at h1 h2;subst h1 h2;exact vle_slL ⟨⟨vle_lit _ _ _,rfl,rfl,rfl⟩,trivial⟩
  | k+2=>simp at h1)
 unfold formV at hfl2 hso
 simp only [List.map_cons,List.map_nil] at hlv2 hfl2 hso hpl heq2
 simp only [vEnc,List.map_cons,List.map_nil] at hfl2 hso
 generalize [Part.enc ⟨1,[97,120],[],[],[],[]⟩]=V0 at *
 generalize [tA.enc,Part.enc ⟨3,[],[110],[],[],[]⟩]=V1 at *
 generalize V.sl [Sel.enc ⟨7,[110],[[111,110,101],[111,116,104,101,114]]⟩]=SL at *
 rw [leafV_eq ([49,47,111,110,101,47,48],[tX])] at hlv2
 generalize leafV ([48],[tA])=L0 at *
 generalize leafV ([49,47,111,116,104,101,114,47,48],[tC])=L2 at *
 generalize leafV ([49],[])=L3 at *
 generalize V.sl (List.map Part.enc [tX])=LX at *
 unfold awakeV litT at hlv2 hfl2
 unfold litT at heq2
 clear hlv hfl heq hI hwt
 refine fn_retW (vs:=[.b true]) f8ok (by simp) (by simp) fun n0 hn0=>?_
 clear hn0
 simp only [push_cast,seval,reduceEqDiff,show (([49,47,111,110,101,47,48]:Bytes) == [49,47,111,110,101,47,48])=true from rfl]
 repeat' (first|(((first|apply condU_s|apply gdU_t|apply gdU_f)<;>intro _h)<;>simp only [push_cast,seval,reduceEqDiff,_h,show (([49,47,111,110,101,47,48]:Bytes) == [49,47,111,110,101,47,48])=true from rfl])|((first|refine c_call (by exact hlv2) ?_|refine c_call (by exact hfl2) ?_|refine c_call (by exact heq2) ?_|refine c_call (by exact hso) ?_|refine c_call (by exact hpl) ?_);simp only [push_cast,seval,reduceEqDiff,show (([49,47,111,110,101,47,48]:Bytes) == [49,47,111,110,101,47,48])=true from rfl])|intro _)
 all_goals (first|(refine finW_ret ?_;simp [get]<;>(intros;omega);done)|(refine finW_rets ?_;simp [push_cast,get];done)|skip)
end Go.Ir
namespace Go.Ir
open Go.Proofs
variable {P : Program} {W0 : World} {nt n : Nat} {Q : Exit → St → Prop} {env : Env} {σ : Sto}
def f99_2:IC:=.seq (.ops [o1 4 (.faddr (.t 2) 0),o1 5 (.load (.t 4) 1 false),o1 6 (.load (.t 1) 1 false),o1 7 (.bin .eql (.t 5) (.t 6)),m1 3 7] [3] []) .ret
def f99_0:IC:=.seq (.ops [o1 2 (.box (.t 0)),o1 3 (.mv (.c (.b false)))] [1,2] []) f99_2
@[push_cast]def f99R:List R:=[.t 3]
@[push_cast]def f99e:=aWv f99_2.eq_1<|aWu f99_0.eq_1
theorem f99ok:okFn Tryz.prog 99 8 f99_0 f99R=true:=by kernel_rfl
def f58_8:IC:=.seq (.ops [o1 13 (.build [(.s []),(.i .i64 0),(.s []),(.i .i64 0),.nil] []),o0 (.store (.t 4) (.t 13) 5),o1 5 (.mv (.c (.b false)))] [4,5] []) .ret
def f58_14:IC:=.seq (.ops [o1 22 (.load (.t 7) 5 true),o0 (.store (.t 4) (.t 22) 5),o1 5 (.mv (.c (.b true)))] [4,5] []) .ret
def f58_12:IC:=.seq (.ops [o1 18 (.faddr (.t 7) 4),o1 19 (.load (.t 18) 1 false),o1 20 (.call 100 [.t 19]),o1 21 (.faddr (.t 7) 4),o0 (.store (.t 21) (.t 20) 1)] [4,7] []) f58_14
def f58_10:IC:=.seq (.ops [m1 14 0,m1 15 6,o1 16 (.iaddr (.t 14) (.t 15) 102 5),o1 17 (.load (.t 16) 5 true),o1 7 (.alloc (.agg [(.s []),(.i .i64 0),(.s []),(.i .i64 0),.nil])),o0 (.store (.t 7) (.t 17) 5)] [4,7] []) f58_12
def f58_4:IC:=.seq (.seq (.ops [m1 11 6,o1 12 (.bin .lss (.t 11) (ci 0))] [0,4,6,12] []) (.cond (.t 12) f58_8 .skip)) f58_10
def f58_2:IC:=.seq (.ops [m1 8 0,o1 9 (.mkfn 99 [] [.t 3]),o1 10 (.calls 98 [.t 8,.t 9]),m1 6 10] [0,4,6] []) f58_4
def f58_0:IC:=.seq (.ops [o1 3 (.box (.t 1)),o1 4 (.alloc (.agg [(.s []),(.i .i64 0),(.s []),(.i .i64 0),.nil])),o1 5 (.mv (.c (.b false)))] [0,3,4] []) f58_2
@[push_cast]def f58R:List R:=[.c 4 5 true,.t 5]
@[push_cast]def f58e:=aWv f58_8.eq_1<|aWv f58_14.eq_1<|aWv f58_12.eq_1<|aWv f58_10.eq_1<|aWv f58_4.eq_1<|aWv f58_2.eq_1<|aWu f58_0.eq_1
theorem f58ok:okFn Tryz.prog 58 23 f58_0 f58R=true:=by kernel_rfl
def f59_9:IC:=.seq (.ops [o1 7 (.faddr (.t 1) 3),o1 8 (.load (.t 7) 1 false),o1 9 (.bin .eql (.t 8) (ci 0)),m1 10 9,⟨some 11,.faddr (.t 1) 4,some (10,true),[]⟩,⟨some 12,.load (.t 11) 1 false,some (10,true),[]⟩,⟨some 13,.lenL (.t 12),some (10,true),[]⟩,⟨some 14,.bin .eql (.t 13) (ci 0),some (10,true),[]⟩,o1 15 (.pick (.t 10) (.t 14) (.c (.b false))),m1 2 15] [2] []) .ret
def f59_14:IC:=.seq (.ops [o1 18 (.faddr (.t 1) 2),o1 19 (.load (.t 18) 1 false),o1 20 (.call 101 [.t 19]),m1 21 20,⟨some 22,.faddr (.t 1) 3,some (21,true),[]⟩,⟨some 23,.load (.t 22) 1 false,some (21,true),[]⟩,⟨some 24,.bin .eql (.t 23) (ci 0),some (21,true),[]⟩,o1 25 (.pick (.t 21) (.t 24) (.c (.b false))),m1 26 25,⟨some 27,.faddr (.t 1) 4,some (26,true),[]⟩,⟨some 28,.load (.t 27) 1 false,some (26,true),[]⟩,⟨some 29,.lenL (.t 28),some (26,true),[]⟩,⟨some 30,.bin .eql (.t 29) (ci 0),some (26,true),[]⟩,o1 31 (.pick (.t 26) (.t 30) (.c (.b false))),m1 2 31] [2] []) .ret
def f59_19:IC:=.seq (.ops [o1 34 (.faddr (.t 1) 2),o1 35 (.load (.t 34) 1 false),o1 36 (.bin .eql (.t 35) (.c (.s []))),m1 37 36,⟨some 38,.faddr (.t 1) 4,some (37,true),[]⟩,⟨some 39,.load (.t 38) 1 false,some (37,true),[]⟩,⟨some 40,.lenL (.t 39),some (37,true),[]⟩,⟨some 41,.bin .eql (.t 40) (ci 0),some (37,true),[]⟩,o1 42 (.pick (.t 37) (.t 41) (.c (.b false))),m1 2 42] [2] []) .ret
def f59_24:IC:=.seq (.ops [o1 45 (.faddr (.t 1) 2),o1 46 (.load (.t 45) 1 false),o1 47 (.bin .eql (.t 46) (.c (.s []))),m1 48 47,⟨some 49,.faddr (.t 1) 3,some (48,true),[]⟩,⟨some 50,.load (.t 49) 1 false,some (48,true),[]⟩,⟨some 51,.bin .eql (.t 50) (ci 0),some (48,true),[]⟩,o1 52 (.pick (.t 48) (.t 51) (.c (.b false))),m1 2 52] [2] []) .ret
def f59_21:IC:=.seq (.ops [o1 44 (.bin .eql (.t 4) (ci 4)),m1 43 44] [1,43] []) (.cond (.t 43) f59_24 .skip)
def f59_16:IC:=.seq (.ops [o1 33 (.bin .eql (.t 4) (ci 3)),m1 32 33] [1,4,32] []) (.cond (.t 32) f59_19 f59_21)
def f59_11:IC:=.seq (.ops [o1 17 (.bin .eql (.t 4) (ci 2)),m1 16 17] [1,4,16] []) (.cond (.t 16) f59_14 f59_16)
def f59_5:IC:=.block 0 (.seq (.ops [o1 6 (.bin .eql (.t 4) (ci 1)),m1 5 6] [1,4,5] []) (.cond (.t 5) f59_9 f59_11))
def f59_2:IC:=.seq (.seq (.ops [o1 3 (.faddr (.t 1) 1),o1 4 (.load (.t 3) 1 false)] [1,4] []) f59_5) (.seq (.ops [o1 2 (.mv (.c (.b false)))] [2] []) .ret)
def f59_0:IC:=.seq (.ops [o1 1 (.box (.t 0)),o1 2 (.mv (.c (.b false)))] [1] []) f59_2
@[push_cast]def f59R:List R:=[.t 2]
@[push_cast]def f59e:=aWv f59_9.eq_1<|aWv f59_14.eq_1<|aWv f59_19.eq_1<|aWv f59_24.eq_1<|aWv f59_21.eq_1<|aWv f59_16.eq_1<|aWv f59_11.eq_1<|aWv f59_5.eq_1<|aWv f59_2.eq_1<|aWu f59_0.eq_1
theorem f59ok:okFn Tryz.prog 59 53 f59_0 f59R=true:=by kernel_rfl
def f60_10:IC:=.ops [o1 29 (.faddr (.t 5) 2),o1 30 (.load (.t 29) 1 false),o1 31 (.bin .add (.c (.s [61])) (.t 30)),m1 32 8,o1 33 (.msl false 9 1 [.t 31,.t 32]),m1 7 33] [4,7] []
def f60_8:IC:=.seq (.ops [o1 20 (.load (.t 3) 16 true),o1 21 (.faddr (.t 4) 0),o1 22 (.load (.t 21) 1 false),o1 23 (.call 103 [.t 20,.t 22]),o1 24 (.faddr (.t 5) 2),o1 25 (.load (.t 24) 1 false),o1 26 (.call 102 [.t 23,.t 25]),m1 19 26,o1 27 (.ext (.t 19) 0),o1 28 (.ext (.t 19) 1),m1 8 27,m1 9 28] [4,5,8] [[1,2],[0,3],[2,3],[4,5],[3,6],[5,6],[6,7],[7,8],[7,9],[8,10],[9,11]]) f60_10
def f60_26:IC:=.seq (.ops [m1 44 12,o1 45 (.bin .geq (.t 44) (ci 0))] [4,12,34,35,36,45] []) (.cond (.t 45) (.seq (.ops [m1 46 12,m1 6 46] [6] []) .ret) .skip)
def f60_24:IC:=.seq (.ops [o1 40 (.faddr (.t 4) 2),o1 41 (.load (.t 40) 1 false),m1 42 11,o1 43 (.call 92 [.t 41,.t 42]),m1 12 43] [4,12,34,35,36] []) f60_26
def f60_20:IC:=.seq (.block 1 (.seq (.ops [o1 38 (.iaddr (.t 34) (.t 36) 9 1),o1 39 (.load (.t 38) 1 false),m1 11 39] [4,11,34,35,36] []) f60_24)) (.ops [o1 47 (.bin .add (.t 36) (ci 1)),m1 36 47] [4,34,35,36] [])
def f60_16:IC:=.seq (.ops [o1 37 (.bin .lss (.t 36) (.t 35))] [4,34,35,36,37] []) (.seq (.cond (.t 37) .skip (.exit 0)) f60_20)
def f60_32:IC:=.seq (.ops [o1 48 (.faddr (.t 4) 2),o1 49 (.load (.t 48) 1 false),o1 50 (.lenL (.t 49)),o1 51 (.bin .sub (.t 50) (ci 1)),m1 6 51] [6] []) .ret
def f60_11:IC:=.seq (.seq (.ops [m1 34 7,o1 35 (.lenL (.t 34)),o1 36 (.mv (ci 0))] [4,34,35,36] []) (.block 0 (.loop f60_16))) f60_32
def f60_4:IC:=.seq (.seq (.ops [o1 16 (.faddr (.t 4) 0),o1 17 (.load (.t 16) 1 false),o1 18 (.bin .neq (.t 17) (ci 9))] [3,4,5,7,18] []) (.cond (.t 18) f60_8 .skip)) f60_11
def f60_2:IC:=.seq (.ops [o1 13 (.faddr (.t 5) 2),o1 14 (.load (.t 13) 1 false),o1 15 (.msl false 9 1 [.t 14]),m1 7 15] [3,4,5,7] []) f60_4
def f60_0:IC:=.seq (.ops [o1 3 (.box (.t 0)),o1 4 (.box (.t 1)),o1 5 (.box (.t 2)),o1 6 (.mv (ci 0))] [3,4,5] []) f60_2
@[push_cast]def f60R:List R:=[.t 6]
@[push_cast]def f60e:=aWv f60_10.eq_1<|aWv f60_8.eq_1<|aWv f60_26.eq_1<|aWv f60_24.eq_1<|aWv f60_20.eq_1<|aWv f60_16.eq_1<|aWv f60_32.eq_1<|aWv f60_11.eq_1<|aWv f60_4.eq_1<|aWv f60_2.eq_1<|aWu f60_0.eq_1
theorem f60ok:okFn Tryz.prog 60 52 f60_0 f60R=true:=by kernel_rfl
def f20_45:IC:=.seq (.ops [o1 48 (.load (.t 11) 5 true),o1 49 (.call 59 [.t 48]),o1 50 (.not (.t 49)),m1 51 50,⟨some 52,.faddr (.t 11) 1,some (51,false),[]⟩,⟨some 53,.load (.t 52) 1 false,some (51,false),[]⟩,⟨some 54,.mv (.t 13),some (51,false),[]⟩,⟨some 55,.bin .neq (.t 53) (.t 54),some (51,false),[]⟩,o1 56 (.pick (.t 51) (.c (.b true)) (.t 55)),m1 47 56] [2,3,8,10,11,28,29,30,47] []) (.cond (.t 47) (.seq (.ops [o1 6 (.mv (ci 0)),o1 7 (.mv (ci 11))] [6,7] []) .ret) .skip)
def f20_50:IC:=.ops [m1 57 8,o1 58 (.faddr (.t 10) 2),o1 59 (.load (.t 58) 1 false),o1 60 (.lenL (.t 59)),o1 61 (.bin .mul (.t 57) (.t 60)),o1 62 (.load (.t 3) 16 true),o1 63 (.load (.t 10) 3 true),o1 64 (.load (.t 11) 5 true),o1 65 (.call 60 [.t 62,.t 63,.t 64]),o1 66 (.bin .add (.t 61) (.t 65)),m1 8 66] [2,3,8,28,29,30] [[1,2],[2,3],[0,4],[3,4],[5,8],[6,8],[7,8],[4,9],[8,9],[0,10],[9,10]]
def f20_38:IC:=.seq (.block 2 (.seq (.ops [m1 45 12,o1 46 (.not (.t 45)),m1 44 46] [2,3,8,10,11,13,28,29,30,44] []) (.cond (.t 44) (.seq (.ops [o1 6 (.mv (ci 0)),o1 7 (.mv (ci 12))] [6,7] []) .ret) f20_45))) f20_50
def f20_33:IC:=.seq (.seq (.ops [o1 41 (.faddr (.t 10) 0),o1 42 (.load (.t 41) 1 false),o1 43 (.bin .eql (.t 42) (ci 9))] [2,3,8,10,11,12,13,28,29,30,43] []) (.cond (.t 43) (.ops [o1 13 (.mv (ci 1))] [2,3,8,10,11,12,13,28,29,30] []) .skip)) f20_38
def f20_29:IC:=.seq (.ops [m1 35 2,o1 36 (.faddr (.t 10) 1),o1 37 (.load (.t 36) 1 false),o1 38 (.call 58 [.t 35,.t 37]),m1 34 38,o1 39 (.ext (.t 34) 0),o1 40 (.ext (.t 34) 1),o1 11 (.alloc (.agg [(.s []),(.i .i64 0),(.s []),(.i .i64 0),.nil])),o0 (.store (.t 11) (.t 39) 5),m1 12 40] [2,3,8,10,11,12,28,29,30] []) (.seq (.ops [o1 13 (.mv (ci 2))] [2,3,8,10,11,12,13,28,29,30] []) f20_33)
def f20_25:IC:=.seq (.block 1 (.seq (.ops [o1 32 (.iaddr (.t 28) (.t 30) 86 3),o1 33 (.load (.t 32) 3 true),o1 10 (.alloc (.agg [(.i .i64 0),(.s []),.nil])),o0 (.store (.t 10) (.t 33) 3)] [2,3,8,10,28,29,30] []) f20_29)) (.ops [o1 67 (.bin .add (.t 30) (ci 1)),m1 30 67] [2,3,8,28,29,30] [])
def f20_21:IC:=.seq (.ops [o1 31 (.bin .lss (.t 30) (.t 29))] [2,3,8,28,29,30,31] []) (.seq (.cond (.t 31) .skip (.exit 0)) f20_25)
def f20_16:IC:=.seq (.seq (.ops [o1 27 (.faddr (.t 4) 0),o1 28 (.load (.t 27) 1 false),o1 29 (.lenL (.t 28)),o1 30 (.mv (ci 0))] [2,3,8,28,29,30] []) (.block 0 (.loop f20_21))) (.seq (.ops [m1 68 8,m1 6 68,o1 7 (.mv (ci 0))] [6,7] []) .ret)
def f20_8:IC:=.seq (.seq (.ops [o1 17 (.faddr (.t 3) 3),o1 18 (.load (.t 17) 1 false),o1 19 (.call 41 [.t 18]),o1 20 (.not (.t 19)),m1 21 20,⟨some 22,.faddr (.t 3) 4,some (21,false),[]⟩,⟨some 23,.load (.t 22) 1 false,some (21,false),[]⟩,⟨some 24,.call 41 [.t 23],some (21,false),[]⟩,⟨some 25,.not (.t 24),some (21,false),[]⟩,o1 26 (.pick (.t 21) (.c (.b true)) (.t 25))] [2,3,4,26] []) (.cond (.t 26) (.seq (.ops [o1 6 (.mv (ci 0)),o1 7 (.mv (ci 18))] [6,7] []) .ret) .skip)) (.seq (.ops [o1 8 (.mv (ci 0))] [2,3,4,8] []) f20_16)
def f20_2:IC:=.seq (.seq (.ops [o1 14 (.load (.t 4) 2 true),o1 15 (.call 12 [.t 14]),o1 16 (.not (.t 15))] [2,3,4,16] []) (.cond (.t 16) (.seq (.ops [o1 6 (.mv (ci 0)),o1 7 (.mv (ci 1))] [6,7] []) .ret) .skip)) f20_8
def f20_0:IC:=.seq (.ops [o1 3 (.box (.t 0)),o1 4 (.box (.t 1)),o1 6 (.mv (ci 0)),o1 7 (.mv (ci 0))] [2,3,4] []) f20_2
@[push_cast]def f20R:List R:=[.t 6,.t 7]
@[push_cast]def f20e:=aWv f20_45.eq_1<|aWv f20_50.eq_1<|aWv f20_38.eq_1<|aWv f20_33.eq_1<|aWv f20_29.eq_1<|aWv f20_25.eq_1<|aWv f20_21.eq_1<|aWv f20_16.eq_1<|aWv f20_8.eq_1<|aWv f20_2.eq_1<|aWu f20_0.eq_1
theorem f20ok:okFn Tryz.prog 20 69 f20_0 f20R=true:=by kernel_rfl
def f107_16:IC:=.seq (.ops [m1 20 0,m1 21 6,o1 22 (.iaddr (.t 20) (.t 21) 102 5),o1 23 (.load (.t 22) 5 true),o0 (.store (.t 4) (.t 23) 5),o1 5 (.mv (.c (.b true)))] [4,5] []) .ret
def f107_11:IC:=.seq (.block 1 (.seq (.ops [m1 13 0,m1 14 6,o1 15 (.iaddr (.t 13) (.t 14) 102 5),o1 16 (.faddr (.t 15) 0),o1 17 (.load (.t 16) 1 false),m1 18 1,o1 19 (.bin .eql (.t 17) (.t 18))] [0,1,4,6,19] []) (.cond (.t 19) f107_16 .skip))) (.ops [m1 11 6,o1 12 (.bin .add (.t 11) (ci 1)),m1 6 12] [0,1,4,6] [])
def f107_7:IC:=.seq (.seq (.ops [m1 7 6,m1 8 0,o1 9 (.lenL (.t 8)),o1 10 (.bin .lss (.t 7) (.t 9))] [0,1,4,6,10] []) (.cond (.t 10) .skip (.exit 0))) f107_11
def f107_19:IC:=.seq (.ops [o1 24 (.build [(.s []),(.i .i64 0),(.s []),(.i .i64 0),.nil] []),o0 (.store (.t 4) (.t 24) 5),o1 5 (.mv (.c (.b false)))] [4,5] []) .ret
def f107_0:IC:=.seq (.ops [o1 4 (.alloc (.agg [(.s []),(.i .i64 0),(.s []),(.i .i64 0),.nil])),o1 5 (.mv (.c (.b false)))] [0,1,4] []) (.seq (.seq (.ops [o1 6 (.mv (ci 0))] [0,1,4,6] []) (.block 0 (.loop f107_7))) f107_19)
@[push_cast]def f107R:List R:=[.c 4 5 true,.t 5]
@[push_cast]def f107e:=aWv f107_16.eq_1<|aWv f107_11.eq_1<|aWv f107_7.eq_1<|aWv f107_19.eq_1<|aWu f107_0.eq_1
theorem f107ok:okFn Tryz.prog 107 25 f107_0 f107R=true:=by kernel_rfl
def f108_10:IC:=.seq (.ops [m1 31 3,m1 32 31,⟨some 33,.faddr (.t 1) 2,some (32,false),[]⟩,⟨some 34,.load (.t 33) 1 false,some (32,false),[]⟩,⟨some 35,.bin .eql (.t 34) (.c (.s [])),some (32,false),[]⟩,o1 36 (.pick (.t 32) (.c (.b true)) (.t 35)),m1 37 36,⟨some 38,.faddr (.t 1) 1,some (37,true),[]⟩,⟨some 39,.load (.t 38) 1 false,some (37,true),[]⟩,⟨some 40,.bin .eql (.t 39) (ci 3),some (37,true),[]⟩,⟨some 41,.mv (.t 40),some (37,true),[]⟩,⟨some 42,.faddr (.t 1) 3,some (41,false),[]⟩,⟨some 43,.load (.t 42) 1 false,some (41,false),[]⟩,⟨some 44,.bin .eql (.t 43) (ci 0),some (41,false),[]⟩,⟨some 45,.pick (.t 41) (.c (.b true)) (.t 44),some (37,true),[]⟩,o1 46 (.pick (.t 37) (.t 45) (.c (.b false))),m1 47 46,⟨some 48,.faddr (.t 1) 1,some (47,true),[]⟩,⟨some 49,.load (.t 48) 1 false,some (47,true),[]⟩,⟨some 50,.bin .eql (.t 49) (ci 4),some (47,true),[]⟩,⟨some 51,.mv (.t 50),some (47,true),[]⟩,⟨some 52,.faddr (.t 1) 4,some (51,false),[]⟩,⟨some 53,.load (.t 52) 1 false,some (51,false),[]⟩,⟨some 54,.lenL (.t 53),some (51,false),[]⟩,⟨some 55,.bin .eql (.t 54) (ci 0),some (51,false),[]⟩,⟨some 56,.pick (.t 51) (.c (.b true)) (.t 55),some (47,true),[]⟩,o1 57 (.pick (.t 47) (.t 56) (.c (.b false))),m1 2 57] [2] []) .ret
def f108_4:IC:=.seq (.seq (.ops [o1 12 (.faddr (.t 1) 1),o1 13 (.load (.t 12) 1 false),o1 14 (.bin .lss (.t 13) (ci 1)),m1 15 14,⟨some 16,.faddr (.t 1) 1,some (15,false),[]⟩,⟨some 17,.load (.t 16) 1 false,some (15,false),[]⟩,⟨some 18,.bin .gtr (.t 17) (ci 4),some (15,false),[]⟩,o1 19 (.pick (.t 15) (.c (.b true)) (.t 18)),m1 20 19,⟨some 21,.faddr (.t 1) 1,some (20,false),[]⟩,⟨some 22,.load (.t 21) 1 false,some (20,false),[]⟩,⟨some 23,.bin .eql (.t 22) (ci 2),some (20,false),[]⟩,⟨some 24,.mv (.t 23),some (20,false),[]⟩,⟨some 25,.faddr (.t 1) 2,some (24,true),[]⟩,⟨some 26,.load (.t 25) 1 false,some (24,true),[]⟩,⟨some 27,.call 142 [.t 26],some (24,true),[]⟩,⟨some 28,.not (.t 27),some (24,true),[]⟩,⟨some 29,.pick (.t 24) (.t 28) (.c (.b false)),some (20,false),[]⟩,o1 30 (.pick (.t 20) (.c (.b true)) (.t 29))] [1,3,30] []) (.cond (.t 30) (.seq (.ops [o1 2 (.mv (.c (.b false)))] [2] []) .ret) .skip)) f108_10
def f108_2:IC:=.seq (.ops [o1 4 (.faddr (.t 1) 1),o1 5 (.load (.t 4) 1 false),o1 6 (.bin .eql (.t 5) (ci 1)),m1 7 6,⟨some 8,.faddr (.t 1) 1,some (7,false),[]⟩,⟨some 9,.load (.t 8) 1 false,some (7,false),[]⟩,⟨some 10,.bin .eql (.t 9) (ci 2),some (7,false),[]⟩,o1 11 (.pick (.t 7) (.c (.b true)) (.t 10)),m1 3 11] [1,3] []) f108_4
def f108_0:IC:=.seq (.ops [o1 1 (.box (.t 0)),o1 2 (.mv (.c (.b false)))] [1] []) f108_2
@[push_cast]def f108R:List R:=[.t 2]
@[push_cast]def f108e:=aWv f108_10.eq_1<|aWv f108_4.eq_1<|aWv f108_2.eq_1<|aWu f108_0.eq_1
theorem f108ok:okFn Tryz.prog 108 58 f108_0 f108R=true:=by kernel_rfl
def f62_16:IC:=.seq (.ops [o1 22 (.build [(.s []),(.i .i64 0),(.s []),(.i .i64 0),.nil] []),o0 (.store (.t 6) (.t 22) 5),o1 7 (.mv (ci 12))] [6,7] []) .ret
def f62_21:IC:=.seq (.ops [o1 33 (.build [(.s []),(.i .i64 0),(.s []),(.i .i64 0),.nil] []),o0 (.store (.t 6) (.t 33) 5),o1 7 (.mv (ci 11))] [6,7] []) .ret
def f62_18:IC:=.seq (.ops [o1 24 (.load (.t 8) 5 true),o1 25 (.call 108 [.t 24]),o1 26 (.not (.t 25)),m1 27 26,⟨some 28,.faddr (.t 8) 1,some (27,false),[]⟩,⟨some 29,.load (.t 28) 1 false,some (27,false),[]⟩,⟨some 30,.mv (.t 10),some (27,false),[]⟩,⟨some 31,.bin .neq (.t 29) (.t 30),some (27,false),[]⟩,o1 32 (.pick (.t 27) (.c (.b true)) (.t 31)),m1 23 32] [6,8,23] []) (.cond (.t 23) f62_21 .skip)
def f62_23:IC:=.seq (.ops [o1 34 (.load (.t 8) 5 true),o0 (.store (.t 6) (.t 34) 5),o1 7 (.mv (ci 0))] [6,7] []) .ret
def f62_11:IC:=.seq (.block 0 (.seq (.ops [m1 20 9,o1 21 (.not (.t 20)),m1 19 21] [6,8,10,19] []) (.cond (.t 19) f62_16 f62_18))) f62_23
def f62_6:IC:=.seq (.seq (.ops [m1 17 0,o1 18 (.bin .eql (.t 17) (ci 9))] [6,8,9,10,18] []) (.cond (.t 18) (.ops [o1 10 (.mv (ci 1))] [6,8,9,10] []) .skip)) f62_11
def f62_2:IC:=.seq (.ops [m1 12 2,m1 13 1,o1 14 (.call 107 [.t 12,.t 13]),m1 11 14,o1 15 (.ext (.t 11) 0),o1 16 (.ext (.t 11) 1),o1 8 (.alloc (.agg [(.s []),(.i .i64 0),(.s []),(.i .i64 0),.nil])),o0 (.store (.t 8) (.t 15) 5),m1 9 16] [0,6,8,9] []) (.seq (.ops [o1 10 (.mv (ci 2))] [0,6,8,9,10] []) f62_6)
def f62_0:IC:=.seq (.ops [o1 6 (.alloc (.agg [(.s []),(.i .i64 0),(.s []),(.i .i64 0),.nil])),o1 7 (.mv (ci 0))] [0,1,2,6] []) f62_2
@[push_cast]def f62R:List R:=[.c 6 5 true,.t 7]
@[push_cast]def f62e:=aWv f62_16.eq_1<|aWv f62_21.eq_1<|aWv f62_18.eq_1<|aWv f62_23.eq_1<|aWv f62_11.eq_1<|aWv f62_6.eq_1<|aWv f62_2.eq_1<|aWu f62_0.eq_1
theorem f62ok:okFn Tryz.prog 62 35 f62_0 f62R=true:=by kernel_rfl
def f63_10:IC:=.ops [o1 28 (.faddr (.t 5) 2),o1 29 (.load (.t 28) 1 false),o1 30 (.bin .add (.c (.s [61])) (.t 29)),m1 31 8,o1 32 (.msl false 9 1 [.t 30,.t 31]),m1 7 32] [4,7] []
def f63_8:IC:=.seq (.ops [o1 19 (.load (.t 3) 16 true),o1 20 (.faddr (.t 4) 0),o1 21 (.load (.t 20) 1 false),o1 22 (.call 110 [.t 19,.t 21]),o1 23 (.faddr (.t 5) 2),o1 24 (.load (.t 23) 1 false),o1 25 (.call 109 [.t 22,.t 24]),m1 18 25,o1 26 (.ext (.t 18) 0),o1 27 (.ext (.t 18) 1),m1 8 26,m1 9 27] [4,5,8] [[1,2],[0,3],[2,3],[4,5],[3,6],[5,6],[6,7],[7,8],[7,9],[8,10],[9,11]]) f63_10
def f63_30:IC:=.seq (.block 3 (.seq (.ops [o1 46 (.faddr (.t 4) 2),o1 47 (.load (.t 46) 1 false),m1 48 11,o1 49 (.iaddr (.t 47) (.t 48) 9 1),o1 50 (.load (.t 49) 1 false),m1 51 7,m1 52 10,o1 53 (.iaddr (.t 51) (.t 52) 9 1),o1 54 (.load (.t 53) 1 false),o1 55 (.bin .eql (.t 50) (.t 54))] [4,7,10,11,55] [[0,1],[1,3],[2,3],[3,4],[5,7],[6,7],[7,8],[4,9],[8,9]]) (.cond (.t 55) (.seq (.ops [m1 56 11,m1 6 56] [6] []) .ret) .skip))) (.ops [m1 44 11,o1 45 (.bin .add (.t 44) (ci 1)),m1 11 45] [4,7,10,11] [])
def f63_26:IC:=.seq (.seq (.ops [m1 39 11,o1 40 (.faddr (.t 4) 2),o1 41 (.load (.t 40) 1 false),o1 42 (.lenL (.t 41)),o1 43 (.bin .lss (.t 39) (.t 42))] [4,7,10,11,43] []) (.cond (.t 43) .skip (.exit 2))) f63_30
def f63_20:IC:=.seq (.block 1 (.seq (.ops [o1 11 (.mv (ci 0))] [4,7,10,11] []) (.block 2 (.loop f63_26)))) (.ops [m1 37 10,o1 38 (.bin .add (.t 37) (ci 1)),m1 10 38] [4,7,10] [])
def f63_16:IC:=.seq (.seq (.ops [m1 33 10,m1 34 7,o1 35 (.lenL (.t 34)),o1 36 (.bin .lss (.t 33) (.t 35))] [4,7,10,36] []) (.cond (.t 36) .skip (.exit 0))) f63_20
def f63_39:IC:=.seq (.ops [o1 57 (.faddr (.t 4) 2),o1 58 (.load (.t 57) 1 false),o1 59 (.lenL (.t 58)),o1 60 (.bin .sub (.t 59) (ci 1)),m1 6 60] [6] []) .ret
def f63_4:IC:=.seq (.seq (.ops [o1 15 (.faddr (.t 4) 0),o1 16 (.load (.t 15) 1 false),o1 17 (.bin .neq (.t 16) (ci 9))] [3,4,5,7,17] []) (.cond (.t 17) f63_8 .skip)) (.seq (.seq (.ops [o1 10 (.mv (ci 0))] [4,7,10] []) (.block 0 (.loop f63_16))) f63_39)
def f63_2:IC:=.seq (.ops [o1 12 (.faddr (.t 5) 2),o1 13 (.load (.t 12) 1 false),o1 14 (.msl false 9 1 [.t 13]),m1 7 14] [3,4,5,7] []) f63_4
def f63_0:IC:=.seq (.ops [o1 3 (.box (.t 0)),o1 4 (.box (.t 1)),o1 5 (.box (.t 2)),o1 6 (.mv (ci 0))] [3,4,5] []) f63_2
@[push_cast]def f63R:List R:=[.t 6]
@[push_cast]def f63e:=aWv f63_10.eq_1<|aWv f63_8.eq_1<|aWv f63_30.eq_1<|aWv f63_26.eq_1<|aWv f63_20.eq_1<|aWv f63_16.eq_1<|aWv f63_39.eq_1<|aWv f63_4.eq_1<|aWv f63_2.eq_1<|aWu f63_0.eq_1
theorem f63ok:okFn Tryz.prog 63 61 f63_0 f63R=true:=by kernel_rfl
def f22_37:IC:=.ops [m1 50 8,o1 51 (.faddr (.t 10) 2),o1 52 (.load (.t 51) 1 false),o1 53 (.lenL (.t 52)),o1 54 (.bin .mul (.t 50) (.t 53)),o1 55 (.load (.t 3) 16 true),o1 56 (.load (.t 10) 3 true),o1 57 (.load (.t 11) 5 true),o1 58 (.call 63 [.t 55,.t 56,.t 57]),o1 59 (.bin .add (.t 54) (.t 58)),m1 8 59] [2,3,4,8,9] [[1,2],[2,3],[0,4],[3,4],[5,8],[6,8],[7,8],[4,9],[8,9],[0,10],[9,10]]
def f22_31:IC:=.seq (.seq (.ops [m1 47 12,o1 48 (.bin .neq (.t 47) (ci 0))] [2,3,4,8,9,10,11,12,48] []) (.cond (.t 48) (.seq (.ops [m1 49 12,o1 6 (.mv (ci 0)),m1 7 49] [6,7] []) .ret) .skip)) f22_37
def f22_29:IC:=.seq (.ops [o1 39 (.faddr (.t 10) 0),o1 40 (.load (.t 39) 1 false),o1 41 (.faddr (.t 10) 1),o1 42 (.load (.t 41) 1 false),m1 43 2,o1 44 (.call 62 [.t 40,.t 42,.t 43]),m1 38 44,o1 45 (.ext (.t 38) 0),o1 46 (.ext (.t 38) 1),o1 11 (.alloc (.agg [(.s []),(.i .i64 0),(.s []),(.i .i64 0),.nil])),o0 (.store (.t 11) (.t 45) 5),m1 12 46] [2,3,4,8,9,10,11,12] []) f22_31
def f22_25:IC:=.seq (.block 1 (.seq (.ops [o1 33 (.faddr (.t 4) 0),o1 34 (.load (.t 33) 1 false),m1 35 9,o1 36 (.iaddr (.t 34) (.t 35) 100 3),o1 37 (.load (.t 36) 3 true),o1 10 (.alloc (.agg [(.i .i64 0),(.s []),.nil])),o0 (.store (.t 10) (.t 37) 3)] [2,3,4,8,9,10] []) f22_29)) (.ops [m1 31 9,o1 32 (.bin .add (.t 31) (ci 1)),m1 9 32] [2,3,4,8,9] [])
def f22_21:IC:=.seq (.seq (.ops [m1 26 9,o1 27 (.faddr (.t 4) 0),o1 28 (.load (.t 27) 1 false),o1 29 (.lenL (.t 28)),o1 30 (.bin .lss (.t 26) (.t 29))] [2,3,4,8,9,30] []) (.cond (.t 30) .skip (.exit 0))) f22_25
def f22_16:IC:=.seq (.seq (.ops [o1 9 (.mv (ci 0))] [2,3,4,8,9] []) (.block 0 (.loop f22_21))) (.seq (.ops [m1 60 8,m1 6 60,o1 7 (.mv (ci 0))] [6,7] []) .ret)
def f22_8:IC:=.seq (.seq (.ops [o1 16 (.faddr (.t 3) 3),o1 17 (.load (.t 16) 1 false),o1 18 (.call 61 [.t 17]),o1 19 (.not (.t 18)),m1 20 19,⟨some 21,.faddr (.t 3) 4,some (20,false),[]⟩,⟨some 22,.load (.t 21) 1 false,some (20,false),[]⟩,⟨some 23,.call 61 [.t 22],some (20,false),[]⟩,⟨some 24,.not (.t 23),some (20,false),[]⟩,o1 25 (.pick (.t 20) (.c (.b true)) (.t 24))] [2,3,4,25] []) (.cond (.t 25) (.seq (.ops [o1 6 (.mv (ci 0)),o1 7 (.mv (ci 18))] [6,7] []) .ret) .skip)) (.seq (.ops [o1 8 (.mv (ci 0))] [2,3,4,8] []) f22_16)
def f22_2:IC:=.seq (.seq (.ops [o1 13 (.load (.t 4) 2 true),o1 14 (.call 23 [.t 13]),o1 15 (.not (.t 14))] [2,3,4,15] []) (.cond (.t 15) (.seq (.ops [o1 6 (.mv (ci 0)),o1 7 (.mv (ci 1))] [6,7] []) .ret) .skip)) f22_8
def f22_0:IC:=.seq (.ops [o1 3 (.box (.t 0)),o1 4 (.box (.t 1)),o1 6 (.mv (ci 0)),o1 7 (.mv (ci 0))] [2,3,4] []) f22_2
@[push_cast]def f22R:List R:=[.t 6,.t 7]
@[push_cast]def f22e:=aWv f22_37.eq_1<|aWv f22_31.eq_1<|aWv f22_29.eq_1<|aWv f22_25.eq_1<|aWv f22_21.eq_1<|aWv f22_16.eq_1<|aWv f22_8.eq_1<|aWv f22_2.eq_1<|aWu f22_0.eq_1
theorem f22ok:okFn Tryz.prog 22 61 f22_0 f22R=true:=by kernel_rfl
def f23_29:IC:=.seq (.block 3 (.seq (.ops [o1 64 (.faddr (.t 4) 2),o1 65 (.load (.t 64) 1 false),m1 66 5,o1 67 (.slL (.t 65) none (some (.t 66)) 1),o1 68 (.faddr (.t 4) 2),o1 69 (.load (.t 68) 1 false),m1 70 5,o1 71 (.iaddr (.t 69) (.t 70) 9 1),o1 72 (.load (.t 71) 1 false),o1 73 (.call 66 [.t 67,.t 72])] [1,3,4,5,73] [[0,1],[1,3],[2,3],[4,5],[5,7],[6,7],[7,8],[3,9],[8,9]]) (.cond (.t 73) (.seq (.ops [o1 2 (.mv (.c (.b false)))] [2] []) .ret) .skip))) (.ops [m1 62 5,o1 63 (.bin .add (.t 62) (ci 1)),m1 5 63] [1,3,4,5] [])
def f23_25:IC:=.seq (.seq (.ops [m1 57 5,o1 58 (.faddr (.t 4) 2),o1 59 (.load (.t 58) 1 false),o1 60 (.lenL (.t 59)),o1 61 (.bin .lss (.t 57) (.t 60))] [1,3,4,5,61] []) (.cond (.t 61) .skip (.exit 2))) f23_29
def f23_15:IC:=.seq (.seq (.ops [o1 19 (.faddr (.t 4) 0),o1 20 (.load (.t 19) 1 false),o1 21 (.call 57 [.t 20]),o1 22 (.not (.t 21)),m1 23 22,⟨some 24,.faddr (.t 4) 1,some (23,false),[]⟩,⟨some 25,.load (.t 24) 1 false,some (23,false),[]⟩,⟨some 26,.call 64 [.t 25],some (23,false),[]⟩,⟨some 27,.not (.t 26),some (23,false),[]⟩,o1 28 (.pick (.t 23) (.c (.b true)) (.t 27)),m1 29 28,⟨some 30,.faddr (.t 4) 2,some (29,false),[]⟩,⟨some 31,.load (.t 30) 1 false,some (29,false),[]⟩,⟨some 32,.lenL (.t 31),some (29,false),[]⟩,⟨some 33,.bin .eql (.t 32) (ci 0),some (29,false),[]⟩,o1 34 (.pick (.t 29) (.c (.b true)) (.t 33)),m1 35 34,⟨some 36,.faddr (.t 4) 2,some (35,false),[]⟩,⟨some 37,.load (.t 36) 1 false,some (35,false),[]⟩,⟨some 38,.faddr (.t 4) 2,some (35,false),[]⟩,⟨some 39,.load (.t 38) 1 false,some (35,false),[]⟩,⟨some 40,.lenL (.t 39),some (35,false),[]⟩,⟨some 41,.bin .sub (.t 40) (ci 1),some (35,false),[]⟩,⟨some 42,.iaddr (.t 37) (.t 41) 9 1,some (35,false),[]⟩,⟨some 43,.load (.t 42) 1 false,some (35,false),[]⟩,⟨some 44,.bin .neq (.t 43) (.c (.s [111,116,104,101,114])),some (35,false),[]⟩,o1 45 (.pick (.t 35) (.c (.b true)) (.t 44)),m1 46 45,⟨some 47,.faddr (.t 1) 0,some (46,false),[]⟩,⟨some 48,.load (.t 47) 1 false,some (46,false),[]⟩,⟨some 49,.faddr (.t 4) 0,some (46,false),[]⟩,⟨some 50,.load (.t 49) 1 false,some (46,false),[]⟩,⟨some 51,.faddr (.t 4) 1,some (46,false),[]⟩,⟨some 52,.load (.t 51) 1 false,some (46,false),[]⟩,⟨some 53,.call 65 [.t 48,.t 50,.t 52],some (46,false),[]⟩,⟨some 54,.mv (.t 3),some (46,false),[]⟩,⟨some 55,.bin .neq (.t 53) (.t 54),some (46,false),[]⟩,o1 56 (.pick (.t 46) (.c (.b true)) (.t 55))] [1,3,4,56] []) (.cond (.t 56) (.seq (.ops [o1 2 (.mv (.c (.b false)))] [2] []) .ret) .skip)) (.seq (.ops [o1 5 (.mv (ci 0))] [1,3,4,5] []) (.block 2 (.loop f23_25)))
def f23_11:IC:=.seq (.block 1 (.seq (.ops [o1 14 (.faddr (.t 1) 0),o1 15 (.load (.t 14) 1 false),m1 16 3,o1 17 (.iaddr (.t 15) (.t 16) 100 3),o1 18 (.load (.t 17) 3 true),o1 4 (.alloc (.agg [(.i .i64 0),(.s []),.nil])),o0 (.store (.t 4) (.t 18) 3)] [1,3,4] []) f23_15)) (.ops [m1 12 3,o1 13 (.bin .add (.t 12) (ci 1)),m1 3 13] [1,3] [])
def f23_7:IC:=.seq (.seq (.ops [m1 7 3,o1 8 (.faddr (.t 1) 0),o1 9 (.load (.t 8) 1 false),o1 10 (.lenL (.t 9)),o1 11 (.bin .lss (.t 7) (.t 10))] [1,3,11] []) (.cond (.t 11) .skip (.exit 0))) f23_11
def f23_40:IC:=.seq (.ops [m1 77 6,o1 78 (.bin .leq (.t 77) (ci 400)),m1 79 78,⟨some 80,.faddr (.t 1) 1,some (79,true),[]⟩,⟨some 81,.load (.t 80) 1 false,some (79,true),[]⟩,⟨some 82,.lenL (.t 81),some (79,true),[]⟩,⟨some 83,.mv (.t 6),some (79,true),[]⟩,⟨some 84,.bin .eql (.t 82) (.t 83),some (79,true),[]⟩,o1 85 (.pick (.t 79) (.t 84) (.c (.b false))),m1 2 85] [2] []) .ret
def f23_38:IC:=.seq (.ops [o1 74 (.faddr (.t 1) 0),o1 75 (.load (.t 74) 1 false),o1 76 (.call 67 [.t 75]),m1 6 76] [1,6] []) f23_40
def f23_0:IC:=.seq (.ops [o1 1 (.box (.t 0)),o1 2 (.mv (.c (.b false)))] [1] []) (.seq (.seq (.ops [o1 3 (.mv (ci 0))] [1,3] []) (.block 0 (.loop f23_7))) f23_38)
@[push_cast]def f23R:List R:=[.t 2]
@[push_cast]def f23e:=aWv f23_29.eq_1<|aWv f23_25.eq_1<|aWv f23_15.eq_1<|aWv f23_11.eq_1<|aWv f23_7.eq_1<|aWv f23_40.eq_1<|aWv f23_38.eq_1<|aWu f23_0.eq_1
theorem f23ok:okFn Tryz.prog 23 86 f23_0 f23R=true:=by kernel_rfl
def f18_29:IC:=.seq (.block 3 (.seq (.ops [o1 43 (.faddr (.t 1) 0),o1 44 (.load (.t 43) 1 false),m1 45 4,o1 46 (.iaddr (.t 44) (.t 45) 100 3),o1 47 (.faddr (.t 46) 2),o1 48 (.load (.t 47) 1 false),m1 49 5,o1 50 (.iaddr (.t 48) (.t 49) 9 1),o1 51 (.load (.t 50) 1 false),o1 52 (.lenS (.t 51)),o1 53 (.bin .gtr (.t 52) (ci 60))] [1,3,4,5,53] []) (.cond (.t 53) (.seq (.ops [o1 2 (.mv (.c (.b false)))] [2] []) .ret) .skip))) (.ops [m1 41 5,o1 42 (.bin .add (.t 41) (ci 1)),m1 5 42] [1,3,4,5] [])
def f18_25:IC:=.seq (.seq (.ops [m1 32 5,o1 33 (.faddr (.t 1) 0),o1 34 (.load (.t 33) 1 false),m1 35 4,o1 36 (.iaddr (.t 34) (.t 35) 100 3),o1 37 (.faddr (.t 36) 2),o1 38 (.load (.t 37) 1 false),o1 39 (.lenL (.t 38)),o1 40 (.bin .lss (.t 32) (.t 39))] [1,3,4,5,40] []) (.cond (.t 40) .skip (.exit 2))) f18_29
def f18_13:IC:=.seq (.block 1 (.seq (.seq (.ops [o1 14 (.faddr (.t 1) 0),o1 15 (.load (.t 14) 1 false),m1 16 4,o1 17 (.iaddr (.t 15) (.t 16) 100 3),o1 18 (.faddr (.t 17) 2),o1 19 (.load (.t 18) 1 false),o1 20 (.lenL (.t 19)),o1 21 (.bin .gtr (.t 20) (ci 12)),m1 22 21,⟨some 23,.faddr (.t 1) 0,some (22,false),[]⟩,⟨some 24,.load (.t 23) 1 false,some (22,false),[]⟩,⟨some 25,.mv (.t 4),some (22,false),[]⟩,⟨some 26,.iaddr (.t 24) (.t 25) 100 3,some (22,false),[]⟩,⟨some 27,.faddr (.t 26) 1,some (22,false),[]⟩,⟨some 28,.load (.t 27) 1 false,some (22,false),[]⟩,⟨some 29,.lenS (.t 28),some (22,false),[]⟩,⟨some 30,.bin .gtr (.t 29) (ci 60),some (22,false),[]⟩,o1 31 (.pick (.t 22) (.c (.b true)) (.t 30))] [1,3,4,31] []) (.cond (.t 31) (.seq (.ops [o1 2 (.mv (.c (.b false)))] [2] []) .ret) .skip)) (.seq (.ops [o1 5 (.mv (ci 0))] [1,3,4,5] []) (.block 2 (.loop f18_25))))) (.ops [m1 12 4,o1 13 (.bin .add (.t 12) (ci 1)),m1 4 13] [1,3,4] [])
def f18_9:IC:=.seq (.seq (.ops [m1 7 4,o1 8 (.faddr (.t 1) 0),o1 9 (.load (.t 8) 1 false),o1 10 (.lenL (.t 9)),o1 11 (.bin .lss (.t 7) (.t 10))] [1,3,4,11] []) (.cond (.t 11) .skip (.exit 0))) f18_13
def f18_51:IC:=.seq (.ops [o1 70 (.faddr (.t 1) 1),o1 71 (.load (.t 70) 1 false),m1 72 6,o1 73 (.iaddr (.t 71) (.t 72) 31 1),o1 74 (.load (.t 73) 1 false),o1 75 (.call 36 [.t 74]),o1 76 (.bin .gtr (.t 75) (ci 12))] [1,3,6,76] []) (.cond (.t 76) (.seq (.ops [o1 2 (.mv (.c (.b false)))] [2] []) .ret) .skip)
def f18_47:IC:=.seq (.block 5 (.seq (.ops [m1 61 3,o1 62 (.faddr (.t 1) 1),o1 63 (.load (.t 62) 1 false),m1 64 6,o1 65 (.iaddr (.t 63) (.t 64) 31 1),o1 66 (.load (.t 65) 1 false),o1 67 (.call 37 [.t 66]),o1 68 (.bin .add (ci 1) (.t 67)),o1 69 (.bin .add (.t 61) (.t 68)),m1 3 69] [1,3,6] []) f18_51)) (.ops [m1 59 6,o1 60 (.bin .add (.t 59) (ci 1)),m1 6 60] [1,3,6] [])
def f18_43:IC:=.seq (.seq (.ops [m1 54 6,o1 55 (.faddr (.t 1) 1),o1 56 (.load (.t 55) 1 false),o1 57 (.lenL (.t 56)),o1 58 (.bin .lss (.t 54) (.t 57))] [1,3,6,58] []) (.cond (.t 58) .skip (.exit 4))) f18_47
def f18_57:IC:=.seq (.ops [o1 77 (.faddr (.t 1) 0),o1 78 (.load (.t 77) 1 false),o1 79 (.lenL (.t 78)),o1 80 (.bin .leq (.t 79) (ci 6)),m1 81 80,⟨some 82,.faddr (.t 1) 1,some (81,true),[]⟩,⟨some 83,.load (.t 82) 1 false,some (81,true),[]⟩,⟨some 84,.lenL (.t 83),some (81,true),[]⟩,⟨some 85,.bin .leq (.t 84) (ci 410),some (81,true),[]⟩,o1 86 (.pick (.t 81) (.t 85) (.c (.b false))),m1 87 86,⟨some 88,.mv (.t 3),some (87,true),[]⟩,⟨some 89,.bin .leq (.t 88) (ci 3000),some (87,true),[]⟩,o1 90 (.pick (.t 87) (.t 89) (.c (.b false))),m1 2 90] [2] []) .ret
def f18_4:IC:=.seq (.seq (.ops [o1 4 (.mv (ci 0))] [1,3,4] []) (.block 0 (.loop f18_9))) (.seq (.seq (.ops [o1 6 (.mv (ci 0))] [1,3,6] []) (.block 4 (.loop f18_43))) f18_57)
def f18_0:IC:=.seq (.ops [o1 1 (.box (.t 0)),o1 2 (.mv (.c (.b false)))] [1] []) (.seq (.ops [o1 3 (.mv (ci 0))] [1,3] []) f18_4)
@[push_cast]def f18R:List R:=[.t 2]
@[push_cast]def f18e:=aWv f18_29.eq_1<|aWv f18_25.eq_1<|aWv f18_13.eq_1<|aWv f18_9.eq_1<|aWv f18_51.eq_1<|aWv f18_47.eq_1<|aWv f18_43.eq_1<|aWv f18_57.eq_1<|aWv f18_4.eq_1<|aWu f18_0.eq_1
theorem f18ok:okFn Tryz.prog 18 91 f18_0 f18R=true:=by kernel_rfl
def f19_24:IC:=.seq (.block 3 (.ops [m1 28 4,m1 29 0,m1 30 3,o1 31 (.iaddr (.t 29) (.t 30) 102 5),o1 32 (.faddr (.t 31) 4),o1 33 (.load (.t 32) 1 false),m1 34 5,o1 35 (.iaddr (.t 33) (.t 34) 9 1),o1 36 (.load (.t 35) 1 false),o1 37 (.lenS (.t 36)),o1 38 (.mx false (.t 28) [.t 37]),m1 4 38] [0,3,4,5] [])) (.ops [m1 26 5,o1 27 (.bin .add (.t 26) (ci 1)),m1 5 27] [0,3,4,5] [])
def f19_20:IC:=.seq (.seq (.ops [m1 18 5,m1 19 0,m1 20 3,o1 21 (.iaddr (.t 19) (.t 20) 102 5),o1 22 (.faddr (.t 21) 4),o1 23 (.load (.t 22) 1 false),o1 24 (.lenL (.t 23)),o1 25 (.bin .lss (.t 18) (.t 24))] [0,3,4,5,25] []) (.cond (.t 25) .skip (.exit 2))) f19_24
def f19_28:IC:=.seq (.ops [m1 39 4,o1 40 (.bin .gtr (.t 39) (ci 200)),m1 41 40,⟨some 42,.mv (.t 0),some (41,false),[]⟩,⟨some 43,.mv (.t 3),some (41,false),[]⟩,⟨some 44,.iaddr (.t 42) (.t 43) 102 5,some (41,false),[]⟩,⟨some 45,.faddr (.t 44) 4,some (41,false),[]⟩,⟨some 46,.load (.t 45) 1 false,some (41,false),[]⟩,⟨some 47,.lenL (.t 46),some (41,false),[]⟩,⟨some 48,.bin .gtr (.t 47) (ci 12),some (41,false),[]⟩,o1 49 (.pick (.t 41) (.c (.b true)) (.t 48)),m1 50 49,⟨some 51,.mv (.t 0),some (50,false),[]⟩,⟨some 52,.mv (.t 3),some (50,false),[]⟩,⟨some 53,.iaddr (.t 51) (.t 52) 102 5,some (50,false),[]⟩,⟨some 54,.faddr (.t 53) 0,some (50,false),[]⟩,⟨some 55,.load (.t 54) 1 false,some (50,false),[]⟩,⟨some 56,.lenS (.t 55),some (50,false),[]⟩,⟨some 57,.bin .gtr (.t 56) (ci 60),some (50,false),[]⟩,o1 58 (.pick (.t 50) (.c (.b true)) (.t 57))] [0,3,58] []) (.cond (.t 58) (.seq (.ops [o1 2 (.mv (.c (.b false)))] [2] []) .ret) .skip)
def f19_11:IC:=.seq (.block 1 (.seq (.ops [m1 12 0,m1 13 3,o1 14 (.iaddr (.t 12) (.t 13) 102 5),o1 15 (.faddr (.t 14) 2),o1 16 (.load (.t 15) 1 false),o1 17 (.lenS (.t 16)),m1 4 17] [0,3,4] []) (.seq (.seq (.ops [o1 5 (.mv (ci 0))] [0,3,4,5] []) (.block 2 (.loop f19_20))) f19_28))) (.ops [m1 10 3,o1 11 (.bin .add (.t 10) (ci 1)),m1 3 11] [0,3] [])
def f19_7:IC:=.seq (.seq (.ops [m1 6 3,m1 7 0,o1 8 (.lenL (.t 7)),o1 9 (.bin .lss (.t 6) (.t 8))] [0,3,9] []) (.cond (.t 9) .skip (.exit 0))) f19_11
def f19_34:IC:=.seq (.ops [m1 59 0,o1 60 (.lenL (.t 59)),o1 61 (.bin .leq (.t 60) (ci 30)),m1 2 61] [2] []) .ret
def f19_0:IC:=.seq (.ops [o1 2 (.mv (.c (.b false)))] [0] []) (.seq (.seq (.ops [o1 3 (.mv (ci 0))] [0,3] []) (.block 0 (.loop f19_7))) f19_34)
@[push_cast]def f19R:List R:=[.t 2]
@[push_cast]def f19e:=aWv f19_24.eq_1<|aWv f19_20.eq_1<|aWv f19_28.eq_1<|aWv f19_11.eq_1<|aWv f19_7.eq_1<|aWv f19_34.eq_1<|aWu f19_0.eq_1
theorem f19ok:okFn Tryz.prog 19 62 f19_0 f19R=true:=by kernel_rfl
def f21_13:IC:=.seq (.block 1 (.ops [o1 15 (.faddr (.t 3) 0),o1 16 (.load (.t 15) 1 false),o1 17 (.faddr (.t 1) 0),o1 18 (.load (.t 17) 1 false),m1 19 4,o1 20 (.iaddr (.t 18) (.t 19) 100 3),o1 21 (.load (.t 20) 3 true),o1 22 (.msl false 86 3 [.t 21]),o1 23 (.app (.t 16) (.t 22) 86 3),o1 24 (.faddr (.t 3) 0),o0 (.store (.t 24) (.t 23) 1)] [1,2,3,4] [[0,1],[2,3],[3,5],[4,5],[5,6],[6,7],[1,8],[3,5,6,7,8],[5,6,7,8],[6,7,8],[7,8],[1,10],[3,10],[5,10],[6,10],[8,10],[9,10]])) (.ops [m1 13 4,o1 14 (.bin .add (.t 13) (ci 1)),m1 4 14] [1,2,3,4] [])
def f21_9:IC:=.seq (.seq (.ops [m1 8 4,o1 9 (.faddr (.t 1) 0),o1 10 (.load (.t 9) 1 false),o1 11 (.lenL (.t 10)),o1 12 (.bin .lss (.t 8) (.t 11))] [1,2,3,4,12] []) (.cond (.t 12) .skip (.exit 0))) f21_13
def f21_4:IC:=.seq (.seq (.ops [o1 4 (.mv (ci 0))] [1,2,3,4] []) (.block 0 (.loop f21_9))) (.seq (.ops [o1 25 (.load (.t 3) 2 true),o0 (.store (.t 2) (.t 25) 2)] [2] []) .ret)
def f21_2:IC:=.seq (.ops [o1 5 (.faddr (.t 1) 1),o1 6 (.load (.t 5) 1 false),o1 7 (.build [.nil,.nil] [(1,1,(.t 6))]),o1 3 (.alloc (.agg [.nil,.nil])),o0 (.store (.t 3) (.t 7) 2)] [1,2,3] []) f21_4
def f21_0:IC:=.seq (.ops [o1 1 (.box (.t 0)),o1 2 (.alloc (.agg [.nil,.nil]))] [1,2] []) f21_2
@[push_cast]def f21R:List R:=[.c 2 2 true]
@[push_cast]def f21e:=aWv f21_13.eq_1<|aWv f21_9.eq_1<|aWv f21_4.eq_1<|aWv f21_2.eq_1<|aWu f21_0.eq_1
theorem f21ok:okFn Tryz.prog 21 26 f21_0 f21R=true:=by kernel_rfl
def f4_18:IC:=.seq (.ops [m1 41 7,m1 42 9,o1 43 (.bin .eql (.t 41) (.t 42)),m1 44 43,⟨some 45,.mv (.t 8),some (44,true),[]⟩,⟨some 46,.mv (.t 10),some (44,true),[]⟩,⟨some 47,.bin .eql (.t 45) (.t 46),some (44,true),[]⟩,o1 48 (.pick (.t 44) (.t 47) (.c (.b false))),m1 49 48,⟨some 50,.load (.t 4) 2 true,some (49,true),[]⟩,⟨some 51,.call 21 [.t 50],some (49,true),[]⟩,⟨some 52,.call 12 [.t 51],some (49,true),[]⟩,⟨some 53,.load (.t 4) 2 true,some (49,true),[]⟩,⟨some 54,.call 23 [.t 53],some (49,true),[]⟩,⟨some 55,.eqb false (.t 52) (.t 54),some (49,true),[]⟩,o1 56 (.pick (.t 49) (.t 55) (.c (.b false))),m1 6 56] [6] [[0,2],[1,2],[2,3],[3,4],[3,5],[3,6],[4,6],[5,6],[3,7],[6,7],[7,8],[8,9],[8,10],[9,10],[8,11],[10,11],[8,12],[8,13],[12,13],[8,14],[11,14],[13,14],[8,15],[14,15],[15,16]]) .ret
def f4_16:IC:=.seq (.ops [o1 35 (.load (.t 3) 16 true),o1 36 (.load (.t 4) 2 true),m1 37 2,o1 38 (.call 22 [.t 35,.t 36,.t 37]),m1 34 38,o1 39 (.ext (.t 34) 0),o1 40 (.ext (.t 34) 1),m1 9 39,m1 10 40] [4,7,8,9,10] []) f4_18
def f4_14:IC:=.seq (.ops [o1 27 (.load (.t 3) 16 true),o1 28 (.load (.t 4) 2 true),o1 29 (.call 21 [.t 28]),m1 30 2,o1 31 (.call 20 [.t 27,.t 29,.t 30]),m1 26 31,o1 32 (.ext (.t 26) 0),o1 33 (.ext (.t 26) 1),m1 7 32,m1 8 33] [2,3,4,7,8] [[1,2],[0,4],[2,4],[3,4],[4,5],[5,6],[5,7],[6,8],[7,9]]) f4_16
def f4_8:IC:=.seq (.seq (.ops [o1 13 (.load (.t 3) 16 true),o1 14 (.call 9 [.t 13]),o1 15 (.not (.t 14)),m1 16 15,⟨some 17,.load (.t 4) 2 true,some (16,false),[]⟩,⟨some 18,.call 18 [.t 17],some (16,false),[]⟩,⟨some 19,.not (.t 18),some (16,false),[]⟩,o1 20 (.pick (.t 16) (.c (.b true)) (.t 19)),m1 21 20,⟨some 22,.mv (.t 2),some (21,false),[]⟩,⟨some 23,.call 19 [.t 22],some (21,false),[]⟩,⟨some 24,.not (.t 23),some (21,false),[]⟩,o1 25 (.pick (.t 21) (.c (.b true)) (.t 24))] [2,3,4,25] []) (.cond (.t 25) (.seq (.ops [o1 6 (.mv (.c (.b true)))] [6] []) .ret) .skip)) f4_14
def f4_2:IC:=.seq (.seq (.ops [o1 11 (.call 8 []),o1 12 (.not (.t 11))] [2,3,4,12] []) (.cond (.t 12) (.seq (.ops [o1 6 (.mv (.c (.b false)))] [6] []) .ret) .skip)) f4_8
def f4_0:IC:=.seq (.ops [o1 3 (.box (.t 0)),o1 4 (.box (.t 1)),o1 6 (.mv (.c (.b false)))] [2,3,4] []) f4_2
@[push_cast]def f4R:List R:=[.t 6]
@[push_cast]def f4e:=aWv f4_18.eq_1<|aWv f4_16.eq_1<|aWv f4_14.eq_1<|aWv f4_8.eq_1<|aWv f4_2.eq_1<|aWu f4_0.eq_1
theorem f4ok:okFn Tryz.prog 4 57 f4_0 f4R=true:=by kernel_rfl
def f100_8:IC:=.seq (.ops [o1 5 (.msl true 9 1 []),m1 6 0,o1 7 (.app (.t 5) (.t 6) 9 1),m1 2 7] [2] []) .ret
def f100_2:IC:=.seq (.seq (.ops [m1 3 0,o1 4 (.pu (.isnil false) [.t 3])] [0,4] []) (.cond (.t 4) (.seq (.ops [o1 2 (.mv (.c .nil))] [2] []) .ret) .skip)) f100_8
def f100_0:IC:=.seq (.ops [o1 2 (.mv (.c .nil))] [0] []) f100_2
@[push_cast]def f100R:List R:=[.t 2]
@[push_cast]def f100e:=aWv f100_8.eq_1<|aWv f100_2.eq_1<|aWu f100_0.eq_1
theorem f100ok:okFn Tryz.prog 100 8 f100_0 f100R=true:=by kernel_rfl
end Go.Ir
namespace Go.Ir
open Go.Proofs
variable (W0 : World)
structure Val where
 name:Bytes
 type:Int
 text:Bytes
 date:Int
 list:List Bytes
def Val.enc (v:Val):V:=.agg [.s v.name,.i .i64 v.type,.s v.text,.i .i64 v.date,.sl (v.list.map V.s)]
def Val.wt (v:Val):Nat:=1+v.name.length+v.text.length+v.list.length
theorem Val.enc_eq (v:Val):v.enc = .agg [.s v.name,.i .i64 v.type,.s v.text,.i .i64 v.date,.sl (v.list.map V.s)]:=rfl
def val0:V:=.agg [.s [],.i .i64 0,.s [],.i .i64 0,.nil]
def getV:List Val->Bytes->Option Val
 | [],_=>none
 | v::vs,n=>if v.name == n then some v else getV vs n
def gV:Option Val->V
 | none=>val0
 | some v=>v.enc
def getR (o:Option Val):V:=.tup [gV o,.b o.isSome]
theorem getV_mem {vs:List Val} {n:Bytes} {v:Val} (h:getV vs n=some v):v∈vs:=by
 induction vs with
 | nil=>cases h
 | cons x vs ih=>
  rw [getV] at h
  split at h
  ·cases h;simp
  ·exact List.mem_cons_of_mem _ (ih h)
theorem c_rGetV (vs:List Val) (n:Bytes) (hl:vs.length<=2^40):RetS Tryz.prog W0 107 [.sl (vs.map Val.enc),.s n] [] (getR (getV vs n)) []:=by
 generalize hS:getV vs n=S
 unfold getR
 refine fn_retW (vs:=[gV S,.b S.isSome]) f107ok (by simp) (by simp) fun n0 hn0=>?_
 clear hn0
 simp only [push_cast,seval,reduceEqDiff]
 intros
 refine aWP_loopW vs.length (Inv:=fun m st=>∃done rest n',vs=done++rest/\m=rest.length/\getV rest n=S/\st=⟨[(0,.sl (vs.map Val.enc)),(1,.s n),(4,.ref (n0,4) 0),(6,.i .i64 done.length)],[((n0,4),.box val0)],n'⟩) ⟨_,StLe.refl,[],vs,_,rfl,rfl,hS,rfl⟩ ?_
 clear hS
 rintro m _ ⟨done,rest,n',hz,rfl,hd,rfl⟩
 cases rest with
 | nil=>
  simp only [getV] at hd
  subst hd
  simp only [push_cast,seval,reduceEqDiff,val0,hz]
  intros
  refine finW_rets ?_
  simp [push_cast,get,gV,val0]
 | cons v rest=>
  have hbd:=zip_bd hz
  rw [getV] at hd
  simp only [push_cast,seval,reduceEqDiff,hz,wrap_zip v (done:=done) (by omega),Val.enc_eq,val0]
  repeat' (first|(((first|apply condU_s|apply gdU_t|apply gdU_f)<;>intro _h)<;>simp only [push_cast,seval,reduceEqDiff,_h,hz,wrap_zip v (done:=done) (by omega),Val.enc_eq,val0])|intro _)
  ·have _g:=_h
   simp only [_g,if_true] at hd
   subst hd
   refine finW_rets ?_
   simp [push_cast,get,gV,Val.enc_eq]
  ·have _g:=_h
   simp only [_g,Bool.false_eq_true,if_false] at hd
   exact ⟨_,_,Nat.lt_succ_self _,StLe.refl,done++[v],rest,_,by simp,rfl,hd,rfl⟩
theorem c_getV1 (v:Val) (n:Bytes) (nid:Id) (σ:Sto) (hn:lk σ nid=some (.box (.s n))):RetS Tryz.prog W0 99 [v.enc,.ref nid 0] σ (.b (v.name == n)) σ:=by
 refine fn_retW (vs:=[.b (v.name == n)]) f99ok (by simp) (fun _ h=>h) fun n0 hn0=>?_
 have h1:∀j,((n0,j)=nid)=False:=fun j=>ne_idx (hn0 _ _ hn)
 simp only [push_cast,seval,reduceEqDiff,h1,hn,Val.enc_eq]
 repeat' (first|(((first|apply condU_s|apply gdU_t|apply gdU_f)<;>intro _h)<;>simp only [push_cast,seval,reduceEqDiff,_h,h1,hn,Val.enc_eq])|intro _)
 all_goals (refine finW_retS (by simp [get, *]) (fun i e h=>lk_fresh (hn0 i e h) h))
theorem okSt (l:List Bytes):∀y∈l.map V.s,y.ok=true:=by
 intro y hy;obtain ⟨x,_,rfl⟩:=List.mem_map.1 hy;rfl
theorem celSt (l:List Bytes):∀y∈l.map V.s,(cells y).length=1:=by
 intro y hy;obtain ⟨x,_,rfl⟩:=List.mem_map.1 hy;rfl
theorem c_cloneS (l:List Bytes) (hl:l.length<=2^30):RetS Tryz.prog W0 100 [.sl (l.map V.s)] [] (.sl (l.map V.s)) []:=by
 refine fn_retW (vs:=[.sl (l.map V.s)]) f100ok (by simp) (by simp) fun n0 hn0=>?_
 clear hn0
 have hll:l.length<=LLim:=by unfold LLim;omega
 cases l with
 | nil=>
  simp only [push_cast,seval,reduceEqDiff,List.map_nil,List.length_nil,eq_true (show 0<=LLim by decide),eq_true (celSt [])]
  intros
  refine ⟨?_,?_⟩
  ·intros
   exact finW_nil rfl
  ·intros
   exact finW_frz (e:=9) (sz:=1) rfl (okSt []) (by simp [lk])
 | cons c cs=>
  have hcel:=celSt (c::cs)
  rw [List.map_cons] at hcel
  rw [List.map_cons] at *
  rw [List.length_cons] at hll
  simp only [push_cast,seval,reduceEqDiff,List.length_nil,eq_true (show 0<=LLim by decide),eq_true hcel,List.nil_append,eq_true hll]
  intros
  exact finW_frz (e:=9) (sz:=1) rfl (okSt (c::cs)) (by simp [lk])
theorem elVal (v:Val):ElOk true 5 v.enc:=elOk_agg rfl
theorem ifVal:okFn Tryz.prog 98 19 (gIF_0 102 5 true) gIFR=true:=by kernel_rfl
theorem idxV (vs:List Val) (n:Bytes):(idxI (fun v=>v.name == n) vs<0/\getV vs n=none)\/∃(j:Nat) (v:Val),idxI (fun v=>v.name == n) vs=(j:Nat)/\vs[j]? = some v/\getV vs n=some v:=by
 induction vs with
 | nil=>left;exact ⟨by simp [idxI],rfl⟩
 | cons x vs ih=>
  rw [getV]
  cases hx:(x.name == n) with
  | true=>right;exact ⟨0,x,by simp [idxI,hx],rfl,rfl⟩
  | false=>
   rcases ih with ⟨h1,h2⟩|⟨j,v,h1,h2,h3⟩
   ·left;refine ⟨?_,by simpa using h2⟩
    simp [idxI,hx,h1]
   ·right;refine ⟨j+1,v,?_,by simpa using h2,by simpa using h3⟩
    simp only [idxI,hx,cond_false,h1]
    rw [if_neg (by omega)];simp
theorem c_getVal (vs:List Val) (n:Bytes) (hl:vs.length<=2^40) (hw:∀v∈vs,v.list.length<=2^30):RetS Tryz.prog W0 58 [.sl (vs.map Val.enc),.s n] [] (getR (getV vs n)) []:=by
 have hix:=fun nid σ hn=>indexFunc_ret W0 ifVal Val.enc vs (fun v=>v.name == n) 99 [] [.ref nid 0] σ (fun x _=>elVal x) (fun x _=>c_getV1 W0 x n nid σ hn) (by omega)
 unfold getR
 refine fn_retW (vs:=[gV (getV vs n),.b (getV vs n).isSome]) f58ok (by simp) (by simp) fun n0 hn0=>?_
 clear hn0
 simp only [push_cast,seval,reduceEqDiff]
 intro k1
 refine c_calls (hix (n0,3) _ (by simp [lk])) (fun _ _ h=>h) ?_
 rw [over_self]
 rcases idxV vs n with ⟨h1,h2⟩|⟨j,v,h1,h2,h3⟩
 ·have h1':decide (idxI (fun v=>v.name == n) vs<0)=true:=by simpa using h1
  rw [h2]
  simp only [push_cast,seval,reduceEqDiff,h1']
  intros
  refine finW_rets ?_
  simp [push_cast,get,gV,val0]
 ·have hc:=c_cloneS W0 v.list (hw v (getV_mem h3))
  have hget:(vs.map Val.enc)[j]? = some v.enc:=by rw [List.getElem?_map,h2];rfl
  have hj:=(List.getElem?_eq_some_iff.1 h2).1
  have hj0:decide ((j:Int)<0)=false:=by simp
  rw [h3,h1]
  simp only [push_cast,seval,reduceEqDiff,hj0,hget,if_pos hj,Val.enc_eq,List.length_map]
  repeat' (first|(((first|apply condU_s|apply gdU_t|apply gdU_f)<;>intro _h)<;>simp only [push_cast,seval,reduceEqDiff,_h,hj0,hget,if_pos hj,Val.enc_eq,List.length_map])|(refine c_call (by exact hc) ?_;simp only [push_cast,seval,reduceEqDiff,hj0,hget,if_pos hj,Val.enc_eq,List.length_map])|intro _)
  refine finW_rets ?_
  simp [push_cast,get,gV,Val.enc_eq]
def propV (v:Val):Bool:=
 if v.type == 1 then v.date == 0&&(v.list.length:Int) == 0 else if v.type == 2 then numB v.text&&v.date == 0&&(v.list.length:Int) == 0
 else if v.type == 3 then v.text == []&&(v.list.length:Int) == 0 else if v.type == 4 then v.text == []&&v.date == 0 else false
theorem c_sProper (v:Val) (ht:v.text.length<=2^30):RetS Tryz.prog W0 59 [v.enc] [] (.b (propV v)) []:=by
 have hn:=c_dValid W0 v.text (by omega)
 generalize hS:propV v=S
 unfold propV at hS
 refine fn_retW (vs:=[.b S]) f59ok (by simp) (by simp) fun n0 hn0=>?_
 clear hn0
 simp only [push_cast,seval,reduceEqDiff,Val.enc_eq,List.length_map]
 repeat' (first|(((first|apply condU_s|apply gdU_t|apply gdU_f)<;>intro _h)<;>simp only [push_cast,seval,reduceEqDiff,_h,Val.enc_eq,List.length_map])|(refine c_call (by exact hn) ?_;simp only [push_cast,seval,reduceEqDiff,Val.enc_eq,List.length_map])|intro _)
 all_goals (refine finW_ret ?_;simp only [get_cons,bq, *] at hS⊢;first|done|simp [<-hS, *])
theorem c_rProperV (v:Val) (ht:v.text.length<=2^30):RetS Tryz.prog W0 108 [v.enc] [] (.b (propV v)) []:=by
 have hn:=c_rdValid W0 v.text (by omega)
 generalize hS:propV v=S
 unfold propV at hS
 rcases (show v.type<1\/v.type=1\/v.type=2\/v.type=3\/v.type=4\/4<v.type by omega) with h|h|h|h|h|h
 ·have h1:decide (v.type<1)=true:=by simpa using h
  have e:∀k:Int,1<=k->(v.type == k)=false:=fun k hk=>beq_eq_false_iff_ne.2 (by omega)
  simp only [e 1 (by decide),e 2 (by decide),e 3 (by decide),e 4 (by decide),bq,if_true,if_false,Int.reduceBEq,reduceCtorEq] at hS
  subst hS
  refine fn_retW (vs:=[.b false]) f108ok (by simp) (by simp) fun n0 hn0=>?_
  clear hn0
  simp only [push_cast,seval,reduceEqDiff,Val.enc_eq,h1,e 1 (by decide),e 2 (by decide)]
  repeat' (first|(((first|apply condU_s|apply gdU_t|apply gdU_f)<;>intro _h)<;>simp only [push_cast,seval,reduceEqDiff,_h,Val.enc_eq,h1,e 1 (by decide),e 2 (by decide)])|intro _)
  all_goals (first|(refine finW_ret ?_;simp [get]<;>(intros;omega);done)|(refine finW_rets ?_;simp [push_cast,get];done)|skip)
 ·simp only [h,bq,if_true,if_false,Int.reduceBEq,reduceCtorEq,Int.reduceBEq] at hS
  refine fn_retW (vs:=[.b S]) f108ok (by simp) (by simp) fun n0 hn0=>?_
  clear hn0
  simp only [push_cast,seval,reduceEqDiff,Val.enc_eq,h,List.length_map,Int.reduceBEq,Int.reduceLT,Int.reduceLE]
  repeat' (first|(((first|apply condU_s|apply gdU_t|apply gdU_f)<;>intro _h)<;>simp only [push_cast,seval,reduceEqDiff,_h,Val.enc_eq,h,List.length_map,Int.reduceBEq,Int.reduceLT,Int.reduceLE])|(refine c_call (by exact hn) ?_;simp only [push_cast,seval,reduceEqDiff,Val.enc_eq,h,List.length_map,Int.reduceBEq,Int.reduceLT,Int.reduceLE])|intro _)
  all_goals subst hS
  all_goals (first|(refine finW_ret ?_;simp [get, *]<;>(intros;omega);done)|(refine finW_rets ?_;simp [push_cast,get, *];done)|skip)
 ·simp only [h,bq,if_true,if_false,Int.reduceBEq,reduceCtorEq,Int.reduceBEq] at hS
  generalize numB v.text=B at *
  cases B
  all_goals
   simp only [bq,if_true,if_false,Int.reduceBEq,reduceCtorEq] at hS
   refine fn_retW (vs:=[.b S]) f108ok (by simp) (by simp) fun n0 hn0=>?_
   clear hn0
   simp only [push_cast,seval,reduceEqDiff,Val.enc_eq,h,List.length_map,Int.reduceBEq,Int.reduceLT,Int.reduceLE]
   repeat' (first|(((first|apply condU_s|apply gdU_t|apply gdU_f)<;>intro _h)<;>simp only [push_cast,seval,reduceEqDiff,_h,Val.enc_eq,h,List.length_map,Int.reduceBEq,Int.reduceLT,Int.reduceLE])|(refine c_call (by exact hn) ?_;simp only [push_cast,seval,reduceEqDiff,Val.enc_eq,h,List.length_map,Int.reduceBEq,Int.reduceLT,Int.reduceLE])|intro _)
   all_goals subst hS
   all_goals (first|(refine finW_ret ?_;simp [get, *]<;>(intros;omega);done)|(refine finW_rets ?_;simp [push_cast,get, *];done)|skip)
 ·simp only [h,bq,if_true,if_false,Int.reduceBEq,reduceCtorEq,Int.reduceBEq] at hS
  refine fn_retW (vs:=[.b S]) f108ok (by simp) (by simp) fun n0 hn0=>?_
  clear hn0
  simp only [push_cast,seval,reduceEqDiff,Val.enc_eq,h,List.length_map,Int.reduceBEq,Int.reduceLT,Int.reduceLE]
  repeat' (first|(((first|apply condU_s|apply gdU_t|apply gdU_f)<;>intro _h)<;>simp only [push_cast,seval,reduceEqDiff,_h,Val.enc_eq,h,List.length_map,Int.reduceBEq,Int.reduceLT,Int.reduceLE])|(refine c_call (by exact hn) ?_;simp only [push_cast,seval,reduceEqDiff,Val.enc_eq,h,List.length_map,Int.reduceBEq,Int.reduceLT,Int.reduceLE])|intro _)
  all_goals subst hS
  all_goals (first|(refine finW_ret ?_;simp [get, *]<;>(intros;omega);done)|(refine finW_rets ?_;simp [push_cast,get, *];done)|skip)
 ·simp only [h,bq,if_true,if_false,Int.reduceBEq,reduceCtorEq,Int.reduceBEq] at hS
  refine fn_retW (vs:=[.b S]) f108ok (by simp) (by simp) fun n0 hn0=>?_
  clear hn0
  simp only [push_cast,seval,reduceEqDiff,Val.enc_eq,h,List.length_map,Int.reduceBEq,Int.reduceLT,Int.reduceLE]
  repeat' (first|(((first|apply condU_s|apply gdU_t|apply gdU_f)<;>intro _h)<;>simp only [push_cast,seval,reduceEqDiff,_h,Val.enc_eq,h,List.length_map,Int.reduceBEq,Int.reduceLT,Int.reduceLE])|(refine c_call (by exact hn) ?_;simp only [push_cast,seval,reduceEqDiff,Val.enc_eq,h,List.length_map,Int.reduceBEq,Int.reduceLT,Int.reduceLE])|intro _)
  all_goals subst hS
  all_goals (first|(refine finW_ret ?_;simp [get, *]<;>(intros;omega);done)|(refine finW_rets ?_;simp [push_cast,get, *];done)|skip)
 ·have h1:decide (v.type<1)=false:=by simp;omega
  have h4:decide (v.type>4)=true:=by simpa using h
  have e:∀k:Int,k<=4->(v.type == k)=false:=fun k hk=>beq_eq_false_iff_ne.2 (by omega)
  simp only [e 1 (by decide),e 2 (by decide),e 3 (by decide),e 4 (by decide),bq,if_true,if_false,Int.reduceBEq,reduceCtorEq] at hS
  subst hS
  refine fn_retW (vs:=[.b false]) f108ok (by simp) (by simp) fun n0 hn0=>?_
  clear hn0
  simp only [push_cast,seval,reduceEqDiff,Val.enc_eq,h1,h4,e 1 (by decide),e 2 (by decide)]
  repeat' (first|(((first|apply condU_s|apply gdU_t|apply gdU_f)<;>intro _h)<;>simp only [push_cast,seval,reduceEqDiff,_h,Val.enc_eq,h1,h4,e 1 (by decide),e 2 (by decide)])|intro _)
  all_goals (first|(refine finW_ret ?_;simp [get]<;>(intros;omega);done)|(refine finW_rets ?_;simp [push_cast,get];done)|skip)
def keyW (keys:List Bytes):List Bytes->Int
 | []=>IntKind.i64.wrap ((keys.length:Int)-1)
 | w::ws=>if idxI (fun x=>w == x) keys<0 then keyW keys ws else idxI (fun x=>w == x) keys
def wantK (l:Loc) (s:Sel) (v:Val):List Bytes:=if s.kind == 9 then [v.text] else [61::v.text,clsN l s.kind v.text]
def keyP (l:Loc) (s:Sel) (v:Val):Int:=keyW s.keys (wantK l s v)
set_option maxHeartbeats 4000000 in
theorem c_key (l:Loc) (s:Sel) (v:Val) (hr:(Loc.enc l).ok=true) (hrl:l.rest.length=11) (hb:wtRules l.card+wtRules l.ord<=2^24) (ht:v.text.length<=2^29) (hk:s.keys.length<=2^30) :
  RetS Tryz.prog W0 60 [l.enc,s.enc,v.enc] [] (.i .i64 (keyP l s v)) []:=by
 unfold keyP
 generalize hS:keyW s.keys (wantK l s v)=S
 refine fn_retW (vs:=[.i .i64 S]) f60ok (by simp) (by simp) fun n0 hn0=>?_
 clear hn0
 have hru:=c_rules W0 l s.kind hr
 have hwr:wtRules (rulesOf l s.kind)<=2^30:=by unfold rulesOf;split<;>omega
 have hcl:=c_class W0 (rulesOf l s.kind) v.text (by omega) hwr
 have hLE:=Loc.enc_eq l
 rw [hLE] at hru⊢
 unfold wantK clsN at hS
 generalize (classV (rulesOf l s.kind) v.text).1=CN at *
 generalize (classV (rulesOf l s.kind) v.text).2=CE at *
 unfold Sel.enc Val.enc
 have hsl:[(61:UInt8)].length+v.text.length<SLim:=by unfold SLim;simp;omega
 have hix:=fun w:Bytes=>indexS_ret W0 ixStr s.keys w (by omega)
 obtain ⟨r1,r2,r3,r4,r5,r6,r7,r8,r9,r10,r11,hrest⟩:=rest11 hrl
 rw [hrest] at hru⊢
 have hloop:∀(n:Nat) (W:List Bytes) (Q:Exit->St->Prop),W.length<=2->keyW s.keys W=S->
   (∀n,Q .ret ⟨[(6,.i .i64 S)],[((n0,5),.box (.agg [.s v.name,.i .i64 v.type,.s v.text,.i .i64 v.date,.sl (v.list.map V.s)])),((n0,4),.box (.agg [.i .i64 s.kind,.s s.name,.sl (s.keys.map V.s)])),((n0,3),.box (.agg [.s l.tag,.s l.parent,.s l.dir,.sl (l.card.map Rule.enc),.sl (l.ord.map Rule.enc),r1,r2,r3,r4,r5,r6,r7,r8,r9,r10,r11]))],n⟩)->
   (∀n,IntKind.i64.wrap ((s.keys.length:Int)-1)=S->Q (.exit 0) ⟨[(4,.ref (n0,4) 0),(34,.sl (W.map V.s)),(35,.i .i64 W.length),(36,.i .i64 W.length),(37,.b false)],[((n0,5),.box (.agg [.s v.name,.i .i64 v.type,.s v.text,.i .i64 v.date,.sl (v.list.map V.s)])),((n0,4),.box (.agg [.i .i64 s.kind,.s s.name,.sl (s.keys.map V.s)])),((n0,3),.box (.agg [.s l.tag,.s l.parent,.s l.dir,.sl (l.card.map Rule.enc),.sl (l.ord.map Rule.enc),r1,r2,r3,r4,r5,r6,r7,r8,r9,r10,r11]))],n⟩)->
   LoopW Tryz.prog W0 52 f60_16 Q ⟨[(4,.ref (n0,4) 0),(34,.sl (W.map V.s)),(35,.i .i64 W.length),(36,.i .i64 0)],[((n0,5),.box (.agg [.s v.name,.i .i64 v.type,.s v.text,.i .i64 v.date,.sl (v.list.map V.s)])),((n0,4),.box (.agg [.i .i64 s.kind,.s s.name,.sl (s.keys.map V.s)])),((n0,3),.box (.agg [.s l.tag,.s l.parent,.s l.dir,.sl (l.card.map Rule.enc),.sl (l.ord.map Rule.enc),r1,r2,r3,r4,r5,r6,r7,r8,r9,r10,r11]))],n⟩:=by
  intro n1 W Q hW hs hQr hQe
  refine aWP_loopW W.length (Inv:=fun m st=>∃done rest n,W=done++rest/\m=rest.length/\keyW s.keys rest=S/\st=⟨[(4,.ref (n0,4) 0),(34,.sl (W.map V.s)),(35,.i .i64 W.length),(36,.i .i64 done.length)],[((n0,5),.box (.agg [.s v.name,.i .i64 v.type,.s v.text,.i .i64 v.date,.sl (v.list.map V.s)])),((n0,4),.box (.agg [.i .i64 s.kind,.s s.name,.sl (s.keys.map V.s)])),((n0,3),.box (.agg [.s l.tag,.s l.parent,.s l.dir,.sl (l.card.map Rule.enc),.sl (l.ord.map Rule.enc),r1,r2,r3,r4,r5,r6,r7,r8,r9,r10,r11]))],n⟩) ⟨_,StLe.refl,[],W,_,rfl,rfl,hs,rfl⟩ ?_
  clear hs n1
  rintro m _ ⟨done,rest,n,hz,rfl,hs,rfl⟩
  cases rest with
  | nil=>
   simp only [push_cast,seval,reduceEqDiff,hz]
   intros
   rw [List.append_nil] at hz
   subst hz
   exact hQe _ hs
  | cons w rest=>
   have hbd:=zip_bd hz
   rw [keyW] at hs
   have hi:=hix w
   generalize idxI (fun x=>w == x) s.keys=I at *
   simp only [push_cast,seval,reduceEqDiff,hz,wrap_zip w (done:=done) (by omega)]
   repeat' (first|(((first|apply condU_s|apply gdU_t|apply gdU_f)<;>intro _h)<;>simp only [push_cast,seval,reduceEqDiff,_h,hz,wrap_zip w (done:=done) (by omega)])|(refine c_call (by exact hi) ?_;simp only [push_cast,seval,reduceEqDiff,hz,wrap_zip w (done:=done) (by omega)])|intro _)
   ·have hI:I>=0:=of_decide_eq_true _h
    rw [if_neg (by omega)] at hs
    subst hs
    exact hQr _
   ·have hI:¬I>=0:=of_decide_eq_false _h
    rw [if_pos (by omega)] at hs
    exact ⟨_,_,Nat.lt_succ_self _,StLe.refl,done++[w],rest,_,by simp,rfl,hs,rfl⟩
 cases hk9:(s.kind == 9) with
 | true=>
  have hkb:(s.kind != 9)=false:=by unfold bne;rw [hk9];rfl
  rw [hk9] at hS
  simp only [push_cast,seval,reduceEqDiff,hkb,List.length_map]
  intros
  refine hloop _ [v.text] _ (by simp) hS (fun n=>?_) (fun n hSS=>?_)
  ·exact finW_ret (by simp [get])
  ·simp only [push_cast,seval,reduceEqDiff,hkb,List.length_map]
   intros
   exact finW_ret (by simp [get,hSS])
 | false=>
  have hkb:(s.kind != 9)=true:=by unfold bne;rw [hk9];rfl
  rw [hk9] at hS
  simp only [push_cast,seval,reduceEqDiff,hkb,eq_true hsl,List.length_map]
  repeat' (first|(((first|apply condU_s|apply gdU_t|apply gdU_f)<;>intro _h)<;>simp only [push_cast,seval,reduceEqDiff,_h,hkb,eq_true hsl,List.length_map])|((first|refine c_call (by exact hru) ?_|refine c_call (by exact hcl) ?_|refine jp_i (by simp only [List.length_append,List.length_cons,List.length_nil,SLim]<;>omega) ?_);simp only [push_cast,seval,reduceEqDiff,hkb,eq_true hsl,List.length_map])|intro _)
  refine hloop _ [61::v.text,CN] _ (by simp) hS (fun n=>?_) (fun n hSS=>?_)
  ·exact finW_ret (by simp [get])
  ·simp only [push_cast,seval,reduceEqDiff,hkb,eq_true hsl,List.length_map]
   intros
   exact finW_ret (by simp [get,hSS])
set_option maxHeartbeats 4000000 in
theorem c_rKeyI (l:Loc) (s:Sel) (v:Val) (hr:(Loc.enc l).ok=true) (hrl:l.rest.length=11) (hb:wtRules l.card+wtRules l.ord<=2^24) (ht:v.text.length<=2^29) (hk:s.keys.length<=2^30) :
  RetS Tryz.prog W0 63 [l.enc,s.enc,v.enc] [] (.i .i64 (keyP l s v)) []:=by
 unfold keyP
 generalize hS:keyW s.keys (wantK l s v)=S
 refine fn_retW (vs:=[.i .i64 S]) f63ok (by simp) (by simp) fun n0 hn0=>?_
 clear hn0
 have hru:=c_rRules W0 l s.kind hr
 have hwr:wtRules (rulesOf l s.kind)<=2^30:=by unfold rulesOf;split<;>omega
 have hcl:=c_rClassN W0 (rulesOf l s.kind) v.text (by omega) hwr
 have hLE:=Loc.enc_eq l
 rw [hLE] at hru⊢
 unfold wantK clsN at hS
 generalize (classV (rulesOf l s.kind) v.text).1=CN at *
 generalize (classV (rulesOf l s.kind) v.text).2=CE at *
 unfold Sel.enc Val.enc
 have hsl:[(61:UInt8)].length+v.text.length<SLim:=by unfold SLim;simp;omega
 have hix:=fun w:Bytes=>indexS_ret W0 ixStr s.keys w (by omega)
 obtain ⟨r1,r2,r3,r4,r5,r6,r7,r8,r9,r10,r11,hrest⟩:=rest11 hrl
 rw [hrest] at hru⊢
 have hloop:∀(n:Nat) (W:List Bytes) (Q:Exit->St->Prop),W.length<=2->keyW s.keys W=S->
   (∀n,Q .ret ⟨[(6,.i .i64 S)],[((n0,5),.box (.agg [.s v.name,.i .i64 v.type,.s v.text,.i .i64 v.date,.sl (v.list.map V.s)])),((n0,4),.box (.agg [.i .i64 s.kind,.s s.name,.sl (s.keys.map V.s)])),((n0,3),.box (.agg [.s l.tag,.s l.parent,.s l.dir,.sl (l.card.map Rule.enc),.sl (l.ord.map Rule.enc),r1,r2,r3,r4,r5,r6,r7,r8,r9,r10,r11]))],n⟩)->
   (∀n,IntKind.i64.wrap ((s.keys.length:Int)-1)=S->Q (.exit 0) ⟨[(4,.ref (n0,4) 0),(7,.sl (W.map V.s)),(10,.i .i64 W.length),(36,.b false)],[((n0,5),.box (.agg [.s v.name,.i .i64 v.type,.s v.text,.i .i64 v.date,.sl (v.list.map V.s)])),((n0,4),.box (.agg [.i .i64 s.kind,.s s.name,.sl (s.keys.map V.s)])),((n0,3),.box (.agg [.s l.tag,.s l.parent,.s l.dir,.sl (l.card.map Rule.enc),.sl (l.ord.map Rule.enc),r1,r2,r3,r4,r5,r6,r7,r8,r9,r10,r11]))],n⟩)->
   LoopW Tryz.prog W0 61 f63_16 Q ⟨[(4,.ref (n0,4) 0),(7,.sl (W.map V.s)),(10,.i .i64 0)],[((n0,5),.box (.agg [.s v.name,.i .i64 v.type,.s v.text,.i .i64 v.date,.sl (v.list.map V.s)])),((n0,4),.box (.agg [.i .i64 s.kind,.s s.name,.sl (s.keys.map V.s)])),((n0,3),.box (.agg [.s l.tag,.s l.parent,.s l.dir,.sl (l.card.map Rule.enc),.sl (l.ord.map Rule.enc),r1,r2,r3,r4,r5,r6,r7,r8,r9,r10,r11]))],n⟩:=by
  intro n1 W Q hW hs hQr hQe
  refine aWP_loopW W.length (Inv:=fun m st=>∃done rest n,W=done++rest/\m=rest.length/\keyW s.keys rest=S/\st=⟨[(4,.ref (n0,4) 0),(7,.sl (W.map V.s)),(10,.i .i64 done.length)],[((n0,5),.box (.agg [.s v.name,.i .i64 v.type,.s v.text,.i .i64 v.date,.sl (v.list.map V.s)])),((n0,4),.box (.agg [.i .i64 s.kind,.s s.name,.sl (s.keys.map V.s)])),((n0,3),.box (.agg [.s l.tag,.s l.parent,.s l.dir,.sl (l.card.map Rule.enc),.sl (l.ord.map Rule.enc),r1,r2,r3,r4,r5,r6,r7,r8,r9,r10,r11]))],n⟩) ⟨_,StLe.refl,[],W,_,rfl,rfl,hs,rfl⟩ ?_
  clear hs n1
  rintro m _ ⟨done,rest,n,hz,rfl,hs,rfl⟩
  cases rest with
  | nil=>
   simp only [push_cast,seval,reduceEqDiff,hz]
   intros
   rw [List.append_nil] at hz
   subst hz
   exact hQe _ hs
  | cons w rest=>
   have hbd:=zip_bd hz
   rw [keyW] at hs
   simp only [push_cast,seval,reduceEqDiff,hz]
   intros
   refine aWP_loopW s.keys.length (Inv:=fun m st=>∃cd cr n,s.keys=cd++cr/\m=cr.length/\idxI (fun x=>w == x) s.keys=(if idxI (fun x=>w == x) cr<0 then -1 else idxI (fun x=>w == x) cr+cd.length)/\st=⟨[(4,.ref (n0,4) 0),(7,.sl ((done++w::rest).map V.s)),(10,.i .i64 done.length),(11,.i .i64 cd.length)],[((n0,5),.box (.agg [.s v.name,.i .i64 v.type,.s v.text,.i .i64 v.date,.sl (v.list.map V.s)])),((n0,4),.box (.agg [.i .i64 s.kind,.s s.name,.sl (s.keys.map V.s)])),((n0,3),.box (.agg [.s l.tag,.s l.parent,.s l.dir,.sl (l.card.map Rule.enc),.sl (l.ord.map Rule.enc),r1,r2,r3,r4,r5,r6,r7,r8,r9,r10,r11]))],n⟩) ⟨_,StLe.refl,[],s.keys,_,rfl,rfl,?_,rfl⟩ ?_
   ·have:=idxI_lo (fun x=>w == x) s.keys
    simp;omega
   rintro m _ ⟨cd,cr,n2,hcz,rfl,hd,rfl⟩
   cases cr with
   | nil=>
    have hlt0:decide ((cd.length:Int)<(s.keys.length:Int))=false:=by rw [hcz];simp
    rw [if_pos (by rw [hd];simp [idxI])] at hs
    simp only [push_cast,seval,reduceEqDiff,hlt0,wrap_zip w (done:=done) (by omega),List.length_map]
    intros
    exact ⟨_,_,Nat.lt_succ_self _,StLe.refl,done++[w],rest,_,by simp,rfl,hs,rfl⟩
   | cons c cr=>
    have hcb:=zip_bd hcz
    have hlt0:decide ((cd.length:Int)<(s.keys.length:Int))=true:=by simp;omega
    have hget:(s.keys.map V.s)[cd.length]? = some (.s c):=by
     rw [hcz,List.getElem?_map,List.getElem?_append_right (by simp)];simp
    simp only [push_cast,seval,reduceEqDiff,hlt0,hget,if_pos hcb,wrap_zip c (done:=cd) (by omega),List.length_map]
    repeat' (first|(((first|apply condU_s|apply gdU_t|apply gdU_f)<;>intro _h)<;>simp only [push_cast,seval,reduceEqDiff,_h,hlt0,hget,if_pos hcb,wrap_zip c (done:=cd) (by omega),List.length_map])|intro _)
    ·have hcw:(w == c)=true:=by rw [Bool.beq_comm];exact _h
     have hS2:S=(cd.length:Int):=by
      have h0:idxI (fun x=>w == x) (c::cr)=0:=by simp [idxI,hcw]
      rw [hd,h0,if_neg (by decide:¬((0:Int)<0)),Int.zero_add,if_neg (by omega)] at hs
      exact hs.symm
     rw [<-hS2]
     exact hQr _
    ·have hcw:(w == c)=false:=by rw [Bool.beq_comm];exact _h
     refine ⟨_,_,Nat.lt_succ_self _,StLe.refl,cd++[c],cr,_,by rw [hcz];simp,rfl,?_,rfl⟩
     rw [hd]
     have hlo:=idxI_lo (fun x=>w == x) cr
     simp only [idxI,hcw,cond_false]
     by_cases h:idxI (fun x=>w == x) cr<0
     ·simp [h]
     ·simp [h];rw [if_neg (by omega)];omega
 cases hk9:(s.kind == 9) with
 | true=>
  have hkb:(s.kind != 9)=false:=by unfold bne;rw [hk9];rfl
  rw [hk9] at hS
  simp only [push_cast,seval,reduceEqDiff,hkb,List.length_map]
  intros
  refine hloop _ [v.text] _ (by simp) hS (fun n=>?_) (fun n hSS=>?_)
  ·exact finW_ret (by simp [get])
  ·simp only [push_cast,seval,reduceEqDiff,hkb,List.length_map]
   intros
   exact finW_ret (by simp [get,hSS])
 | false=>
  have hkb:(s.kind != 9)=true:=by unfold bne;rw [hk9];rfl
  rw [hk9] at hS
  simp only [push_cast,seval,reduceEqDiff,hkb,eq_true hsl,List.length_map]
  repeat' (first|(((first|apply condU_s|apply gdU_t|apply gdU_f)<;>intro _h)<;>simp only [push_cast,seval,reduceEqDiff,_h,hkb,eq_true hsl,List.length_map])|((first|refine c_call (by exact hru) ?_|refine c_call (by exact hcl) ?_|refine jp_i (by simp only [List.length_append,List.length_cons,List.length_nil,SLim]<;>omega) ?_);simp only [push_cast,seval,reduceEqDiff,hkb,eq_true hsl,List.length_map])|intro _)
  refine hloop _ [61::v.text,CN] _ (by simp) hS (fun n=>?_) (fun n hSS=>?_)
  ·exact finW_ret (by simp [get])
  ·simp only [push_cast,seval,reduceEqDiff,hkb,eq_true hsl,List.length_map]
   intros
   exact finW_ret (by simp [get,hSS])
def selV (kind:Int) (name:Bytes) (vs:List Val):Option Val × Int:=
 match getV vs name with
 | none=>(none,12)
 | some v=>if !propV v||v.type != (if kind == 9 then 1 else 2) then (none,11) else (some v,0)
theorem c_rValueOf (kind:Int) (name:Bytes) (vs:List Val) (hl:vs.length<=2^40) (ht:∀v∈vs,v.text.length<=2^29):RetS Tryz.prog W0 62 [.i .i64 kind,.s name,.sl (vs.map Val.enc)] [] (.tup [gV (selV kind name vs).1,.i .i64 (selV kind name vs).2]) []:=by
 have hg:=c_rGetV W0 vs name hl
 generalize hS:selV kind name vs=S
 unfold selV at hS
 refine fn_retW (vs:=[gV S.1,.i .i64 S.2]) f62ok (by simp) (by simp) fun n0 hn0=>?_
 clear hn0
 cases hv:getV vs name with
 | none=>
  rw [hv] at hg hS
  simp only at hS
  subst hS
  unfold getR gV val0 at hg
  simp only [Option.isSome_none] at hg
  simp only [push_cast,seval,reduceEqDiff]
  repeat' (first|(((first|apply condU_s|apply gdU_t|apply gdU_f)<;>intro _h)<;>simp only [push_cast,seval,reduceEqDiff,_h])|(refine c_call (by exact hg) ?_;simp only [push_cast,seval,reduceEqDiff])|intro _)
  all_goals (refine finW_rets ?_;simp [push_cast,get,gV,val0])
 | some v=>
  have hp:=c_rProperV W0 v (by have:=ht v (getV_mem hv);omega)
  rw [hv] at hg hS
  simp only at hS
  unfold getR gV at hg
  simp only [Option.isSome_some] at hg
  rw [Val.enc_eq] at hg hp
  cases hk:kind == 9
  all_goals
   rw [hk] at hS
   simp only [bq,if_true,if_false,Int.reduceBEq,reduceCtorEq] at hS
   simp only [push_cast,seval,reduceEqDiff,hk]
   repeat' (first|(((first|apply condU_s|apply gdU_t|apply gdU_f)<;>intro _h)<;>simp only [push_cast,seval,reduceEqDiff,_h,hk])|((first|refine c_call (by exact hg) ?_|refine c_call (by exact hp) ?_);simp only [push_cast,seval,reduceEqDiff,hk])|intro _)
  all_goals (simp only [*,bq,if_true,if_false,Int.reduceBEq,reduceCtorEq] at hS)
  all_goals (subst hS;refine finW_rets ?_;simp [push_cast,get,gV,val0,Val.enc_eq])
def selGo (l:Loc) (vs:List Val):List Sel->Int->Int × Int
 | [],n=>(n,0)
 | s::L,n=>match (selV s.kind s.name vs).1 with
  | none=>(0,(selV s.kind s.name vs).2)
  | some v=>selGo l vs L (IntKind.i64.wrap (IntKind.i64.wrap (n*(s.keys.length:Int))+keyP l s v))
theorem zipE {s:Sel} {done rest L:List Sel} (h:L=done++s::rest):(L.map Sel.enc)[done.length]? = some (.agg [.i .i64 s.kind,.s s.name,.sl (s.keys.map V.s)]):=by
 rw [h,List.getElem?_map,List.getElem?_append_right (by simp)];simp [Sel.enc]
set_option maxHeartbeats 4000000 in
theorem c_Select (l:Loc) (f:FormP) (vs:List Val) (hrl:l.rest.length=11) (hb:wtRules l.card+wtRules l.ord<=2^24) (h1:f.1.length<=2^26) (hk:∀s∈f.1,s.keys.length<=2^26/\s.name.length<=2^30)
  (hl:vs.length<=2^40) (ht:∀v∈vs,v.text.length<=2^29/\v.list.length<=2^30) :
  RetS Tryz.prog W0 20 [l.enc,formV f,.sl (vs.map Val.enc)] [] (.tup [.i .i64 (if !soundP f then (0,1) else if !rulesF [] l.card||!rulesF [] l.ord then (0,18) else selGo l vs f.1 0).1,.i .i64 (if !soundP f then (0,1) else if !rulesF [] l.card||!rulesF [] l.ord then (0,18) else selGo l vs f.1 0).2]) []:=by
 have hso:=c_Sound W0 f h1 hk
 have hva:=c_pValid W0 l.card (by omega)
 have hvb:=c_pValid W0 l.ord (by omega)
 have hke:=fun s v (h2:v.text.length<=2^29) (h3:s.keys.length<=2^30)=>c_key W0 l s v rfl hrl hb h2 h3
 obtain ⟨L,VS⟩:=f
 simp only at h1 hk
 obtain ⟨r1,r2,r3,r4,r5,r6,r7,r8,r9,r10,r11,hrest⟩:=rest11 hrl
 have hLV:l.enc = .agg [.s l.tag,.s l.parent,.s l.dir,.sl (l.card.map Rule.enc),.sl (l.ord.map Rule.enc),r1,r2,r3,r4,r5,r6,r7,r8,r9,r10,r11]:=by
  rw [Loc.enc_eq,hrest]
 rw [hLV] at hke⊢
 generalize hS:(if !soundP (L,VS) then ((0,1):Int × Int) else if !rulesF [] l.card||!rulesF [] l.ord then (0,18) else selGo l vs L 0)=S
 generalize soundP (L,VS)=SP at *
 unfold formV at hso⊢
 simp only at hso⊢
 generalize rulesF [] l.card=RC at *
 generalize rulesF [] l.ord=RO at *
 refine fn_retW (vs:=[.i .i64 S.1,.i .i64 S.2]) f20ok (by simp) (by simp) fun n0 hn0=>?_
 clear hn0
 cases SP
 ·simp only [bq,if_true,if_false,Int.reduceBEq,reduceCtorEq] at hS
  subst hS
  simp only [push_cast,seval,reduceEqDiff]
  repeat' (first|(((first|apply condU_s|apply gdU_t|apply gdU_f)<;>intro _h)<;>simp only [push_cast,seval,reduceEqDiff,_h])|(refine c_call (by exact hso) ?_;simp only [push_cast,seval,reduceEqDiff])|intro _)
  all_goals (refine finW_rets ?_;simp [push_cast,get])
 cases RC
 ·simp only [bq,if_true,if_false,Int.reduceBEq,reduceCtorEq] at hS
  subst hS
  simp only [push_cast,seval,reduceEqDiff]
  repeat' (first|(((first|apply condU_s|apply gdU_t|apply gdU_f)<;>intro _h)<;>simp only [push_cast,seval,reduceEqDiff,_h])|((first|refine c_call (by exact hso) ?_|refine c_call (by exact hva) ?_);simp only [push_cast,seval,reduceEqDiff])|intro _)
  all_goals (refine finW_rets ?_;simp [push_cast,get])
 cases RO
 ·simp only [bq,if_true,if_false,Int.reduceBEq,reduceCtorEq] at hS
  subst hS
  simp only [push_cast,seval,reduceEqDiff]
  repeat' (first|(((first|apply condU_s|apply gdU_t|apply gdU_f)<;>intro _h)<;>simp only [push_cast,seval,reduceEqDiff,_h])|((first|refine c_call (by exact hso) ?_|refine c_call (by exact hva) ?_|refine c_call (by exact hvb) ?_);simp only [push_cast,seval,reduceEqDiff])|intro _)
  all_goals (refine finW_rets ?_;simp [push_cast,get])
 simp only [bq,if_true,if_false,Int.reduceBEq,reduceCtorEq] at hS
 simp only [push_cast,seval,reduceEqDiff,List.length_map]
 repeat' (first|(((first|apply condU_s|apply gdU_t|apply gdU_f)<;>intro _h)<;>simp only [push_cast,seval,reduceEqDiff,_h,List.length_map])|((first|refine c_call (by exact hso) ?_|refine c_call (by exact hva) ?_|refine c_call (by exact hvb) ?_);simp only [push_cast,seval,reduceEqDiff,List.length_map])|intro _)
 clear hso hva hvb
 refine aWP_loopW L.length (Inv:=fun m st=>∃done rest n a,L=done++rest/\m=rest.length/\selGo l vs rest a=S/\n0<n/\st=⟨[(2,.sl (vs.map Val.enc)),(3,.ref (n0,3) 0),(8,.i .i64 a),(28,.sl (L.map Sel.enc)),(29,.i .i64 L.length),(30,.i .i64 done.length)],[((n0,4),.box (.agg [.sl (L.map Sel.enc),.sl (VS.map vEnc)])),((n0,3),.box (.agg [.s l.tag,.s l.parent,.s l.dir,.sl (l.card.map Rule.enc),.sl (l.ord.map Rule.enc),r1,r2,r3,r4,r5,r6,r7,r8,r9,r10,r11]))],n⟩) ⟨_,StLe.refl,[],L,_,0,rfl,rfl,hS,by (try simp only);omega,rfl⟩ ?_
 clear hS
 rintro m _ ⟨done,rest,n,a,hz,rfl,hd,hn,rfl⟩
 cases rest with
 | nil=>
  have hlt0:decide ((done.length:Int)<(L.length:Int))=false:=by rw [hz];simp
  simp only [selGo] at hd
  subst hd
  simp only [push_cast,seval,reduceEqDiff,hlt0]
  intros
  refine finW_rets ?_
  simp [push_cast,get]
 | cons s rest=>
  have hlt0:decide ((done.length:Int)<(L.length:Int))=true:=by rw [hz];simp;omega
  have hbd:=zip_bd hz
  have hget:=zipE hz
  obtain ⟨hks,hns⟩:=hk s (by rw [hz];simp)
  have hg:=c_getVal W0 vs s.name hl (fun v hv=>(ht v hv).2)
  rw [selGo] at hd
  unfold selV at hd
  have f1:∀k j q:Nat,((n+1+k,j)=(n0,q))=False:=fun k j q=>eq_false fun he=>by injection he with h1 h2;omega
  have f1':∀k j q:Nat,((n0,q)=(n+1+k,j))=False:=fun k j q=>eq_false fun he=>of_eq_false (f1 k j q) he.symm
  cases hv:getV vs s.name with
  | none=>
   rw [hv] at hg hd
   unfold getR gV val0 at hg
   simp only [Option.isSome_none] at hg
   simp only at hd
   subst hd
   simp only [push_cast,seval,reduceEqDiff,hlt0,hget,if_pos hbd,List.length_map,f1,f1']
   repeat' (first|(((first|apply condU_s|apply gdU_t|apply gdU_f)<;>intro _h)<;>simp only [push_cast,seval,reduceEqDiff,_h,hlt0,hget,if_pos hbd,List.length_map,f1,f1'])|(refine c_call (by exact hg) ?_;simp only [push_cast,seval,reduceEqDiff,hlt0,hget,if_pos hbd,List.length_map,f1,f1'])|intro _)
   all_goals (refine finW_rets ?_;simp [push_cast,get])
  | some v=>
   have htv:=ht v (getV_mem hv)
   have hp:=c_sProper W0 v (by omega)
   have hkk:=hke s v htv.1 (by omega)
   rw [hv] at hg hd
   simp only at hd
   unfold getR gV at hg
   simp only [Option.isSome_some] at hg
   rw [Val.enc_eq] at hg hp hkk
   unfold Sel.enc at hkk
   generalize propV v=PV at *
   generalize hKP:keyP l s v=KP at *
   cases PV with
   | false=>
    simp only [bq,if_true,if_false,Int.reduceBEq,reduceCtorEq] at hd
    subst hd
    cases hk9:s.kind == 9
    all_goals
     simp only [push_cast,seval,reduceEqDiff,hlt0,hget,if_pos hbd,List.length_map,f1,f1',hk9]
     repeat' (first|(((first|apply condU_s|apply gdU_t|apply gdU_f)<;>intro _h)<;>simp only [push_cast,seval,reduceEqDiff,_h,hlt0,hget,if_pos hbd,List.length_map,f1,f1',hk9])|((first|refine c_call (by exact hg) ?_|refine c_call (by exact hp) ?_);simp only [push_cast,seval,reduceEqDiff,hlt0,hget,if_pos hbd,List.length_map,f1,f1',hk9])|intro _)
     all_goals (refine finW_rets ?_;simp [push_cast,get])
   | true=>
    cases hk9:s.kind == 9
    all_goals
     rw [hk9] at hd
     simp only [bq,if_true,if_false,Int.reduceBEq,reduceCtorEq] at hd
     simp only [push_cast,seval,reduceEqDiff,hlt0,hget,if_pos hbd,List.length_map,f1,f1',hk9,wrap_zip s (done:=done) (by omega)]
     repeat' (first|(((first|apply condU_s|apply gdU_t|apply gdU_f)<;>intro _h)<;>simp only [push_cast,seval,reduceEqDiff,_h,hlt0,hget,if_pos hbd,List.length_map,f1,f1',hk9,wrap_zip s (done:=done) (by omega)])|((first|refine c_call (by exact hg) ?_|refine c_call (by exact hp) ?_|refine c_call (by exact hkk) ?_);simp only [push_cast,seval,reduceEqDiff,hlt0,hget,if_pos hbd,List.length_map,f1,f1',hk9,wrap_zip s (done:=done) (by omega)])|intro _)
     ·have _g:=_h
      simp only [_g,if_true] at hd
      subst hd
      refine finW_rets ?_
      simp [push_cast,get]
     ·have _g:=_h
      simp only [_g,Bool.false_eq_true,if_false,hKP] at hd
      exact ⟨_,_,Nat.lt_succ_self _,(StLe.drop1 (by simp [lk]) (Nat.le_refl _)).trans (StLe.drop1 (by simp [lk]) (Nat.le_refl _)),done++[s],rest,_,_,by rw [hz];simp,rfl,hd,by omega,rfl⟩
theorem find_lt {p:Sel->Bool}:∀{d:List Sel},d.any p=true->∀r,0<=idxI p (d++r)/\idxI p (d++r)<d.length:=by
 intro d
 induction d with
 | nil=>intro h;simp at h
 | cons x d ih=>
  intro h r
  rw [List.cons_append]
  cases hx:p x with
  | true=>simp only [idxI,hx,cond_true,List.length_cons];omega
  | false=>
   rw [List.any_cons,hx,Bool.false_or] at h
   have:=ih h r
   simp only [idxI,hx,cond_false,List.length_cons]
   rw [if_neg (by omega)];omega
theorem find_at {p:Sel->Bool} {s:Sel} (hs:p s=true):∀{d:List Sel},d.any p=false->∀r,idxI p (d++s::r)=d.length:=by
 intro d
 induction d with
 | nil=>intro _ r;simp [idxI,hs]
 | cons x d ih=>
  intro h r
  rw [List.any_cons,Bool.or_eq_false_iff] at h
  rw [List.cons_append]
  have:=ih h.2 r
  simp only [idxI,h.1,cond_false,List.length_cons,this]
  rw [if_neg (by omega)];omega
theorem find_first (d:List Sel) (s:Sel) (r:List Sel):(findI (d++s::r) s.kind s.name != (d.length:Int))=d.any (selIs s.kind s.name):=by
 unfold findI
 cases h:d.any (selIs s.kind s.name) with
 | true=>
  have:=find_lt h (s::r)
  rw [bne_iff_ne];omega
 | false=>
  rw [find_at (by simp [selIs]) h];simp
theorem sound_keys:∀(l d:List Sel),soundGo d l=true->∀s∈l,s.keys≠[]:=by
 intro l
 induction l with
 | nil=>intro d _ s hs;cases hs
 | cons x l ih=>
  intro d h s hs
  rw [soundGo] at h
  simp only [Bool.and_eq_true] at h
  rcases List.mem_cons.1 hs with rfl|hs
  ·have h1:=h.1
   unfold headS lastOther at h1
   intro h0
   rw [h0] at h1
   simp at h1
  ·exact ih _ h.2.2.2 s hs
theorem sound_same (f:FormP):(soundGo [] f.1&&(decide ((combR 1 f.1:Int)<=400)&&((f.2.length:Int) == (combR 1 f.1:Int))))=soundP f:=by
 unfold soundP
 cases h:soundGo [] f.1 with
 | false=>rfl
 | true=>
  rcases comb_same f.1 (sound_keys _ _ h) 1 (by decide) with ⟨h1,h2⟩|⟨h1,h2⟩
  ·rw [h2]
  ·have e1:decide ((combR 1 f.1:Int)<=400)=false:=by simp;omega
   have e2:decide ((combP 1 f.1:Int)<=400)=false:=by simp;omega
   rw [e1,e2];rfl
set_option maxHeartbeats 4000000 in
theorem c_rSound (f:FormP) (h1:f.1.length<=2^26) (hk:∀s∈f.1,s.keys.length<=2^26/\s.name.length<=2^30):RetS Tryz.prog W0 23 [formV f] [] (.b (soundP f)) []:=by
 rw [<-sound_same]
 obtain ⟨L,VS⟩:=f
 simp only at h1 hk⊢
 have hco:=c_rComb W0 L (by omega) (fun s hs=>by have:=(hk s hs).1;omega)
 unfold formV
 simp only
 generalize combR 1 L=CB at *
 generalize hT:(decide ((CB:Int)<=400)&&((VS.length:Int) == (CB:Int)))=T
 generalize hS:(soundGo [] L&&T)=S
 refine fn_retW (vs:=[.b S]) f23ok (by simp) (by simp) fun n0 hn0=>?_
 clear hn0
 simp only [push_cast,seval,reduceEqDiff,List.length_map]
 intros
 refine aWP_loopW L.length (Inv:=fun m st=>∃done rest n,L=done++rest/\m=rest.length/\(soundGo done rest&&T)=S/\n0<n/\st=⟨[(1,.ref (n0,1) 0),(3,.i .i64 done.length)],[((n0,1),.box (.agg [.sl (L.map Sel.enc),.sl (VS.map vEnc)]))],n⟩) ⟨_,StLe.refl,[],L,_,rfl,rfl,hS,by (try simp only);omega,rfl⟩ ?_
 clear hS
 rintro m _ ⟨done,rest,n,hz,rfl,hd,hn,rfl⟩
 cases rest with
 | nil=>
  have hlt0:decide ((done.length:Int)<(L.length:Int))=false:=by rw [hz];simp
  rw [soundGo,Bool.true_and] at hd
  subst hd
  simp only [push_cast,seval,reduceEqDiff,hlt0,List.length_map]
  repeat' (first|(((first|apply condU_s|apply gdU_t|apply gdU_f)<;>intro _h)<;>simp only [push_cast,seval,reduceEqDiff,_h,hlt0,List.length_map])|(refine c_call (by exact hco) ?_;simp only [push_cast,seval,reduceEqDiff,hlt0,List.length_map])|intro _)
  all_goals (refine finW_ret ?_;simp only [<-hT];simp [get, *])
 | cons s rest=>
  have hlt0:decide ((done.length:Int)<(L.length:Int))=true:=by rw [hz];simp;omega
  have hbd:=zip_bd hz
  obtain ⟨hks,hns⟩:=hk s (by rw [hz];simp)
  have hget:=zipE hz
  have hsel:=c_rSel W0 s.kind
  have hnm:=c_rName W0 s.name (by unfold SLim;omega)
  have hfi:=c_rFindS W0 s.kind s.name L (by omega)
  have hff:=find_first done s rest
  rw [<-hz] at hff
  generalize findI L s.kind s.name=FI at *
  rw [soundGo] at hd
  unfold headS at hd
  have f1:∀k j q:Nat,((n+1+k,j)=(n0,q))=False:=fun k j q=>eq_false fun he=>by injection he with h1 h2;omega
  have f1':∀k j q:Nat,((n0,q)=(n+1+k,j))=False:=fun k j q=>eq_false fun he=>of_eq_false (f1 k j q) he.symm
  cases hs:selB s.kind with
  | false=>
   rw [hs] at hd hsel
   simp only [Bool.false_and] at hd
   subst hd
   simp only [push_cast,seval,reduceEqDiff,hlt0,hget,if_pos hbd,f1,f1',List.length_map]
   repeat' (first|(((first|apply condU_s|apply gdU_t|apply gdU_f)<;>intro _h)<;>simp only [push_cast,seval,reduceEqDiff,_h,hlt0,hget,if_pos hbd,f1,f1',List.length_map])|(refine c_call (by exact hsel) ?_;simp only [push_cast,seval,reduceEqDiff,hlt0,hget,if_pos hbd,f1,f1',List.length_map])|intro _)
   exact finW_ret (by simp [get])
  | true=>
  cases hm:nameB s.name with
  | false=>
   rw [hs] at hd hsel
   rw [hm] at hd hnm
   simp only [Bool.false_and,Bool.true_and] at hd
   subst hd
   simp only [push_cast,seval,reduceEqDiff,hlt0,hget,if_pos hbd,f1,f1',List.length_map]
   repeat' (first|(((first|apply condU_s|apply gdU_t|apply gdU_f)<;>intro _h)<;>simp only [push_cast,seval,reduceEqDiff,_h,hlt0,hget,if_pos hbd,f1,f1',List.length_map])|((first|refine c_call (by exact hsel) ?_|refine c_call (by exact hnm) ?_);simp only [push_cast,seval,reduceEqDiff,hlt0,hget,if_pos hbd,f1,f1',List.length_map])|intro _)
   exact finW_ret (by simp [get])
  | true=>
  rw [hs] at hd hsel
  rw [hm] at hd hnm
  rcases last_cases s.keys with ⟨hk0,hlo⟩|⟨kd0,kl,hk0,hlo⟩
  ·rw [hlo] at hd
   simp only [Bool.false_and,Bool.true_and] at hd
   subst hd
   simp only [push_cast,seval,reduceEqDiff,hlt0,hget,if_pos hbd,f1,f1',List.length_map,hk0,List.map_nil,List.length_nil]
   repeat' (first|(((first|apply condU_s|apply gdU_t|apply gdU_f)<;>intro _h)<;>simp only [push_cast,seval,reduceEqDiff,_h,hlt0,hget,if_pos hbd,f1,f1',List.length_map,hk0,List.map_nil,List.length_nil])|((first|refine c_call (by exact hsel) ?_|refine c_call (by exact hnm) ?_);simp only [push_cast,seval,reduceEqDiff,hlt0,hget,if_pos hbd,f1,f1',List.length_map,hk0,List.map_nil,List.length_nil])|intro _)
   exact finW_ret (by simp [get])
  ·have hkl:s.keys.length=kd0.length+1:=by rw [hk0];simp
   have hne:((s.keys.length:Int) == 0)=false:=by rw [hkl];simp;omega
   have hw1:IntKind.i64.wrap ((s.keys.length:Int)-1)=(kd0.length:Int):=by rw [wrap64 (by omega) (by omega)];omega
   have hgl:(s.keys.map V.s)[kd0.length]? = some (.s kl):=by rw [hk0,List.getElem?_map];simp
   have hltk:kd0.length<s.keys.length:=by omega
   cases hlk:(kl == kOtherS) with
   | false=>
    have hbk:(kl == [111,116,104,101,114])=false:=hlk
    rw [hlo,hlk] at hd
    simp only [Bool.false_and,Bool.true_and] at hd
    subst hd
    simp only [push_cast,seval,reduceEqDiff,hlt0,hget,if_pos hbd,f1,f1',List.length_map,hne,hw1,hgl,if_pos hltk,hbk]
    repeat' (first|(((first|apply condU_s|apply gdU_t|apply gdU_f)<;>intro _h)<;>simp only [push_cast,seval,reduceEqDiff,_h,hlt0,hget,if_pos hbd,f1,f1',List.length_map,hne,hw1,hgl,if_pos hltk,hbk])|((first|refine c_call (by exact hsel) ?_|refine c_call (by exact hnm) ?_);simp only [push_cast,seval,reduceEqDiff,hlt0,hget,if_pos hbd,f1,f1',List.length_map,hne,hw1,hgl,if_pos hltk,hbk])|intro _)
    exact finW_ret (by simp [get])
   | true=>
    have hbk:(kl == [111,116,104,101,114])=true:=hlk
    rw [hlo,hlk] at hd
    simp only [Bool.true_and] at hd
    generalize done.any (selIs s.kind s.name)=AN at *
    cases AN with
    | true=>
     simp only [bq,if_true,if_false,Int.reduceBEq,reduceCtorEq] at hd
     subst hd
     simp only [push_cast,seval,reduceEqDiff,hlt0,hget,if_pos hbd,f1,f1',List.length_map,hne,hw1,hgl,if_pos hltk,hbk,hff]
     repeat' (first|(((first|apply condU_s|apply gdU_t|apply gdU_f)<;>intro _h)<;>simp only [push_cast,seval,reduceEqDiff,_h,hlt0,hget,if_pos hbd,f1,f1',List.length_map,hne,hw1,hgl,if_pos hltk,hbk,hff])|((first|refine c_call (by exact hsel) ?_|refine c_call (by exact hnm) ?_|refine c_call (by exact hfi) ?_);simp only [push_cast,seval,reduceEqDiff,hlt0,hget,if_pos hbd,f1,f1',List.length_map,hne,hw1,hgl,if_pos hltk,hbk,hff])|intro _)
     exact finW_ret (by simp [get])
    | false=>
    simp only [bq,if_true,if_false,Int.reduceBEq,reduceCtorEq] at hd
    simp only [push_cast,seval,reduceEqDiff,hlt0,hget,if_pos hbd,f1,f1',List.length_map,hne,hw1,hgl,if_pos hltk,hbk,hff]
    repeat' (first|(((first|apply condU_s|apply gdU_t|apply gdU_f)<;>intro _h)<;>simp only [push_cast,seval,reduceEqDiff,_h,hlt0,hget,if_pos hbd,f1,f1',List.length_map,hne,hw1,hgl,if_pos hltk,hbk,hff])|((first|refine c_call (by exact hsel) ?_|refine c_call (by exact hnm) ?_|refine c_call (by exact hfi) ?_);simp only [push_cast,seval,reduceEqDiff,hlt0,hget,if_pos hbd,f1,f1',List.length_map,hne,hw1,hgl,if_pos hltk,hbk,hff])|intro _)
    rename_i b1 b2 b3 b4
    have hx:n<n+1+b1/\n+1+b1<n+1+b1+1+b2+1+b3+1+b4:=by omega
    generalize n+1+b1+1+b2+1+b3+1+b4=n2 at *
    generalize n+1+b1=x0 at *
    obtain ⟨hx1,hx2⟩:=hx
    have g1:∀j q:Nat,((x0,j)=(n0,q))=False:=fun j q=>eq_false fun he=>by injection he with h1 h2;omega
    have g1':∀j q:Nat,((n0,q)=(x0,j))=False:=fun j q=>eq_false fun he=>of_eq_false (g1 j q) he.symm
    clear hk0 hlo hkl hne hw1 hgl hltk hbk hlk hsel hnm f1 f1'
    refine aWP_loopW s.keys.length (Inv:=fun m st=>∃kd kr n,s.keys=kd++kr/\m=kr.length/\(nodupK kd kr&&soundGo (done++[s]) rest&&T)=S/\x0<n/\st=⟨[(1,.ref (n0,1) 0),(3,.i .i64 done.length),(4,.ref (x0,4) 0),(5,.i .i64 kd.length)],[((x0,4),.box (.agg [.i .i64 s.kind,.s s.name,.sl (s.keys.map V.s)])),((n0,1),.box (.agg [.sl (L.map Sel.enc),.sl (VS.map vEnc)]))],n⟩) ⟨_,StLe.refl,[],s.keys,_,rfl,rfl,hd,hx2,rfl⟩ ?_
    clear hd
    rintro m _ ⟨kd,kr,n3,hkz,rfl,hd,hn3,rfl⟩
    cases kr with
    | nil=>
     have hlt1:decide ((kd.length:Int)<(s.keys.length:Int))=false:=by rw [hkz];simp
     rw [nodupK,Bool.true_and] at hd
     simp only [push_cast,seval,reduceEqDiff,hlt1,List.length_map,g1,g1',wrap_zip s (done:=done) (by omega)]
     intros
     exact ⟨_,_,Nat.lt_succ_self _,StLe.drop1 (by simp [lk,g1']) (Nat.le_refl _),done++[s],rest,_,by rw [hz];simp,rfl,hd,by omega,rfl⟩
    | cons key kr=>
     have hlt1:decide ((kd.length:Int)<(s.keys.length:Int))=true:=by rw [hkz];simp;omega
     have hkb:=zip_bd hkz
     rw [nodupK] at hd
     have hgk:(s.keys.map V.s)[kd.length]? = some (.s key):=by rw [hkz,List.getElem?_map,List.getElem?_append_right (by simp)];simp
     have htk:(if 0<=kd.length/\kd.length<=s.keys.length then some (V.sl (List.take kd.length (s.keys.map V.s))) else none)=some (V.sl (kd.map V.s)):=by
      rw [if_pos ⟨Nat.zero_le _,by omega⟩,hkz];simp
     have hcel:∀y∈s.keys.map V.s,(cells y).length=1:=fun y hy=>by obtain ⟨x,_,rfl⟩:=List.mem_map.1 hy;rfl
     have hin:=c_In W0 kd key (by omega)
     cases hc:kd.contains key with
     | true=>
      rw [hc] at hd hin
      simp only [bq,if_true,if_false,Int.reduceBEq,reduceCtorEq] at hd
      subst hd
      simp only [push_cast,seval,reduceEqDiff,hlt1,List.length_map,g1,g1',htk,hgk,if_pos hkb,eq_true hcel]
      repeat' (first|(((first|apply condU_s|apply gdU_t|apply gdU_f)<;>intro _h)<;>simp only [push_cast,seval,reduceEqDiff,_h,hlt1,List.length_map,g1,g1',htk,hgk,if_pos hkb,eq_true hcel])|(refine c_call (by exact hin) ?_;simp only [push_cast,seval,reduceEqDiff,hlt1,List.length_map,g1,g1',htk,hgk,if_pos hkb,eq_true hcel])|intro _)
      exact finW_ret (by simp [get])
     | false=>
      rw [hc] at hd hin
      simp only [bq,if_true,if_false,Int.reduceBEq,reduceCtorEq] at hd
      simp only [push_cast,seval,reduceEqDiff,hlt1,List.length_map,g1,g1',htk,hgk,if_pos hkb,eq_true hcel,wrap_zip key (done:=kd) (by omega)]
      repeat' (first|(((first|apply condU_s|apply gdU_t|apply gdU_f)<;>intro _h)<;>simp only [push_cast,seval,reduceEqDiff,_h,hlt1,List.length_map,g1,g1',htk,hgk,if_pos hkb,eq_true hcel,wrap_zip key (done:=kd) (by omega)])|(refine c_call (by exact hin) ?_;simp only [push_cast,seval,reduceEqDiff,hlt1,List.length_map,g1,g1',htk,hgk,if_pos hkb,eq_true hcel,wrap_zip key (done:=kd) (by omega)])|intro _)
      exact ⟨_,_,Nat.lt_succ_self _,StLe.refl,kd++[key],kr,_,by rw [hkz];simp,rfl,hd,by omega,rfl⟩
theorem selV_cases (kind:Int) (name:Bytes) (vs:List Val):(∃e,selV kind name vs=(none,e)/\(e != 0)=true)\/∃v,selV kind name vs=(some v,0)/\v∈vs:=by
 unfold selV
 cases h:getV vs name with
 | none=>left;exact ⟨12,rfl,rfl⟩
 | some v=>
  simp only
  by_cases hc:(!propV v||v.type != (if kind == 9 then 1 else 2))=true
  ·left;exact ⟨11,by rw [if_pos hc],rfl⟩
  ·right;exact ⟨v,by rw [if_neg hc],getV_mem h⟩
set_option maxHeartbeats 4000000 in
theorem c_rSelect (l:Loc) (f:FormP) (vs:List Val) (hrl:l.rest.length=11) (hb:wtRules l.card+wtRules l.ord<=2^24) (h1:f.1.length<=2^26) (hk:∀s∈f.1,s.keys.length<=2^26/\s.name.length<=2^30)
  (hl:vs.length<=2^40) (ht:∀v∈vs,v.text.length<=2^29/\v.list.length<=2^30) :
  RetS Tryz.prog W0 22 [l.enc,formV f,.sl (vs.map Val.enc)] [] (.tup [.i .i64 (if !soundP f then (0,1) else if !rulesF [] l.card||!rulesF [] l.ord then (0,18) else selGo l vs f.1 0).1,.i .i64 (if !soundP f then (0,1) else if !rulesF [] l.card||!rulesF [] l.ord then (0,18) else selGo l vs f.1 0).2]) []:=by
 have hso:=c_rSound W0 f h1 hk
 have hva:=c_rRulesV W0 l.card (by omega)
 have hvb:=c_rRulesV W0 l.ord (by omega)
 have hke:=fun s v (h2:v.text.length<=2^29) (h3:s.keys.length<=2^30)=>c_rKeyI W0 l s v rfl hrl hb h2 h3
 obtain ⟨L,VS⟩:=f
 simp only at h1 hk
 obtain ⟨r1,r2,r3,r4,r5,r6,r7,r8,r9,r10,r11,hrest⟩:=rest11 hrl
 have hLV:l.enc = .agg [.s l.tag,.s l.parent,.s l.dir,.sl (l.card.map Rule.enc),.sl (l.ord.map Rule.enc),r1,r2,r3,r4,r5,r6,r7,r8,r9,r10,r11]:=by
  rw [Loc.enc_eq,hrest]
 rw [hLV] at hke⊢
 generalize hS:(if !soundP (L,VS) then ((0,1):Int × Int) else if !rulesF [] l.card||!rulesF [] l.ord then (0,18) else selGo l vs L 0)=S
 generalize soundP (L,VS)=SP at *
 unfold formV at hso⊢
 simp only at hso⊢
 generalize rulesF [] l.card=RC at *
 generalize rulesF [] l.ord=RO at *
 refine fn_retW (vs:=[.i .i64 S.1,.i .i64 S.2]) f22ok (by simp) (by simp) fun n0 hn0=>?_
 clear hn0
 cases SP
 ·simp only [bq,if_true,if_false,Int.reduceBEq,reduceCtorEq] at hS
  subst hS
  simp only [push_cast,seval,reduceEqDiff]
  repeat' (first|(((first|apply condU_s|apply gdU_t|apply gdU_f)<;>intro _h)<;>simp only [push_cast,seval,reduceEqDiff,_h])|(refine c_call (by exact hso) ?_;simp only [push_cast,seval,reduceEqDiff])|intro _)
  all_goals (refine finW_rets ?_;simp [push_cast,get])
 cases RC
 ·simp only [bq,if_true,if_false,Int.reduceBEq,reduceCtorEq] at hS
  subst hS
  simp only [push_cast,seval,reduceEqDiff]
  repeat' (first|(((first|apply condU_s|apply gdU_t|apply gdU_f)<;>intro _h)<;>simp only [push_cast,seval,reduceEqDiff,_h])|((first|refine c_call (by exact hso) ?_|refine c_call (by exact hva) ?_);simp only [push_cast,seval,reduceEqDiff])|intro _)
  all_goals (refine finW_rets ?_;simp [push_cast,get])
 cases RO
 ·simp only [bq,if_true,if_false,Int.reduceBEq,reduceCtorEq] at hS
  subst hS
  simp only [push_cast,seval,reduceEqDiff]
  repeat' (first|(((first|apply condU_s|apply gdU_t|apply gdU_f)<;>intro _h)<;>simp only [push_cast,seval,reduceEqDiff,_h])|((first|refine c_call (by exact hso) ?_|refine c_call (by exact hva) ?_|refine c_call (by exact hvb) ?_);simp only [push_cast,seval,reduceEqDiff])|intro _)
  all_goals (refine finW_rets ?_;simp [push_cast,get])
 simp only [bq,if_true,if_false,Int.reduceBEq,reduceCtorEq] at hS
 simp only [push_cast,seval,reduceEqDiff,List.length_map]
 repeat' (first|(((first|apply condU_s|apply gdU_t|apply gdU_f)<;>intro _h)<;>simp only [push_cast,seval,reduceEqDiff,_h,List.length_map])|((first|refine c_call (by exact hso) ?_|refine c_call (by exact hva) ?_|refine c_call (by exact hvb) ?_);simp only [push_cast,seval,reduceEqDiff,List.length_map])|intro _)
 clear hso hva hvb
 refine aWP_loopW L.length (Inv:=fun m st=>∃done rest n a,L=done++rest/\m=rest.length/\selGo l vs rest a=S/\n0<n/\st=⟨[(2,.sl (vs.map Val.enc)),(3,.ref (n0,3) 0),(4,.ref (n0,4) 0),(8,.i .i64 a),(9,.i .i64 done.length)],[((n0,4),.box (.agg [.sl (L.map Sel.enc),.sl (VS.map vEnc)])),((n0,3),.box (.agg [.s l.tag,.s l.parent,.s l.dir,.sl (l.card.map Rule.enc),.sl (l.ord.map Rule.enc),r1,r2,r3,r4,r5,r6,r7,r8,r9,r10,r11]))],n⟩) ⟨_,StLe.refl,[],L,_,0,rfl,rfl,hS,by (try simp only);omega,rfl⟩ ?_
 clear hS
 rintro m _ ⟨done,rest,n,a,hz,rfl,hd,hn,rfl⟩
 cases rest with
 | nil=>
  have hlt0:decide ((done.length:Int)<(L.length:Int))=false:=by rw [hz];simp
  simp only [selGo] at hd
  subst hd
  simp only [push_cast,seval,reduceEqDiff,hlt0,List.length_map]
  intros
  refine finW_rets ?_
  simp [push_cast,get]
 | cons s rest=>
  have hlt0:decide ((done.length:Int)<(L.length:Int))=true:=by rw [hz];simp;omega
  have hbd:=zip_bd hz
  have hget:=zipE hz
  obtain ⟨hks,hns⟩:=hk s (by rw [hz];simp)
  have hg:=c_rValueOf W0 s.kind s.name vs hl (fun v hv=>(ht v hv).1)
  rw [selGo] at hd
  have f1:∀k j q:Nat,((n+1+k,j)=(n0,q))=False:=fun k j q=>eq_false fun he=>by injection he with h1 h2;omega
  have f1':∀k j q:Nat,((n0,q)=(n+1+k,j))=False:=fun k j q=>eq_false fun he=>of_eq_false (f1 k j q) he.symm
  rcases selV_cases s.kind s.name vs with ⟨e,he,hne⟩|⟨v,he,hm⟩
  ·rw [he] at hg hd
   unfold gV val0 at hg
   simp only at hg hd
   subst hd
   simp only [push_cast,seval,reduceEqDiff,hlt0,hget,if_pos hbd,List.length_map,f1,f1',hne]
   repeat' (first|(((first|apply condU_s|apply gdU_t|apply gdU_f)<;>intro _h)<;>simp only [push_cast,seval,reduceEqDiff,_h,hlt0,hget,if_pos hbd,List.length_map,f1,f1',hne])|(refine c_call (by exact hg) ?_;simp only [push_cast,seval,reduceEqDiff,hlt0,hget,if_pos hbd,List.length_map,f1,f1',hne])|intro _)
   all_goals (refine finW_rets ?_;simp [push_cast,get])
  ·have htv:=ht v hm
   have hkk:=hke s v htv.1 (by omega)
   rw [he] at hg hd
   unfold gV at hg
   simp only at hg hd
   rw [Val.enc_eq] at hg hkk
   unfold Sel.enc at hkk
   generalize keyP l s v=KP at *
   simp only [push_cast,seval,reduceEqDiff,hlt0,hget,if_pos hbd,List.length_map,f1,f1',wrap_zip s (done:=done) (by omega)]
   repeat' (first|(((first|apply condU_s|apply gdU_t|apply gdU_f)<;>intro _h)<;>simp only [push_cast,seval,reduceEqDiff,_h,hlt0,hget,if_pos hbd,List.length_map,f1,f1',wrap_zip s (done:=done) (by omega)])|((first|refine c_call (by exact hg) ?_|refine c_call (by exact hkk) ?_);simp only [push_cast,seval,reduceEqDiff,hlt0,hget,if_pos hbd,List.length_map,f1,f1',wrap_zip s (done:=done) (by omega)])|intro _)
   exact ⟨_,_,Nat.lt_succ_self _,(StLe.drop1 (by simp [lk]) (Nat.le_refl _)).trans (StLe.drop1 (by simp [lk]) (Nat.le_refl _)),done++[s],rest,_,_,by rw [hz];simp,rfl,hd,by omega,rfl⟩
def fewKs:List Bytes->Bool
 | []=>true
 | k::r=>!decide ((k.length:Int)>60)&&fewKs r
def fewSel:List Sel->Bool
 | []=>true
 | s::r=>!(decide ((s.keys.length:Int)>12)||decide ((s.name.length:Int)>60))&&(fewKs s.keys&&fewSel r)
def fewVs (e:Bool):List (List Part)->Int->Bool
 | [],n=>e&&decide (n<=3000)
 | v::r,n=>!decide ((depthPs v:Int)>12)&&fewVs e r (IntKind.i64.wrap (n+IntKind.i64.wrap (1+(sizePs v:Int))))
def fewFormB (f:FormP):Bool:=fewSel f.1&&fewVs (decide ((f.1.length:Int)<=6)&&decide ((f.2.length:Int)<=410)) f.2 0
set_option maxHeartbeats 4000000 in
theorem c_fewForm (f:FormP) (h1:f.1.length<=2^26) (h2:f.2.length<=2^26) (hk:∀s∈f.1,s.keys.length<=2^26) (hw:∀v∈f.2,wtPs v<=2^24):RetS Tryz.prog W0 18 [formV f] [] (.b (fewFormB f)) []:=by
 obtain ⟨L,VS⟩:=f
 simp only at h1 h2 hk hw
 unfold formV fewFormB
 simp only
 generalize hE:(decide ((L.length:Int)<=6)&&decide ((VS.length:Int)<=410))=E
 generalize hS:(fewSel L&&fewVs E VS 0)=S
 refine fn_retW (vs:=[.b S]) f18ok (by simp) (by simp) fun n0 hn0=>?_
 clear hn0
 simp only [push_cast,seval,reduceEqDiff,List.length_map]
 intros
 refine aWP_loopW L.length (Inv:=fun m st=>∃done rest n,L=done++rest/\m=rest.length/\(fewSel rest&&fewVs E VS 0)=S/\st=⟨[(1,.ref (n0,1) 0),(3,.i .i64 0),(4,.i .i64 done.length)],[((n0,1),.box (.agg [.sl (L.map Sel.enc),.sl (VS.map vEnc)]))],n⟩) ⟨_,StLe.refl,[],L,_,rfl,rfl,hS,rfl⟩ ?_
 clear hS
 rintro m _ ⟨done,rest,n,hz,rfl,hd,rfl⟩
 cases rest with
 | nil=>
  have hlt0:decide ((done.length:Int)<(L.length:Int))=false:=by rw [hz];simp
  rw [fewSel,Bool.true_and] at hd
  simp only [push_cast,seval,reduceEqDiff,hlt0,List.length_map]
  intros
  refine aWP_loopW VS.length (Inv:=fun m st=>∃vd vr n a,VS=vd++vr/\m=vr.length/\fewVs E vr a=S/\st=⟨[(1,.ref (n0,1) 0),(3,.i .i64 a),(6,.i .i64 vd.length)],[((n0,1),.box (.agg [.sl (L.map Sel.enc),.sl (VS.map vEnc)]))],n⟩) ⟨_,StLe.refl,[],VS,_,0,rfl,rfl,hd,rfl⟩ ?_
  clear hd
  rintro m _ ⟨vd,vr,n2,a,hvz,rfl,hd,rfl⟩
  cases vr with
  | nil=>
   have hlt1:decide ((vd.length:Int)<(VS.length:Int))=false:=by rw [hvz];simp
   rw [fewVs] at hd
   subst hd
   clear hz hvz h1 h2 hk hw
   simp only [push_cast,seval,reduceEqDiff,hlt1,List.length_map]
   repeat' (first|(((first|apply condU_s|apply gdU_t|apply gdU_f)<;>intro _h)<;>simp only [push_cast,seval,reduceEqDiff,_h,hlt1,List.length_map])|intro _)
   all_goals (simp only [*,bq,if_true,if_false,Int.reduceBEq,reduceCtorEq] at hE;subst hE;exact finW_ret (by simp [get]))
  | cons v vr=>
   have hlt1:decide ((vd.length:Int)<(VS.length:Int))=true:=by rw [hvz];simp;omega
   have hvb:=zip_bd hvz
   have hget:(VS.map vEnc)[vd.length]? = some (.sl (v.map Part.enc)):=by
    rw [hvz,List.getElem?_map,List.getElem?_append_right (by simp)];simp [vEnc]
   have hwv:=hw v (by rw [hvz];simp)
   have hsz:=c_size W0 _ v (Nat.lt_succ_self _) hwv
   have hdp:=c_depth W0 _ v (Nat.lt_succ_self _) hwv
   rw [fewVs] at hd
   simp only [push_cast,seval,reduceEqDiff,hlt1,hget,if_pos hvb,wrap_zip v (done:=vd) (by omega),List.length_map]
   repeat' (first|(((first|apply condU_s|apply gdU_t|apply gdU_f)<;>intro _h)<;>simp only [push_cast,seval,reduceEqDiff,_h,hlt1,hget,if_pos hvb,wrap_zip v (done:=vd) (by omega),List.length_map])|((first|refine c_call (by exact hsz) ?_|refine c_call (by exact hdp) ?_);simp only [push_cast,seval,reduceEqDiff,hlt1,hget,if_pos hvb,wrap_zip v (done:=vd) (by omega),List.length_map])|intro _)
   ·have _g:=_h
    simp only [_g,bq,if_true,if_false,Int.reduceBEq,reduceCtorEq] at hd
    subst hd
    exact finW_ret (by simp [get])
   ·have _g:=_h
    simp only [_g,bq,if_true,if_false,Int.reduceBEq,reduceCtorEq] at hd
    exact ⟨_,_,Nat.lt_succ_self _,StLe.refl,vd++[v],vr,_,_,by rw [hvz];simp,rfl,hd,rfl⟩
 | cons s rest=>
  have hlt0:decide ((done.length:Int)<(L.length:Int))=true:=by rw [hz];simp;omega
  have hbd:=zip_bd hz
  have hget:=zipE hz
  have hks:=hk s (by rw [hz];simp)
  rw [fewSel] at hd
  simp only [push_cast,seval,reduceEqDiff,hlt0,hget,if_pos hbd,List.length_map]
  repeat' (first|(((first|apply condU_s|apply gdU_t|apply gdU_f)<;>intro _h)<;>simp only [push_cast,seval,reduceEqDiff,_h,hlt0,hget,if_pos hbd,List.length_map])|intro _)
  all_goals (try (simp only [*,bq,if_true,if_false,Int.reduceBEq,reduceCtorEq] at hd;subst hd;exact finW_ret (by simp [get])))
  have g1:decide ((s.keys.length:Int)>12)=false:=by assumption
  have g2:decide ((s.name.length:Int)>60)=false:=by assumption
  simp only [g1,g2,bq,if_true,if_false,Int.reduceBEq,reduceCtorEq] at hd
  refine aWP_loopW s.keys.length (Inv:=fun m st=>∃kd kr n,s.keys=kd++kr/\m=kr.length/\(fewKs kr&&fewSel rest&&fewVs E VS 0)=S/\st=⟨[(1,.ref (n0,1) 0),(3,.i .i64 0),(4,.i .i64 done.length),(5,.i .i64 kd.length)],[((n0,1),.box (.agg [.sl (L.map Sel.enc),.sl (VS.map vEnc)]))],n⟩) ⟨_,StLe.refl,[],s.keys,_,rfl,rfl,hd,rfl⟩ ?_
  clear hd
  rintro m _ ⟨kd,kr,n2,hkz,rfl,hd,rfl⟩
  cases kr with
  | nil=>
   have hlt1:decide ((kd.length:Int)<(s.keys.length:Int))=false:=by rw [hkz];simp
   rw [fewKs,Bool.true_and] at hd
   simp only [push_cast,seval,reduceEqDiff,hlt1,hget,if_pos hbd,List.length_map,wrap_zip s (done:=done) (by omega)]
   intros
   exact ⟨_,_,Nat.lt_succ_self _,StLe.refl,done++[s],rest,_,by rw [hz];simp,rfl,hd,rfl⟩
  | cons k kr=>
   have hlt1:decide ((kd.length:Int)<(s.keys.length:Int))=true:=by rw [hkz];simp;omega
   have hkb:=zip_bd hkz
   have hgk:(s.keys.map V.s)[kd.length]? = some (.s k):=by rw [hkz,List.getElem?_map,List.getElem?_append_right (by simp)];simp
   rw [fewKs] at hd
   simp only [push_cast,seval,reduceEqDiff,hlt1,hget,if_pos hbd,hgk,if_pos hkb,List.length_map,wrap_zip k (done:=kd) (by omega)]
   repeat' (first|(((first|apply condU_s|apply gdU_t|apply gdU_f)<;>intro _h)<;>simp only [push_cast,seval,reduceEqDiff,_h,hlt1,hget,if_pos hbd,hgk,if_pos hkb,List.length_map,wrap_zip k (done:=kd) (by omega)])|intro _)
   ·have _g:=_h
    simp only [_g,bq,if_true,if_false,Int.reduceBEq,reduceCtorEq] at hd
    subst hd
    exact finW_ret (by simp [get])
   ·have _g:=_h
    simp only [_g,bq,if_true,if_false,Int.reduceBEq,reduceCtorEq] at hd
    exact ⟨_,_,Nat.lt_succ_self _,StLe.refl,kd++[k],kr,_,by rw [hkz];simp,rfl,hd,rfl⟩
def maxL:List Bytes->Int->Int
 | [],n=>n
 | x::r,n=>maxL r (max n (x.length:Int))
def fewVals (e:Bool):List Val->Bool
 | []=>e
 | v::r=>!(decide (maxL v.list (v.text.length:Int)>200)||decide ((v.list.length:Int)>12)||decide ((v.name.length:Int)>60))&&fewVals e r
set_option maxHeartbeats 4000000 in
theorem c_fewVals (vs:List Val) (hl:vs.length<=2^40) (hw:∀v∈vs,v.list.length<=2^40):RetS Tryz.prog W0 19 [.sl (vs.map Val.enc)] [] (.b (fewVals (decide ((vs.length:Int)<=30)) vs)) []:=by
 generalize hE:decide ((vs.length:Int)<=30)=E
 generalize hS:fewVals E vs=S
 refine fn_retW (vs:=[.b S]) f19ok (by simp) (by simp) fun n0 hn0=>?_
 clear hn0
 simp only [push_cast,seval,reduceEqDiff]
 intros
 refine aWP_loopW vs.length (Inv:=fun m st=>∃done rest n,vs=done++rest/\m=rest.length/\fewVals E rest=S/\st=⟨[(0,.sl (vs.map Val.enc)),(3,.i .i64 done.length)],[],n⟩) ⟨_,StLe.refl,[],vs,_,rfl,rfl,hS,rfl⟩ ?_
 clear hS
 rintro m _ ⟨done,rest,n,hz,rfl,hd,rfl⟩
 cases rest with
 | nil=>
  have hlt0:decide ((done.length:Int)<(vs.length:Int))=false:=by rw [hz];simp
  rw [fewVals] at hd
  simp only [push_cast,seval,reduceEqDiff,hlt0,List.length_map,hE]
  intros
  exact finW_ret (by simp [get,hd])
 | cons v rest=>
  have hlt0:decide ((done.length:Int)<(vs.length:Int))=true:=by rw [hz];simp;omega
  have hbd:=zip_bd hz
  have hget:(vs.map Val.enc)[done.length]? = some (.agg [.s v.name,.i .i64 v.type,.s v.text,.i .i64 v.date,.sl (v.list.map V.s)]):=by
   rw [hz,List.getElem?_map,List.getElem?_append_right (by simp)];simp [Val.enc_eq]
  have hwv:=hw v (by rw [hz];simp)
  rw [fewVals] at hd
  simp only [push_cast,seval,reduceEqDiff,hlt0,hget,if_pos hbd,List.length_map]
  intros
  refine aWP_loopW v.list.length (Inv:=fun m st=>∃kd kr n a,v.list=kd++kr/\m=kr.length/\maxL v.list (v.text.length:Int)=maxL kr a/\st=⟨[(0,.sl (vs.map Val.enc)),(3,.i .i64 done.length),(4,.i .i64 a),(5,.i .i64 kd.length)],[],n⟩) ⟨_,StLe.refl,[],v.list,_,_,rfl,rfl,rfl,rfl⟩ ?_
  rintro m _ ⟨kd,kr,n2,a,hkz,rfl,hm,rfl⟩
  cases kr with
  | nil=>
   have hlt1:decide ((kd.length:Int)<(v.list.length:Int))=false:=by rw [hkz];simp
   rw [maxL] at hm
   rw [hm] at hd
   simp only [push_cast,seval,reduceEqDiff,hlt1,hget,if_pos hbd,List.length_map,wrap_zip v (done:=done) (by omega)]
   clear hm hkz
   repeat' (first|(((first|apply condU_s|apply gdU_t|apply gdU_f)<;>intro _h)<;>simp only [push_cast,seval,reduceEqDiff,_h,hlt1,hget,if_pos hbd,List.length_map,wrap_zip v (done:=done) (by omega)])|intro _)
   all_goals (first|(simp only [*,bq,if_true,if_false,Int.reduceBEq,reduceCtorEq] at hd;subst hd;exact finW_ret (by simp [get]))|skip)
   have g1:decide ((v.list.length:Int)>12)=false:=by assumption
   have g2:decide ((v.name.length:Int)>60)=false:=by assumption
   have g3:decide (a>200)=false:=by assumption
   simp only [g1,g2,g3,bq,if_true,if_false,Int.reduceBEq,reduceCtorEq] at hd
   exact ⟨_,_,Nat.lt_succ_self _,StLe.refl,done++[v],rest,_,by rw [hz];simp,rfl,hd,rfl⟩
  | cons k kr=>
   have hlt1:decide ((kd.length:Int)<(v.list.length:Int))=true:=by rw [hkz];simp;omega
   have hkb:=zip_bd hkz
   have hgk:(v.list.map V.s)[kd.length]? = some (.s k):=by rw [hkz,List.getElem?_map,List.getElem?_append_right (by simp)];simp
   rw [maxL] at hm
   simp only [push_cast,seval,reduceEqDiff,hlt1,hget,if_pos hbd,hgk,if_pos hkb,List.length_map,wrap_zip k (done:=kd) (by omega)]
   intros
   exact ⟨_,_,Nat.lt_succ_self _,StLe.refl,kd++[k],kr,_,_,by rw [hkz];simp,rfl,hm,rfl⟩
def sSp (lo:Option Id) (L:List Sel):Sto:=match lo with
 | none=>[]
 | some id=>[(id,.arr TS 3 (L.map Sel.enc))]
set_option maxHeartbeats 4000000 in
theorem c_formP (f:FormP) (h1:f.1.length<=2^30):RetS Tryz.prog W0 21 [formV f] [] (formV f) []:=by
 obtain ⟨L,VS⟩:=f
 simp only at h1
 unfold formV
 simp only
 refine fn_retW (vs:=[.agg [.sl (L.map Sel.enc),.sl (VS.map vEnc)]]) f21ok (by simp) (by simp) fun n0 hn0=>?_
 clear hn0
 simp only [push_cast,seval,reduceEqDiff]
 intro k1 k2 k3
 have hm:n0<n0+1+k1/\n0+1+k1<n0+1+k1+1+k2+1+k3:=by omega
 generalize n0+1+k1+1+k2+1+k3=n1 at *
 generalize n0+1+k1=m1 at *
 have f3:∀q j:Nat,((m1,j)=(n0,q))=False:=fun q j=>eq_false fun he=>by injection he with h1 h2;omega
 have f3':∀q j:Nat,((n0,q)=(m1,j))=False:=fun q j=>eq_false fun he=>of_eq_false (f3 q j) he.symm
 refine aWP_loopW L.length (Inv:=fun m st=>∃done rest n lo,L=done++rest/\m=rest.length/\(lo=none->done=[])/\(∀id,lo=some id->m1<id.1/\id.1<n)/\m1<n/\st=⟨[(1,.ref (n0,1) 0),(2,.ref (n0,2) 0),(3,.ref (m1,3) 0),(4,.i .i64 done.length)],((m1,3),.box (.agg [sv lo,.sl (VS.map vEnc)]))::(sSp lo done++[((n0,2),.box (.agg [.nil,.nil])),((n0,1),.box (.agg [.sl (L.map Sel.enc),.sl (VS.map vEnc)]))]),n⟩) ⟨_,StLe.refl,[],L,_,none,rfl,rfl,fun _=>rfl,(fun _ h=>by cases h),hm.2,rfl⟩ ?_
 rintro m _ ⟨done,rest,n,lo,hz,rfl,hlo,hld,hmn,rfl⟩
 cases lo with
 | none=>
  have hd0:=hlo rfl
  subst hd0
  have hsv:sv none = .nil:=rfl
  have hss:sSp none []=[]:=rfl
  rw [hss,List.nil_append]
  cases rest with
  | nil=>
   rw [List.nil_append] at hz
   subst hz
   simp only [push_cast,seval,reduceEqDiff,f3,f3',hsv,List.map_nil,List.length_nil]
   intros
   exact finBox (id:=(n0,2)) rfl (by simp [lk,f3,sv]) (fun _=>none) (fun _ _ h=>by cases h) (vle_form1 [] _ none (fun _=>rfl) (fun _ h=>by cases h)) rfl rfl rfl rfl
  | cons s rest=>
   have hlt0:decide ((0:Int)<(L.length:Int))=true:=by rw [hz];simp<;>omega
   have hbd:0<L.length:=by rw [hz];simp
   have hget:(L.map Sel.enc)[0]? = some s.enc:=by rw [hz];rfl
   have e1:∀k j q:Nat,((n+1+k,j)=(n0,q))=False:=fun k j q=>eq_false fun he=>by injection he with h1 h2;omega
   have e1':∀k j q:Nat,((n0,q)=(n+1+k,j))=False:=fun k j q=>eq_false fun he=>of_eq_false (e1 k j q) he.symm
   have e2:∀k j q:Nat,((n+1+k,j)=(m1,q))=False:=fun k j q=>eq_false fun he=>by injection he with h1 h2;omega
   have e2':∀k j q:Nat,((m1,q)=(n+1+k,j))=False:=fun k j q=>eq_false fun he=>of_eq_false (e2 k j q) he.symm
   have hw1:IntKind.i64.wrap 1=1:=rfl
   simp only [push_cast,seval,reduceEqDiff,hlt0,hget,if_pos hbd,List.length_map,f3,f3',hsv,List.length_nil,e1,e1',e2,e2',eq_true (show 1<=LLim by decide),hw1]
   intro k1 k2 k3
   refine ⟨_,⟨_,[((m1,3),.box (.agg [.arr (n+1+k1,23),.sl (VS.map vEnc)])),((n+1+k1,23),.arr TS 3 ([s].map Sel.enc)),((n0,2),.box (.agg [.nil,.nil])),((n0,1),.box (.agg [.sl (L.map Sel.enc),.sl (VS.map vEnc)]))],_⟩,Nat.lt_succ_self _,StLe.sub ?_ ?_ (Nat.le_refl _),[s],rest,_,some (n+1+k1,23),by rw [hz];simp,rfl,(fun h=>by cases h),?_,?_,rfl⟩
   ·simp [e1,e2,f3]
   ·intro p hp
    simp at hp⊢
    rcases hp with h|h|h|h<;>simp [h,TS,Sel.enc_eq]
   ·intro id h;cases h;exact ⟨by simp only;omega,by simp only;omega⟩
   ·omega
 | some id=>
  obtain ⟨hi1,hi2⟩:=hld id rfl
  have hsv:sv (some id) = .arr id:=rfl
  have hss:sSp (some id) done=[(id,.arr TS 3 (done.map Sel.enc))]:=rfl
  rw [hss]
  have d1:∀k j:Nat,((n+1+k,j)=id)=False:=fun k j=>eq_false fun he=>by rw [<-he] at hi2;simp at hi2;omega
  have d1':∀k j:Nat,(id=(n+1+k,j))=False:=fun k j=>eq_false fun he=>of_eq_false (d1 k j) he.symm
  have d2:∀j:Nat,((m1,j)=id)=False:=fun j=>eq_false fun he=>by rw [<-he] at hi1;simp at hi1
  have d2':∀j:Nat,(id=(m1,j))=False:=fun j=>eq_false fun he=>of_eq_false (d2 j) he.symm
  have d3:∀q:Nat,(id=(n0,q))=False:=fun q=>eq_false fun he=>by rw [he] at hi1;simp at hi1;omega
  have d3':∀q:Nat,((n0,q)=id)=False:=fun q=>eq_false fun he=>of_eq_false (d3 q) he.symm
  cases rest with
  | nil=>
   have hlt0:decide ((done.length:Int)<(L.length:Int))=false:=by rw [hz];simp
   simp only [push_cast,seval,reduceEqDiff,hlt0,f3,f3',hsv,List.length_map,d2,d2',d3,d3',List.cons_append,List.nil_append]
   intros
   rw [List.append_nil] at hz
   subst hz
   refine finBox (id:=(n0,2)) rfl (by simp [lk,f3,d3];rfl) (fun j=>if j=id then some (L.map Sel.enc) else none) (fun j es h=>?_) (vle_form1 L _ (some id) (fun h=>by cases h) (fun i h=>by cases h;simp)) rfl rfl rfl rfl
   split at h
   ·rename_i he;subst he;cases h
    exact ⟨⟨TS,3,by simp [lk,d2]⟩,fun he=>of_eq_false (d3 _) he⟩
   ·cases h
  | cons s rest=>
   have hlt0:decide ((done.length:Int)<(L.length:Int))=true:=by rw [hz];simp;omega
   have hbd:=zip_bd hz
   have hget:(L.map Sel.enc)[done.length]? = some s.enc:=by rw [hz,List.getElem?_map,List.getElem?_append_right (by simp)];simp
   have e1:∀k j q:Nat,((n+1+k,j)=(n0,q))=False:=fun k j q=>eq_false fun he=>by injection he with h1 h2;omega
   have e1':∀k j q:Nat,((n0,q)=(n+1+k,j))=False:=fun k j q=>eq_false fun he=>of_eq_false (e1 k j q) he.symm
   have e2:∀k j q:Nat,((n+1+k,j)=(m1,q))=False:=fun k j q=>eq_false fun he=>by injection he with h1 h2;omega
   have e2':∀k j q:Nat,((m1,q)=(n+1+k,j))=False:=fun k j q=>eq_false fun he=>of_eq_false (e2 k j q) he.symm
   have hll:done.length+1<=LLim:=by unfold LLim;omega
   have hap:List.map Sel.enc done++[.agg [.i .i64 s.kind,.s s.name,.sl (s.keys.map V.s)]]=(done++[s]).map Sel.enc:=by simp [Sel.enc_eq]
   simp only [push_cast,seval,reduceEqDiff,hlt0,hget,if_pos hbd,List.length_map,f3,f3',hsv,e1,e1',e2,e2',d1,d1',d2,d2',d3,d3',eq_true hll,wrap_zip s (done:=done) (by omega),List.cons_append,List.nil_append,TS,hap]
   intro k1 k2 k3
   refine ⟨_,⟨_,[((m1,3),.box (.agg [.arr (n+1+k1,23),.sl (VS.map vEnc)])),((n+1+k1,23),.arr TS 3 ((done++[s]).map Sel.enc)),((n0,2),.box (.agg [.nil,.nil])),((n0,1),.box (.agg [.sl (L.map Sel.enc),.sl (VS.map vEnc)]))],_⟩,Nat.lt_succ_self _,StLe.sub ?_ ?_ (Nat.le_refl _),(done++[s]),rest,_,some (n+1+k1,23),by rw [hz];simp,rfl,(fun h=>by cases h),?_,?_,rfl⟩
   ·simp [e1,e2,f3]
   ·intro p hp
    simp at hp⊢
    rcases hp with h|h|h|h<;>simp [h,TS,Sel.enc_eq]
   ·intro id h;cases h;exact ⟨by simp only;omega,by simp only;omega⟩
   ·omega
set_option maxHeartbeats 4000000 in
theorem c_VariantsSelect (l:Loc) (f:FormP) (vs:List Val) (hrl:l.rest.length=11) (hb:wtRules l.card+wtRules l.ord<=2^20) (h1:f.1.length<=2^20) (h2:f.2.length<=2^20) (hk:∀s∈f.1,s.keys.length<=2^20/\s.name.length<=2^20) (hw:∀v∈f.2,wtPs v<=2^20)
  (hl:vs.length<=2^20) (ht:∀v∈vs,v.text.length<=2^20/\v.list.length<=2^20) :
  RetS Tryz.prog W0 4 [l.enc,formV f,.sl (vs.map Val.enc)] [] (.b true) []:=by
 have haw:=c_awake W0
 have hfr:=c_fewRules W0 l rfl (by omega)
 have hff:=c_fewForm W0 f (by omega) (by omega) (fun s hs=>by have:=(hk s hs).1;omega) (fun v hv=>by have:=hw v hv;omega)
 have hfv:=c_fewVals W0 vs (by omega) (fun v hv=>by have:=(ht v hv).2;omega)
 have hfo:=c_formP W0 f (by omega)
 have hs1:=c_Select W0 l f vs hrl (by omega) (by omega) (fun s hs=>by have:=hk s hs;omega) (by omega) (fun v hv=>by have:=ht v hv;omega)
 have hs2:=c_rSelect W0 l f vs hrl (by omega) (by omega) (fun s hs=>by have:=hk s hs;omega) (by omega) (fun v hv=>by have:=ht v hv;omega)
 have hso:=c_Sound W0 f (by omega) (fun s hs=>by have:=hk s hs;omega)
 have hsr:=c_rSound W0 f (by omega) (fun s hs=>by have:=hk s hs;omega)
 obtain ⟨r1,r2,r3,r4,r5,r6,r7,r8,r9,r10,r11,hrest⟩:=rest11 hrl
 have hLV:l.enc = .agg [.s l.tag,.s l.parent,.s l.dir,.sl (l.card.map Rule.enc),.sl (l.ord.map Rule.enc),r1,r2,r3,r4,r5,r6,r7,r8,r9,r10,r11]:=by
  rw [Loc.enc_eq,hrest]
 rw [hLV] at hfr hs1 hs2⊢
 generalize (if !soundP f then ((0,1):Int × Int) else if !rulesF [] l.card||!rulesF [] l.ord then (0,18) else selGo l vs f.1 0)=S at *
 generalize soundP f=SP at *
 generalize (fewRs l.card&&fewRs l.ord)=FR at *
 generalize fewFormB f=FF at *
 generalize fewVals (decide ((vs.length:Int)<=30)) vs=FV at *
 obtain ⟨S1,S2⟩:=S
 simp only at hs1 hs2
 unfold formV at *
 cases FR
 ·refine fn_retW (vs:=[.b true]) f4ok (by simp) (by simp) fun n0 hn0=>?_
  clear hn0
  simp only [push_cast,seval,reduceEqDiff]
  repeat' (first|(((first|apply condU_s|apply gdU_t|apply gdU_f)<;>intro _h)<;>simp only [push_cast,seval,reduceEqDiff,_h])|((first|refine c_call (by exact haw) ?_|refine c_call (by exact hfr) ?_);simp only [push_cast,seval,reduceEqDiff])|intro _)
  all_goals (first|(refine finW_ret ?_;simp [get]<;>(intros;omega);done)|(refine finW_rets ?_;simp [push_cast,get];done)|skip)
 cases FF
 ·refine fn_retW (vs:=[.b true]) f4ok (by simp) (by simp) fun n0 hn0=>?_
  clear hn0
  simp only [push_cast,seval,reduceEqDiff]
  repeat' (first|(((first|apply condU_s|apply gdU_t|apply gdU_f)<;>intro _h)<;>simp only [push_cast,seval,reduceEqDiff,_h])|((first|refine c_call (by exact haw) ?_|refine c_call (by exact hfr) ?_|refine c_call (by exact hff) ?_);simp only [push_cast,seval,reduceEqDiff])|intro _)
  all_goals (first|(refine finW_ret ?_;simp [get]<;>(intros;omega);done)|(refine finW_rets ?_;simp [push_cast,get];done)|skip)
 cases FV
 ·refine fn_retW (vs:=[.b true]) f4ok (by simp) (by simp) fun n0 hn0=>?_
  clear hn0
  simp only [push_cast,seval,reduceEqDiff]
  repeat' (first|(((first|apply condU_s|apply gdU_t|apply gdU_f)<;>intro _h)<;>simp only [push_cast,seval,reduceEqDiff,_h])|((first|refine c_call (by exact haw) ?_|refine c_call (by exact hfr) ?_|refine c_call (by exact hff) ?_|refine c_call (by exact hfv) ?_);simp only [push_cast,seval,reduceEqDiff])|intro _)
  all_goals (first|(refine finW_ret ?_;simp [get]<;>(intros;omega);done)|(refine finW_rets ?_;simp [push_cast,get];done)|skip)
 refine fn_retW (vs:=[.b true]) f4ok (by simp) (by simp) fun n0 hn0=>?_
 clear hn0
 simp only [push_cast,seval,reduceEqDiff,beq_self_eq_true]
 repeat' (first|(((first|apply condU_s|apply gdU_t|apply gdU_f)<;>intro _h)<;>simp only [push_cast,seval,reduceEqDiff,_h,beq_self_eq_true])|((first|refine c_call (by exact haw) ?_|refine c_call (by exact hfr) ?_|refine c_call (by exact hff) ?_|refine c_call (by exact hfv) ?_|refine c_call (by exact hfo) ?_|refine c_call (by exact hs1) ?_|refine c_call (by exact hs2) ?_|refine c_call (by exact hso) ?_|refine c_call (by exact hsr) ?_);simp only [push_cast,seval,reduceEqDiff,beq_self_eq_true])|intro _)
 all_goals (first|(refine finW_ret ?_;simp [get]<;>(intros;omega);done)|(refine finW_rets ?_;simp [push_cast,get];done)|skip)
end Go.Ir
namespace Go.Ir
open Go.Proofs
def bw (s:Bytes):Nat:=s.length+1
theorem aStr:aggT Tryz.prog 9=some false:=by kernel_rfl
theorem strs_of (v:V) (h:WtV Tryz.prog 28 [v]):∃l:List Bytes,v = .sl (l.map V.s)/\sumW bw l+1<=bulkV v:=by
 obtain ⟨es,rfl,h1,h2,h3⟩:=h.sl_inv Tryz.underlying28
 rw [aStr] at h1
 obtain ⟨xs,hx,hw⟩:=list_of (G:=fun el=>WtV Tryz.prog 9 [el]) V.s bw (fun el h=>by
  obtain ⟨s,rfl⟩:=h.str_inv Tryz.underlying9
  exact ⟨s,rfl,by unfold bw;simp [bulkV]⟩) es fun el hm=>by
  obtain ⟨c,hc,hcc⟩:=h1 el hm
  have h4:=h3 el hm
  have h5:=h2 el hm
  rw [hcc] at h4 h5
  rw [c9] at h5
  match c,h5 with
  | [x],_=>
   have:el=x:=hc
   rw [this];exact h4
 exact ⟨xs,by rw [hx],by simp only [bulkV];omega⟩
theorem sumW_mem {α:Type} {w:α->Nat} {l:List α} {x:α} (h:x∈l):w x<=sumW w l:=by
 induction l with
 | nil=>cases h
 | cons y l ih=>
  simp only [sumW]
  rcases List.mem_cons.1 h with rfl|h
  ·omega
  ·have:=ih h;omega
theorem sumW_len {α:Type} {w:α->Nat} {l:List α} (h:∀x,1<=w x):l.length<=sumW w l:=by
 induction l with
 | nil=>simp [sumW]
 | cons y l ih=>
  simp only [sumW,List.length_cons]
  have:=h y;omega
theorem len3 {l:List V} (h:l.length=3):∃a b c,l=[a,b,c]:=by
 match l,h with
 | [a,b,c],_=>exact ⟨a,b,c,rfl⟩
theorem len5 {l:List V} (h:l.length=5):∃a b c d e,l=[a,b,c,d,e]:=by
 match l,h with
 | [a,b,c,d,e],_=>exact ⟨a,b,c,d,e,rfl⟩
theorem cStrs:Tryz.prog.cellsOf 28=1:=by kernel_rfl
theorem cVal:Tryz.prog.cellsOf 102=5:=by kernel_rfl
theorem aVal:aggT Tryz.prog 102=some true:=by kernel_rfl
theorem val_of (c:List V) (h:WtV Tryz.prog 102 c):∃x:Val,V.agg c=x.enc/\x.wt<=bulkVs c:=by
 obtain ⟨hl,hf⟩:=h.st_inv Tryz.underlying102
 rw [cVal] at hl
 obtain ⟨x0,x1,x2,x3,x4,rfl⟩:=len5 hl
 have f0:=hf _ (by exact List.mem_cons_self)
 have f1:=hf _ (by exact List.mem_cons_of_mem _ List.mem_cons_self)
 have f2:=hf _ (by exact List.mem_cons_of_mem _ (List.mem_cons_of_mem _ List.mem_cons_self))
 have f3:=hf _ (by exact List.mem_cons_of_mem _ (List.mem_cons_of_mem _ (List.mem_cons_of_mem _ List.mem_cons_self)))
 have f4:=hf _ (by exact List.mem_cons_of_mem _ (List.mem_cons_of_mem _ (List.mem_cons_of_mem _ (List.mem_cons_of_mem _ List.mem_cons_self))))
 simp only [c9,c3,cStrs,List.drop_zero,List.drop_succ_cons,List.take_succ_cons,List.take_zero] at f0 f1 f2 f3 f4
 obtain ⟨n,rfl⟩:=f0.str_inv Tryz.underlying9
 obtain ⟨t,rfl,_⟩:=f1.int_inv Tryz.underlying3
 obtain ⟨x,rfl⟩:=f2.str_inv Tryz.underlying9
 obtain ⟨d,rfl,_⟩:=f3.int_inv Tryz.underlying3
 obtain ⟨xs,rfl,hw⟩:=strs_of x4 f4
 refine ⟨⟨n,t,x,d,xs⟩,rfl,?_⟩
 have:=sumW_len (w:=bw) (l:=xs) (fun _=>by unfold bw;omega)
 simp only [bulkVs,bulkV] at hw⊢
 unfold Val.wt
 simp only;omega
theorem vals_of (v:V) (h:WtV Tryz.prog 48 [v]):∃l:List Val,v = .sl (l.map Val.enc)/\sumW Val.wt l<=bulkV v:=by
 obtain ⟨xs,rfl,hw⟩:=slice_of h Tryz.underlying48 aVal Val.enc Val.wt val_of
 exact ⟨xs,rfl,by omega⟩
theorem vals_bd {l:List Val} {n:Nat} (h:sumW Val.wt l<=n):l.length<=n/\∀v∈l,v.text.length<=n/\v.list.length<=n:=by
 have:=sumW_len (w:=Val.wt) (l:=l) (fun x=>by unfold Val.wt;omega)
 refine ⟨by omega,fun v hv=>?_⟩
 have h2:=sumW_mem (w:=Val.wt) hv
 have h3:v.wt=1+v.name.length+v.text.length+v.list.length:=rfl
 exact ⟨by omega,by omega⟩
theorem cSel:Tryz.prog.cellsOf 100=3:=by kernel_rfl
theorem aSel:aggT Tryz.prog 100=some true:=by kernel_rfl
def selWt (s:Sel):Nat:=1+s.name.length+s.keys.length
theorem sel_of (c:List V) (h:WtV Tryz.prog 100 c):∃x:Sel,V.agg c=x.enc/\selWt x<=bulkVs c:=by
 obtain ⟨hl,hf⟩:=h.st_inv Tryz.underlying100
 rw [cSel] at hl
 obtain ⟨x0,x1,x2,rfl⟩:=len3 hl
 have f0:=hf _ (by exact List.mem_cons_self)
 have f1:=hf _ (by exact List.mem_cons_of_mem _ List.mem_cons_self)
 have f2:=hf _ (by exact List.mem_cons_of_mem _ (List.mem_cons_of_mem _ List.mem_cons_self))
 simp only [c9,c3,cStrs,List.drop_zero,List.drop_succ_cons,List.take_succ_cons,List.take_zero] at f0 f1 f2
 obtain ⟨k,rfl,_⟩:=f0.int_inv Tryz.underlying3
 obtain ⟨n,rfl⟩:=f1.str_inv Tryz.underlying9
 obtain ⟨xs,rfl,hw⟩:=strs_of x2 f2
 refine ⟨⟨k,n,xs⟩,rfl,?_⟩
 have:=sumW_len (w:=bw) (l:=xs) (fun _=>by unfold bw;omega)
 simp only [bulkVs,bulkV] at hw⊢
 unfold selWt
 simp only;omega
theorem cForm:Tryz.prog.cellsOf 47=2:=by kernel_rfl
theorem cSels:Tryz.prog.cellsOf 45=1:=by kernel_rfl
theorem cVars:Tryz.prog.cellsOf 36=1:=by kernel_rfl
theorem aPs:aggT Tryz.prog 31=some false:=by kernel_rfl
theorem var_of (v:V) (h:WtV Tryz.prog 31 [v]):∃x:List Part,v=vEnc x/\wtPs x<=bulkV v:=by
 obtain ⟨ps,rfl,hps⟩:=parts_of _ v (Nat.le_refl _) h
 exact ⟨ps,by rw [vEnc,encPs_map],hps⟩
theorem form_of (c:List V) (h:WtV Tryz.prog 47 c):∃f:FormP,V.agg c=formV f/\sumW selWt f.1+sumW wtPs f.2<=bulkVs c/\f.2.length<=bulkVs c:=by
 obtain ⟨hl,hf⟩:=h.st_inv Tryz.underlying47
 rw [cForm] at hl
 obtain ⟨x0,x1,rfl⟩:=len2 hl
 have f0:=hf _ (by exact List.mem_cons_self)
 have f1:=hf _ (by exact List.mem_cons_of_mem _ List.mem_cons_self)
 simp only [cSels,cVars,List.drop_zero,List.drop_succ_cons,List.take_succ_cons,List.take_zero] at f0 f1
 obtain ⟨L,rfl,hw⟩:=slice_of f0 Tryz.underlying45 aSel Sel.enc selWt sel_of
 obtain ⟨VS,h2,hw2⟩:=slice_of1 f1 Tryz.underlying36 Tryz.underlying31 aPs c31 vEnc wtPs var_of
 obtain ⟨VS',h3,hw3⟩:=slice_of1 f1 Tryz.underlying36 Tryz.underlying31 aPs c31 id (fun _=>1) (fun v hv=>⟨v,rfl,by
  obtain ⟨es,rfl,_⟩:=hv.sl_inv Tryz.underlying31
  simp [bulkV]⟩)
 have hlen:VS.length=VS'.length:=by
  have:=h2.symm.trans h3
  injection this with this
  simpa using congrArg List.length this
 rw [sum1] at hw3
 subst h2
 refine ⟨(L,VS),rfl,?_,?_⟩
 ·simp only [bulkVs] at hw hw2⊢;omega
 ·simp only [bulkVs];omega
theorem form_bd {f:FormP} {n:Nat} (h:sumW selWt f.1+sumW wtPs f.2<=n):f.1.length<=n/\(∀s∈f.1,s.keys.length<=n/\s.name.length<=n)/\(∀v∈f.2,wtPs v<=n):=by
 have:=sumW_len (w:=selWt) (l:=f.1) (fun x=>by unfold selWt;omega)
 refine ⟨by omega,fun s hs=>?_,fun v hv=>?_⟩
 ·have h2:=sumW_mem (w:=selWt) hs
  have h3:selWt s=1+s.name.length+s.keys.length:=rfl
  exact ⟨by omega,by omega⟩
 ·have h2:=sumW_mem (w:=wtPs) hv
  omega
end Go.Ir
