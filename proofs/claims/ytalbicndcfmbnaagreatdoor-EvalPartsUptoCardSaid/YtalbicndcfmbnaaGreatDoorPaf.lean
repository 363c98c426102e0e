/-
  Contracts: isolated arguments.
  Contracts: dates in the patterns of a locale.
  Contracts: dates of a locale.
  The IR of functions of the program, printed by our own tool
  Ranges over functions: the rules for a walk
  Contract: list.join, by that of list.fill.
  Contracts: patterns with places (package validate), lists ..
  Contracts: units of a locale, the text of an argument ..
  Messages read back out of abstract values
  Contracts: the case of a selection that values choose ..
  Contracts: the writer of layer 32 over any message.
  Plain laws of layer 32: what Format computes (Ej) answers ..
  Plain: the text of a date is not long: a pattern of the ..
  Plain: a small locale is within the bounds of the contracts.
  eval.Format, as the evaluator is handed it.
  The codes that the evaluator runs for a closed call, and ..
  calquelaw32.awake answers true: by the kernel's evaluation ..
  Contract: the law EvalParts.
  What an input pV as, as an abstract value: plain data ..
  The end of a law's proof: from the II of the law to ..
  Inputs that are messages: every well-formed slice of parts ..
  Inputs that are locales: their rules, and the rest.
  Inputs that are forms or values.
-/
import Derived.Test.YtalbicndcfmbnaaGreatDoorPae
import Derived.Lib.RuneCount
import Derived.Test.YtalbicndcfmbnaaGreatDoorRows
import Derived.ChangeArms
import Derived.Carry
import Derived.ChangeSame
import Derived.OpenShut
import Derived.Test.YtalbicndcfmbnaaGreatDoorChecked
set_option linter.all false
set_option linter.defProp false
set_option linter.unusedSimpArgs false
set_option linter.unusedVariables false
open Nat (reduceEqDiff)
namespace Go.Ir
open Go.Proofs
variable(W0:World)
def G7(n:Int):Bool:=decide (n>=0)&&(decide (n<=1114111)&&(decide (n<55296)||decide (n>57343)))
theorem z7(n:Int):Am Tryz.prog W0 237 [.i .i64 n] [] (.b (G7 n)) []:=by
 generalize hS:G7 n=S
 unfold G7 at hS
 refine Ai (vs:=[.b S]) AdX (by simp) (by simp) fun n0 hn0=>?_
 clear hn0
 simp only[push_cast,seval,reduceEqDiff]
 cases h1:decide (n>=0)<;>cases h2:decide (n<=1114111)<;>cases h3:decide (n<55296)<;>cases h4:decide (n>57343)
 all_goals simp only[h1,h2,h3,h4,AqV,Ara,Arn,As1,At0,AsZ,Bool.or_self] at hS
 all_goals subst hS
 all_goals simp only[push_cast,seval,reduceEqDiff,h1,h2,h3,h4]
 all_goals repeat' (first|(((first|apply Ac|apply Ag|apply Af)<;>intro _h)<;>simp only[push_cast,seval,reduceEqDiff,_h,h1,h2,h3,h4])|(refine Aq (by omega) ?_;simp only[push_cast,seval,reduceEqDiff,h1,h2,h3,h4])|intro _)
 all_goals exact Ah (by simp[get])
def Qu(c:Int):Bool:=decide (c>=8294)&&decide (c<=8296)
theorem P5(c:Int):Am Tryz.prog W0 240 [.i .i64 c] [] (.b (Qu c)) []:=by
 generalize hS:Qu c=S
 unfold Qu at hS
 refine Ai (vs:=[.b S]) Afz (by simp) (by simp) fun n0 hn0=>?_
 clear hn0
 simp only[push_cast,seval,reduceEqDiff]
 cases h1:decide (c>=8294)<;>cases h2:decide (c<=8296)
 all_goals simp only[h1,h2,AqV,Ara,Arn,As1] at hS
 all_goals subst hS
 all_goals simp only[push_cast,seval,reduceEqDiff,h1,h2]
 all_goals repeat' (first|(((first|apply Ac|apply Ag|apply Af)<;>intro _h)<;>simp only[push_cast,seval,reduceEqDiff,_h,h1,h2])|(refine Aq (by omega) ?_;simp only[push_cast,seval,reduceEqDiff,h1,h2])|intro _)
 all_goals exact Ah (by simp[get])
def ET(s:Aa):Nat->Nat->List Int
 | 0,_=>[]
 | n+1,p=>if p<s.length then(Utf8.decode ⟨s.toArray⟩ p).1::ET s n (p+(Utf8.decode ⟨s.toArray⟩ p).2) else[]
def Lg(s:Aa):List Int:=ET s s.length 0
def Fq(l:List Int):Aa:=l.flatMap fun n=>Ci (IntKind.i32.wrap (if G7 n then n else 65533))
theorem Sb(s:Aa):∀(n m p:Nat),s.length<=n+p->s.length<=m+p->ET s n p=ET s m p:=by
 intro n
 induction n with
 | zero=>
  intro m p h1 h2
  cases m with
  | zero=>rfl
  | succ m=>rw[ET,ET,if_neg (by omega)]
 | succ n ih=>
  intro m p h1 h2
  cases m with
  | zero=>grind
  | succ m=>
   rw[ET,ET]
   split
   ·rename_i hp
    have:=Lib.decode_width_pos ⟨s.toArray⟩ p (by simpa[ByteArray.size] using hp)
    grind
   ·rfl
theorem MX(s:Aa):∀(n p:Nat),(ET s n p).length<=n:=by
 intro n
 induction n with
 | zero=>intro p;simp[ET]
 | succ n ih=>
  intro p
  rw[ET]
  grind
theorem lC(l:List Int):(Fq l).length<=4*l.length:=by
 induction l with
 | nil=>simp[Fq]
 | cons n l ih=>
  have h:=J8 (IntKind.i32.wrap (if G7 n then n else 65533))
  have:Fq (n::l)=Ci (IntKind.i32.wrap (if G7 n then n else 65533))++Fq l:=rfl
  grind
theorem AlI(l:List Int):∀y∈l.map (V.i .i64),y.ok=true:=by
 intro y hy;obtain⟨x,_,rfl⟩:=Apq.1 hy;rfl
theorem qI(s:Aa)(hs:s.length<=2^28):Am Tryz.prog W0 239 [.s s] [] (.sl ((Lg s).map (V.i .i64))) []:=by
 generalize hS:Lg s=S
 unfold Lg at hS
 refine Ai (vs:=[.sl (S.map (V.i .i64))]) Ah6 (by simp) (by simp) fun n0 hn0=>?_
 clear hn0
 simp only[push_cast,seval,reduceEqDiff]
 repeat' (first|(((first|apply Ac|apply Ag|apply Af)<;>intro _h)<;>simp only[push_cast,seval,reduceEqDiff,_h])|(refine Aq (by omega) ?_;simp only[push_cast,seval,reduceEqDiff])|intro _)
 rename_i k1 k2 k3
 generalize hit:((n0+1+k1+1+k2,7):Id)=it
 have hi1:it.1<n0+1+k1+1+k2+1+k3:=by grind
 generalize n0+1+k1+1+k2+1+k3=n1 at *
 refine An s.length (Inv:=fun m st=>∃n p id out,m=s.length-p/\out++ET s (s.length-p) p=S/\out.length<=p/\out.length<=s.length/\it.1<id.1/\id.1<n/\st=⟨[(3,.arr id),(7,.arr it)],[(id,.arr 3 1 (out.map (V.i .i64))),(it,.it s p)],n⟩) ⟨_,(Al.own (s:=3) (e:=3) (sz:=1) (k:=0) rfl).trans (Al.envD (env':=[(3,.arr (n1,0)),(7,.arr it)]) (fun t=>?_) (AbG _)),_,0,(n1,0),[],rfl,hS,AbG _,Ajt _,hi1,Acq _,rfl⟩ ?_
 ·left
  simp only[get]
  grind
 clear hS hi1
 rintro m _ ⟨n,p,id,out,rfl,hd,ho,ho2,hi1,hi2,rfl⟩
 have f1:(id=it)=False:=eq_false fun he=>by rw[he] at hi1;omega
 have f2:(it=id)=False:=eq_false fun he=>by rw[he] at hi1;omega
 by_cases hp:p<s.length
 ·have hpos:=Lib.decode_width_pos ⟨s.toArray⟩ p (by simpa[ByteArray.size] using hp)
  have hp':(p<s.length)=True:=eq_true hp
  obtain⟨q,hq⟩:∃q,s.length-p=q+1:=⟨s.length-p-1,by omega⟩
  rw[hq,ET,if_pos hp] at hd
  rw[Sb s q (s.length-(p+(Utf8.decode ⟨s.toArray⟩ p).2)) _ (by omega) (by omega)] at hd
  have hle:=decode_le ⟨s.toArray⟩ p
  generalize hD:Utf8.decode ⟨s.toArray⟩ p=D at *
  have hL:(out.length+1<=AM)=True:=eq_true (by unfold AM;omega)
  have w2:IntKind.i64.wrap (D.1:Int)=(D.1:Int):=wrap64 (by omega) (by omega)
  simp only[push_cast,seval,reduceEqDiff,hp',hD,f1,f2,hL,w2,Ae5]
  repeat' (first|(((first|apply Ac|apply Ag|apply Af)<;>intro _h)<;>simp only[push_cast,seval,reduceEqDiff,_h,hp',hD,f1,f2,hL,w2,Ae5])|(refine Aq (by omega) ?_;simp only[push_cast,seval,reduceEqDiff,hp',hD,f1,f2,hL,w2,Ae5])|intro _)
  rw[Ez]
  exact⟨_,_,by omega,Al.refl,_,p+D.2,_,out++[(D.1:Int)],rfl,by grind,by simp;omega,by simp;omega,by simp only;omega,by simp only;omega,rfl⟩
 ·have hp':(p<s.length)=False:=eq_false hp
  rw[show s.length-p=0 by omega,ET,Aou] at hd
  subst hd
  simp only[push_cast,seval,reduceEqDiff,hp',f1,f2]
  intros
  refine LW (Al.frzAt (s:=3) (id:=id) rfl (by simp[lk,f2]) (AlI out) (AbG _)) ?_
  simp only[push_cast,seval,reduceEqDiff,hp',f1,f2]
  intros
  exact Ah (by simp[get])
theorem fZ(l:List Int)(hl:l.length<=2^26):Am Tryz.prog W0 181 [.sl (l.map (V.i .i64))] [] (.s (Fq l)) []:=by
 generalize hS:Fq l=S
 refine Ai (vs:=[.s S]) Adv (by simp) (by simp) fun n0 hn0=>?_
 clear hn0
 simp only[push_cast,seval,reduceEqDiff]
 repeat' (first|(((first|apply Ac|apply Ag|apply Af)<;>intro _h)<;>simp only[push_cast,seval,reduceEqDiff,_h])|(refine Aq (by omega) ?_;simp only[push_cast,seval,reduceEqDiff])|intro _)
 rename_i k1 k2 k3
 generalize hx:((n0+1+k1,3):Id)=x
 have hx1:x.1<n0+1+k1+1+k2+1+k3:=by grind
 generalize n0+1+k1+1+k2+1+k3=n1 at *
 refine An l.length (Inv:=fun m st=>∃done rest n u b out,l=done++rest/\m=rest.length/\out++Fq rest=S/\out.length+4*rest.length<=2^28/\x.1<b.1/\b.1<n/\st=⟨[(3,.ref x 0),(6,.sl (l.map (V.i .i64))),(7,.i .i64 l.length),(8,.i .i64 done.length)],bS u x b out,n⟩) ⟨_,Al.bld hx1,[],l,_,false,(n1,0),[],rfl,rfl,hS,by simp;omega,hx1,Acq _,by simp⟩ ?_
 clear hS hx1
 rintro m _ ⟨done,rest,n,u,b,out,hz,rfl,hd,ho,hb1,hb2,rfl⟩
 have hne:b≠x:=fun he=>by rw[he] at hb1;omega
 cases rest with
 | nil=>
  simp only[Fq,List.flatMap_nil,Aou] at hd
  subst hd
  have hst:=T8 W0 u x b out hne (by omega)
  simp only[push_cast,seval,reduceEqDiff,hz]
  intros
  refine BF hst (fun _ _ h=>h) ?_
  simp only[push_cast,seval,reduceEqDiff]
  intros
  exact Ah (by simp[get])
 | cons c rest=>
  have hbd:=AN hz
  have hpt:=z7 W0 c
  have hd':out++(Ci (IntKind.i32.wrap (if G7 c then c else 65533))++Fq rest)=S:=hd
  clear hd
  generalize G7 c=PB at *
  have hrl:=J8 (IntKind.i32.wrap (if PB then c else 65533))
  cases PB
  all_goals simp only[if_true,if_false,AcL] at hd' hrl
  all_goals simp only[push_cast,seval,reduceEqDiff,hz,Ad c (done:=done) (by omega)]
  all_goals repeat' (first|(((first|apply Ac|apply Ag|apply Af)<;>intro _h)<;>simp only[push_cast,seval,reduceEqDiff,_h,hz,Ad c (done:=done) (by omega)])|((first|refine Ab (by exact hpt) ?_|refine Aq (by omega) ?_);simp only[push_cast,seval,reduceEqDiff,hz,Ad c (done:=done) (by omega)])|intro _)
  all_goals (refine AV (Afh W0 u x b out _ hne (by simp at ho;omega)) (fun _ _ h=>h) (fun n2 v σo hle hQ=>?_))
  all_goals (obtain⟨rfl,b',i1,i2,rfl⟩:=hQ)
  all_goals rw[EG]
  all_goals simp only[push_cast,seval,reduceEqDiff,hz,Ad c (done:=done) (by omega)]
  all_goals repeat' (first|(((first|apply Ac|apply Ag|apply Af)<;>intro _h)<;>simp only[push_cast,seval,reduceEqDiff,_h,hz,Ad c (done:=done) (by omega)])|(refine Aq (by omega) ?_;simp only[push_cast,seval,reduceEqDiff,hz,Ad c (done:=done) (by omega)])|intro _)
  all_goals exact⟨_,_,Acq _,Al.refl,done++[c],rest,_,true,b',_,by simp,rfl,by grind,by simp at ho⊢;omega,by omega,by omega,rfl⟩
def DQ:List Int->List Bool->Int->Aa->Aa×Int
 | [],_,k,out=>(out,k)
 | c::r,op,k,out=>
  if Qu c then(if decide (k<8) then DQ r (op++[true]) (k+1) (out++Fq [c]) else DQ r (op++[false]) k out)
  else if c==8297 then(match op.getLast? with
   | none=>DQ r op k out
   | some true=>DQ r op.dropLast (k-1) (out++Fq [c])
   | some false=>DQ r op.dropLast k out)
  else DQ r op k (out++Fq [c])
def GP:Nat->Aa
 | 0=>[]
 | n+1=>Fq [8297]++GP n
def S2(s:Aa):Aa:=(DQ (Lg s) [] 0 []).1++GP (DQ (Lg s) [] 0 []).2.toNat
theorem Ok(c:Int):Am Tryz.prog W0 181 [.sl [.i .i64 c]] [] (.s (Fq [c])) []:=fZ W0 [c] (by simp)
theorem DX(c:Int):(Fq [c]).length<=4:=lC [c]
theorem OW{u:Bool}{x b oid:Id}{out:Aa}{E:AC}(h1:oid≠x)(h2:oid≠b):∀i e,lk (bS u x b out++[(oid,E)]) i=some e->lk ((oid,E)::bS u x b out) i=some e:=by
 intro i e h
 simp only[bS,Akk,Aoq,lk] at h⊢
 grind
theorem PA{u u':Bool}{x b b' oid:Id}{l l':Aa}{E:AC}(h1:oid≠x)(h2:oid≠b):over (bS u x b l) (bS u' x b' l') ((oid,E)::bS u x b l)=bS u' x b' l'++[(oid,E)]:=by
 have:=DZ (σi:=bS u x b l) (σo:=bS u' x b' l') (pre:=[(oid,E)]) (fun p hp q hq=>by
  simp at hp
  subst hp
  simp[bS] at hq
  grind
)
 simpa using this
theorem UA{u:Bool}{x b oid:Id}{l:Aa}{E:AC}(h1:oid≠x)(h2:oid≠b):∀i e,lk (bS u x b l) i=some e->lk ((oid,E)::bS u x b l) i=some e:=by
 intro i e h
 simp only[lk]
 rw[if_neg,<-h]
 rintro rfl
 simp[bS,lk,Ail h1,Ail h2] at h
set_option maxHeartbeats 4000000 in
theorem Ze(s:Aa)(hs:s.length<=2^24):Am Tryz.prog W0 182 [.s s] [] (.s (S2 s)) []:=by
 have hdl:=MX s s.length 0
 have hdec:=qI W0 s (by omega)
 generalize hS:S2 s=S
 unfold S2 at hS
 have hDl:(Lg s).length<=2^24:=by unfold Lg;omega
 generalize Lg s=D at *
 generalize hB:DQ D [] 0 []=B at hS
 refine Ai (vs:=[.s S]) AgU (by simp) (by simp) fun n0 hn0=>?_
 clear hn0
 simp only[push_cast,seval,reduceEqDiff]
 have _h:=trivial;repeat' (first|(first|((first|apply Ac|apply Ag|apply Af)<;>intro _h)|refine Ab hdec ?_|refine Aq (by omega) ?_)<;>simp only[push_cast,seval,reduceEqDiff,_h]|intro _)
 rename_i k1 k2 k3 k4 k5
 generalize hx:((n0+1+k1,3):Id)=x
 have hx1:x.1<n0+1+k1+1+k2+1+k3+1+k4+1+k5:=by grind
 generalize n0+1+k1+1+k2+1+k3+1+k4+1+k5=n1 at *
 refine An D.length (Inv:=fun m st=>∃done rest n u b out op k oid,D=done++rest/\m=rest.length/\DQ rest op k out=B/\-(done.length:Int)<=k/\k<=8/\op.length<=done.length/\out.length+4*rest.length<=2^26/\x.1<b.1/\x.1<oid.1/\oid≠b/\b.1<n/\oid.1<n/\st=⟨[(3,.ref x 0),(4,.arr oid),(5,.i .i64 k),(11,.sl (D.map (V.i .i64))),(12,.i .i64 D.length),(13,.i .i64 done.length)],bS u x b out++[(oid,.arr 4 1 (op.map V.b))],n⟩) ⟨_,((Al.bld (τ:=[]) hx1).trans (Al.own (s:=4) (e:=4) (sz:=1) (k:=0) rfl)).trans ((Al.envD (env':=[(3,.ref x 0),(4,.arr (n1+1,0)),(5,.i .i64 0),(11,.sl (D.map (V.i .i64))),(12,.i .i64 D.length),(13,.i .i64 0)]) (fun t=>?_) (AbG _)).trans (Al.drop (σ':=bS false x (n1,0) []++[((n1+1,0),.arr 4 1 [])]) (OW (fun he=>by grind) (by simp)) (AbG _))),[],D,_,false,(n1,0),[],[],0,(n1+1,0),rfl,rfl,hB,by simp,by omega,AbG _,by simp;omega,hx1,by simp only;omega,by simp,by simp only;omega,by simp only;omega,rfl⟩ ?_
 ·left
  simp only[get]
  grind
 clear hB hx1
 rintro m _ ⟨done,rest,n,u,b,out,op,k,oid,hz,rfl,hd,q1,q2,q3,q4,q5,q6,q7,q8,q9,rfl⟩
 have hne:b≠x:=fun he=>by rw[he] at q5;omega
 have hno:oid≠x:=fun he=>by rw[he] at q6;omega
 cases rest with
 | nil=>
  rw[DQ] at hd
  subst hd
  simp only at hS
  have hl2:D.length=done.length:=by rw[hz];simp
  have f1:(x=b)=False:=eq_false (Ail hne)
  have f2:(b=x)=False:=eq_false hne
  simp only[push_cast,seval,reduceEqDiff,hz]
  intros
  rename_i j2 j1
  have hb2:b.1<n+1+j2+1+j1:=by omega
  generalize n+1+j2+1+j1=n2 at *
  have hol:out.length<=2^26:=by omega
  clear hz hl2 q1 q3 q4 q6 q7 q8 q9 hno
  refine An k.toNat (Inv:=fun m st=>∃n u b out j,m=(k-j).toNat/\0<=j/\j<=8/\out++GP (k-j).toNat=S/\(out.length:Int)<=2^26+4*j/\x.1<b.1/\b.1<n/\st=⟨[(3,.ref x 0),(56,.i .i64 k),(57,.i .i64 j)],bS u x b out,n⟩) ⟨_,Al.pre (AbG _),_,u,b,out,0,by simp,by omega,by omega,by simpa using hS,by omega,q5,hb2,rfl⟩ ?_
  clear hS hb2 hol q5 f1 f2 hne
  rintro m _ ⟨n,u,b,out,j,rfl,j1,j2,hd,ho,q5,q8,rfl⟩
  have hne:b≠x:=fun he=>by rw[he] at q5;omega
  cases hj:decide (j<k) with
  | true=>
   have hjk:=of_decide_eq_true hj
   have hce:=Ok W0 8297
   have hel:=DX 8297
   obtain⟨q,hq⟩:∃q,(k-j).toNat=q+1:=⟨(k-j).toNat-1,by omega⟩
   rw[hq,GP,<-Ask] at hd
   generalize Fq [8297]=EC at *
   have w1:IntKind.i64.wrap (j+1)=j+1:=by rw[wrap64 (by omega) (by omega)]
   simp only[push_cast,seval,reduceEqDiff,hj,w1]
   have _h:=trivial;repeat' (first|(first|((first|apply Ac|apply Ag|apply Af)<;>intro _h)|refine Ab hce ?_|refine Aq (by omega) ?_)<;>simp only[push_cast,seval,reduceEqDiff,_h,hj,w1]|intro _)
   refine AV (L7 W0 u x b out EC hne (by omega)) (fun _ _ h=>h) (fun n2 v σo hle hQ=>?_)
   obtain⟨rfl,b',i1,i2,rfl⟩:=hQ
   rw[EG]
   simp only[push_cast,seval,reduceEqDiff,hj,w1]
   repeat' (first|(((first|apply Ac|apply Ag|apply Af)<;>intro _h)<;>simp only[push_cast,seval,reduceEqDiff,_h,hj,w1])|(refine Aq (by omega) ?_;simp only[push_cast,seval,reduceEqDiff,hj,w1])|intro _)
   exact⟨q,_,by omega,Al.refl,_,true,b',out++EC,j+1,by omega,by omega,by omega,by grind,by simp;omega,by omega,by omega,rfl⟩
  | false=>
   have hjk:=of_decide_eq_false hj
   rw[show(k-j).toNat=0 by omega,GP,Aou] at hd
   subst hd
   have hst:=T8 W0 u x b out hne (by omega)
   simp only[push_cast,seval,reduceEqDiff,hj]
   intros
   refine BF hst (fun _ _ h=>h) ?_
   simp only[push_cast,seval,reduceEqDiff,hj]
   intros
   exact Ah (by simp[get])
 | cons c rest=>
  have hbd:=AN hz
  have hci:=P5 W0 c
  have hce:=Ok W0 c
  have hel:=DX c
  rw[DQ] at hd
  generalize Fq [c]=EC at *
  have f1:(x=b)=False:=eq_false (Ail hne)
  have f2:(b=x)=False:=eq_false hne
  have f3:(x=oid)=False:=eq_false (Ail hno)
  have f4:(oid=x)=False:=eq_false hno
  have f5:(b=oid)=False:=eq_false (Ail q7)
  have f6:(oid=b)=False:=eq_false q7
  simp only[AhU] at q4
  cases hI:Qu c with
  | true=>
   rw[hI] at hd hci
   simp only[if_true] at hd
   have hL:(op.length+1<=AM)=True:=eq_true (by unfold AM;omega)
   cases hK:decide (k<8) with
   | true=>
    rw[hK] at hd
    simp only[if_true] at hd
    have hk8:=of_decide_eq_true hK
    have w1:IntKind.i64.wrap (k+1)=k+1:=by rw[wrap64 (by omega) (by omega)]
    simp only[push_cast,seval,reduceEqDiff,hz,Ad c (done:=done) (by omega),bS,f1,f2,f3,f4,f5,f6,hL,w1,hK,Ae5,Akk,Aoq]
    have _h:=trivial;repeat' (first|(first|((first|apply Ac|apply Ag|apply Af)<;>intro _h)|refine Ab hci ?_|refine Ab hce ?_|refine Aq (by omega) ?_)<;>simp only[push_cast,seval,reduceEqDiff,_h,hz,Ad c (done:=done) (by omega),bS,f1,f2,f3,f4,f5,f6,hL,w1,hK,Ae5,Akk,Aoq]|intro _)
    rename_i j7 j6 j5 j4 j3 j2 j1 j0
    generalize ho2:((n+1+j7+1+j6+1+j5+1+j4,25):Id)=o2
    have g1:o2≠x:=fun he=>by grind
    have g2:o2≠b:=fun he=>by grind
    have g3:x.1<o2.1:=by grind
    have g4:o2.1<n+1+j7+1+j6+1+j5+1+j4+1:=by grind
    clear ho2
    refine AV (σi:=bS u x b out) (L7 W0 u x b out EC hne (by omega)) (UA g1 g2) (fun n2 v σo hle hQ=>?_)
    obtain⟨rfl,b',i1,i2,rfl⟩:=hQ
    have hov:over (bS u x b out) (bS true x b' (out++EC)) [(o2,AC.arr 4 1 (List.map V.b op++[V.b true])),(x,AC.tbox TB (.agg [wA u x,.arr b])),(b,AC.arr 5 1 (Ax out))]=bS true x b' (out++EC)++[(o2,AC.arr 4 1 ((op++[true]).map V.b))]:=by rw[<-Ez];exact PA g1 g2
    rw[hov]
    clear hov
    simp only[push_cast,seval,reduceEqDiff,hz,Ad c (done:=done) (by omega)]
    repeat' (first|(((first|apply Ac|apply Ag|apply Af)<;>intro _h)<;>simp only[push_cast,seval,reduceEqDiff,_h,hz,Ad c (done:=done) (by omega)])|(refine Aq (by omega) ?_;simp only[push_cast,seval,reduceEqDiff,hz,Ad c (done:=done) (by omega)])|intro _)
    exact⟨_,_,Acq _,Al.refl,done++[c],rest,_,true,b',out++EC,op++[true],k+1,o2,by simp,rfl,hd,by simp;omega,by omega,by simp;omega,by simp;omega,by omega,g3,fun he=>by rw[<-he] at i1;omega,by omega,by omega,rfl⟩
   | false=>
    rw[hK] at hd
    simp only[if_false,AcL] at hd
    simp only[push_cast,seval,reduceEqDiff,hz,Ad c (done:=done) (by omega),bS,f1,f2,f3,f4,f5,f6,hL,hK,Ae5,Akk,Aoq]
    have _h:=trivial;repeat' (first|(first|((first|apply Ac|apply Ag|apply Af)<;>intro _h)|refine Ab hci ?_|refine Ab hce ?_|refine Aq (by omega) ?_)<;>simp only[push_cast,seval,reduceEqDiff,_h,hz,Ad c (done:=done) (by omega),bS,f1,f2,f3,f4,f5,f6,hL,hK,Ae5,Akk,Aoq]|intro _)
    rename_i j6 j5 j4 j3 j2 j1 j0
    generalize ho2:((n+1+j6+1+j5+1+j4+1+j3,25):Id)=o2
    have g1:o2≠x:=fun he=>by grind
    have g2:o2≠b:=fun he=>by grind
    have g3:x.1<o2.1:=by grind
    have g4:o2.1<n+1+j6+1+j5+1+j4+1+j3+1:=by grind
    clear ho2
    rw[Ez]
    exact⟨_,_,Acq _,Al.drop (σ':=bS u x b out++[(o2,AC.arr 4 1 ((op++[false]).map V.b))]) (OW g1 g2) (AbG _),done++[c],rest,_,u,b,out,op++[false],k,o2,by simp,rfl,hd,by simp;omega,q2,by simp;omega,by omega,q5,g3,g2,by omega,by omega,rfl⟩
  | false=>
   rw[hI] at hd hci
   simp only[if_false,AcL] at hd
   cases hC:(c==8297) with
   | false=>
    rw[hC] at hd
    simp only[if_false,AcL] at hd
    simp only[push_cast,seval,reduceEqDiff,hz,Ad c (done:=done) (by omega),hC]
    have _h:=trivial;repeat' (first|(first|((first|apply Ac|apply Ag|apply Af)<;>intro _h)|refine Ab hci ?_|refine Ab hce ?_|refine Aq (by omega) ?_)<;>simp only[push_cast,seval,reduceEqDiff,_h,hz,Ad c (done:=done) (by omega),hC]|intro _)
    refine AV (σi:=bS u x b out) (L7 W0 u x b out EC hne (by omega)) NU (fun n2 v σo hle hQ=>?_)
    obtain⟨rfl,b',i1,i2,rfl⟩:=hQ
    rw[Om (fun p hp=>by grind)]
    simp only[push_cast,seval,reduceEqDiff,hz,Ad c (done:=done) (by omega),hC]
    repeat' (first|(((first|apply Ac|apply Ag|apply Af)<;>intro _h)<;>simp only[push_cast,seval,reduceEqDiff,_h,hz,Ad c (done:=done) (by omega),hC])|(refine Aq (by omega) ?_;simp only[push_cast,seval,reduceEqDiff,hz,Ad c (done:=done) (by omega),hC])|intro _)
    exact⟨_,_,Acq _,Al.refl,done++[c],rest,_,true,b',out++EC,op,k,oid,by simp,rfl,hd,by simp;omega,q2,by simp;omega,by simp;omega,by omega,q6,fun he=>by rw[<-he] at i1;omega,by omega,by omega,rfl⟩
   | true=>
    rw[hC] at hd
    simp only[if_true] at hd
    rcases AtV op with rfl|⟨ops,kp,rfl⟩
    ·simp only[List.getLast?_nil] at hd
     simp only[push_cast,seval,reduceEqDiff,hz,Ad c (done:=done) (by omega),bS,f1,f2,f3,f4,f5,f6,hC,Ae5,Akk,Aoq,AkV]
     have _h:=trivial;repeat' (first|(first|((first|apply Ac|apply Ag|apply Af)<;>intro _h)|refine Ab hci ?_|refine Ab hce ?_|refine Aq (by omega) ?_)<;>simp only[push_cast,seval,reduceEqDiff,_h,hz,Ad c (done:=done) (by omega),bS,f1,f2,f3,f4,f5,f6,hC,Ae5,Akk,Aoq,AkV]|intro _)
     exact⟨_,_,Acq _,Al.refl,done++[c],rest,_,u,b,out,[],k,oid,by simp,rfl,hd,by simp;omega,q2,by simp,by omega,q5,q6,q7,by omega,by omega,rfl⟩
    ·have hgl:(ops++[kp]).getLast?=some kp:=by simp
     have hdl:(ops++[kp]).dropLast=ops:=by simp
     rw[AtW] at *
     rw[hgl,hdl] at hd
     have e0:(((ops++[kp]).length:Int)==0)=false:=by grind
     have w5:IntKind.i64.wrap (((ops++[kp]).length:Int)-1)=(ops.length:Int):=by
      simp only[Aik,AhU,Aiy] at q3⊢
      rw[wrap64 (by omega) (by omega)];omega
     have e1:(List.map V.b (ops++[kp]))[ops.length]?=some (.b kp):=by simp
     have e2:(ops.length<(ops++[kp]).length)=True:=eq_true (by simp)
     have e3:List.take ops.length (List.map V.b (ops++[kp]))=List.map V.b ops:=by simp
     have e4:(ops.length<=(ops++[kp]).length)=True:=eq_true (by simp)
     have w6:IntKind.i64.wrap (k-1)=k-1:=by rw[wrap64 (by omega) (by omega)]
     simp only[Aik,AhU,Aiy] at q3
     cases kp
     ·simp only at hd
      simp only[push_cast,seval,reduceEqDiff,hz,Ad c (done:=done) (by omega),bS,f1,f2,f3,f4,f5,f6,hC,e0,e1,e2,e3,e4,w5,w6,Ae5,Akk,Aoq]
      have _h:=trivial;repeat' (first|(first|((first|apply Ac|apply Ag|apply Af)<;>intro _h)|refine Ab hci ?_|refine Ab hce ?_|refine Aq (by omega) ?_)<;>simp only[push_cast,seval,reduceEqDiff,_h,hz,Ad c (done:=done) (by omega),bS,f1,f2,f3,f4,f5,f6,hC,e0,e1,e2,e3,e4,w5,w6,Ae5,Akk,Aoq]|intro _)
      rename_i j8 j7 j6 j5 j4 j3 j2 j1 j0
      generalize ho2:((n+1+j8+1+j7+1+j6+1+j5+1+j4+1+j3,46):Id)=o2
      have g1:o2≠x:=fun he=>by grind
      have g2:o2≠b:=fun he=>by grind
      have g3:x.1<o2.1:=by grind
      have g4:o2.1<n+1+j8+1+j7+1+j6+1+j5+1+j4+1+j3+1:=by grind
      clear ho2
      exact⟨_,_,Acq _,Al.drop (σ':=bS u x b out++[(o2,AC.arr 4 1 (ops.map V.b))]) (OW g1 g2) (AbG _),done++[c],rest,_,u,b,out,ops,k,o2,by simp,rfl,hd,by simp;omega,q2,by simp;omega,by omega,q5,g3,g2,by omega,by omega,rfl⟩
     ·simp only at hd
      simp only[push_cast,seval,reduceEqDiff,hz,Ad c (done:=done) (by omega),bS,f1,f2,f3,f4,f5,f6,hC,e0,e1,e2,e3,e4,w5,w6,Ae5,Akk,Aoq]
      have _h:=trivial;repeat' (first|(first|((first|apply Ac|apply Ag|apply Af)<;>intro _h)|refine Ab hci ?_|refine Ab hce ?_|refine Aq (by omega) ?_)<;>simp only[push_cast,seval,reduceEqDiff,_h,hz,Ad c (done:=done) (by omega),bS,f1,f2,f3,f4,f5,f6,hC,e0,e1,e2,e3,e4,w5,w6,Ae5,Akk,Aoq]|intro _)
      rename_i j9 j8 j7 j6 j5 j4 j3 j2 j1 j0
      generalize ho2:((n+1+j9+1+j8+1+j7+1+j6+1+j5+1+j4,46):Id)=o2
      have g1:o2≠x:=fun he=>by grind
      have g2:o2≠b:=fun he=>by grind
      have g3:x.1<o2.1:=by grind
      have g4:o2.1<n+1+j9+1+j8+1+j7+1+j6+1+j5+1+j4+1:=by grind
      clear ho2
      refine AV (σi:=bS u x b out) (L7 W0 u x b out EC hne (by omega)) (UA g1 g2) (fun n2 v σo hle hQ=>?_)
      obtain⟨rfl,b',i1,i2,rfl⟩:=hQ
      have hov:over (bS u x b out) (bS true x b' (out++EC)) [(o2,AC.arr 4 1 (List.map V.b ops)),(x,AC.tbox TB (.agg [wA u x,.arr b])),(b,AC.arr 5 1 (Ax out))]=bS true x b' (out++EC)++[(o2,AC.arr 4 1 (ops.map V.b))]:=PA g1 g2
      rw[hov]
      clear hov
      simp only[push_cast,seval,reduceEqDiff,hz,Ad c (done:=done) (by omega)]
      repeat' (first|(((first|apply Ac|apply Ag|apply Af)<;>intro _h)<;>simp only[push_cast,seval,reduceEqDiff,_h,hz,Ad c (done:=done) (by omega)])|(refine Aq (by omega) ?_;simp only[push_cast,seval,reduceEqDiff,hz,Ad c (done:=done) (by omega)])|intro _)
      exact⟨_,_,Acq _,Al.refl,done++[c],rest,_,true,b',out++EC,ops,k-1,o2,by simp,rfl,hd,by simp;omega,by omega,by simp;omega,by simp;omega,by omega,g3,fun he=>by rw[<-he] at i1;omega,by omega,by omega,rfl⟩
def N5(s:Aa):Aa:=Fq [8296]++S2 s++Fq [8297]
theorem YC:∀(l:List Int) (op:List Bool) (k:Int) (out:Aa),k<=8->(DQ l op k out).1.length<=out.length+4*l.length/\(DQ l op k out).2<=8:=by
 intro l
 induction l with
 | nil=>intro op k out hk;rw[DQ];simp;exact hk
 | cons c l ih=>
  intro op k out hk
  have he:=DX c
  rw[DQ]
  split
  ·grind
  ·split
   ·split
    ·grind
    ·grind
    grind
   grind
theorem YW(n:Nat):(GP n).length<=4*n:=by
 induction n with
 | zero=>simp[GP]
 | succ n ih=>have:=DX 8297;rw[GP,Aik];omega
theorem VA(s:Aa):(S2 s).length<=4*s.length+32:=by
 have h1:=YC (Lg s) [] 0 [] (by omega)
 have h2:=YW (DQ (Lg s) [] 0 []).2.toNat
 have h3:=MX s s.length 0
 unfold S2
 rw[Aik]
 have h4:(Lg s).length<=s.length:=h3
 grind
theorem i7(s:Aa):(N5 s).length<=4*s.length+40:=by
 have h1:=VA s
 have h2:=DX 8296
 have h3:=DX 8297
 unfold N5
 grind
theorem Af1(s:Aa)(hs:s.length<=2^24):Am Tryz.prog W0 128 [.s s] [] (.s (N5 s)) []:=by
 have hb:=Ze W0 s hs
 have c1:=Ok W0 8296
 have c2:=Ok W0 8297
 have h1:=VA s
 have h2:=DX 8296
 have h3:=DX 8297
 unfold N5
 generalize Fq [8296]=E1 at *
 generalize Fq [8297]=E2 at *
 generalize S2 s=B at *
 refine Ai (vs:=[.s (E1++B++E2)]) Add (by simp) (by simp) fun n0 hn0=>?_
 clear hn0
 simp only[push_cast,seval,reduceEqDiff]
 have _h:=trivial;repeat' (first|(first|((first|apply Ac|apply Ag|apply Af)<;>intro _h)|refine Ab hb ?_|refine Ab c1 ?_|refine Ab c2 ?_|refine Aq (by simp only[Aik,AhU,Aiy,A9]<;>omega) ?_)<;>simp only[push_cast,seval,reduceEqDiff,_h]|intro _)
 exact Ah (by simp[get])
def J6(x:LB):V:=.agg [.s x.L.tag,.s x.L.parent,.s x.L.dir,.sl (x.L.card.map AH.enc),.sl (x.L.ord.map AH.enc),.s x.L.dec,.s x.L.grp,.s x.L.minus,.s x.L.perc,.i .i64 x.L.prim,.i .i64 x.L.sec,.sl (x.L.lists.map Dc.enc),.sl (x.L.units.map Eb.enc),.sl (x.L.dates.map Dg.enc),.sl (x.L.months.map V.s),.sl (x.L.days.map V.s),.i .i64 x.y,.i .i64 x.m,.i .i64 x.d,.i .i64 x.wd]
structure Nq (x:LB) (c:Nat):Prop where
 y:x.y<2^40
 m1:1<=x.m
 m2:x.m<=12
 d:x.d<2^40
 wd:x.wd<7
 c24:24<=c
 ml:∀s∈x.L.months,s.length<=c
 dl:∀s∈x.L.days,s.length<=c
theorem LK(hT:BM W0)(x:LB)(c:Nat)(hx:Nq x c)(f:Aa):(Fy x f).1.length<=c:=by
 have hc:=hx.c24
 obtain⟨_,l1⟩:=Fi W0 hT x.y (by have:=hx.y;omega)
 obtain⟨_,l2⟩:=Fi W0 hT x.m (by have:=hx.m2;omega)
 obtain⟨_,l3⟩:=Fi W0 hT x.d (by have:=hx.d;omega)
 obtain⟨_,l4⟩:=F6 W0 hT x.m (by have:=hx.m2;omega)
 obtain⟨_,l5⟩:=F6 W0 hT x.d (by have:=hx.d;omega)
 have hg:∀(l:List Aa) (i:Nat),(∀s∈l,s.length<=c)->(l.getD i []).length<=c:=by
  grind
 have g1:=hg x.L.months (x.m-1) hx.ml
 have g2:=hg x.L.days x.wd hx.dl
 unfold Fy
 grind
theorem O7(x:LB):∀(n m:Nat) (p out:Aa),p.length<n->p.length<m->BZ x n p out=BZ x m p out:=by
 intro n
 induction n with
 | zero=>intro m p out h;omega
 | succ n ih=>
  intro m p out h1 h2
  cases m with
  | zero=>omega
  | succ m=>
   rw[BZ,BZ]
   split
   ·rfl
   ·rename_i hp
    have hp':1<=p.length:=by grind
    grind
theorem XR(p:Aa)(hp:p.length<=2^20)(A B:V)(τ:Ak)(n0:Nat)(Q:Exit->St->Prop)
  (hQ:∀n,n0<=n->Q (.exit 2) ⟨[(1,.s p),(2,A),(6,B),(7,.i .i64 ((p.takeWhile D0).length:Nat)),(21,.b false)],τ,n⟩) :
  Kg Tryz.prog W0 48 NM Q ⟨[(1,.s p),(2,A),(6,B),(7,.i .i64 0)],τ,n0⟩:=by
 refine An p.length (Inv:=fun m st=>∃done rest n,p=done++rest/\m=rest.length/\(∀c∈done,D0 c=true)/\n0<=n/\st=⟨[(1,.s p),(2,A),(6,B),(7,.i .i64 done.length)],τ,n⟩) ⟨_,Al.refl,[],p,_,rfl,rfl,by simp,AbG _,rfl⟩ ?_
 rintro m _ ⟨done,rest,n,hz,rfl,hl,hn,rfl⟩
 cases rest with
 | nil=>
  have hpd:p.takeWhile D0=done:=by
   have:=(eW (p:=D0) (w:=done) (r:=[]) hl (by simp)).1
   rw[hz];simpa using this
  rw[hpd] at hQ
  have hlt:decide ((done.length:Int)<(p.length:Int))=false:=by rw[hz];simp
  simp only[push_cast,seval,reduceEqDiff,hlt]
  grind
 | cons c rest=>
  have hbd:=AN hz
  have hcl:=aN W0 c
  cases hC:D0 c with
  | true=>
   rw[hC] at hcl
   simp only[push_cast,seval,reduceEqDiff,hz,Ad c (done:=done) (by omega)]
   have _h:=trivial;repeat' (first|(first|((first|apply Ac|apply Ag|apply Af)<;>intro _h)|refine Ab hcl ?_|refine Aq (by omega) ?_)<;>simp only[push_cast,seval,reduceEqDiff,_h,hz,Ad c (done:=done) (by omega)]|intro _)
   exact⟨_,_,Acq _,Al.refl,done++[c],rest,_,by simp,rfl,fun d hd=>by
    grind
,by omega,rfl⟩
  | false=>
   rw[hC] at hcl
   have hpd:p.takeWhile D0=done:=by
    simp_all
   rw[hpd,hz] at hQ
   simp only[push_cast,seval,reduceEqDiff,hz,Ad c (done:=done) (by omega)]
   have _h:=trivial;repeat' (first|(first|((first|apply Ac|apply Ag|apply Af)<;>intro _h)|refine Ab hcl ?_|refine Aq (by omega) ?_)<;>simp only[push_cast,seval,reduceEqDiff,_h,hz,Ad c (done:=done) (by omega)]|intro _)
   exact hQ _ (by omega)
set_option maxHeartbeats 4000000 in
theorem yT(hT:BM W0)(x:LB)(c:Nat)(hx:Nq x c)(p:Aa)(hp:p.length<=2^20)(hb:(p.length+1)*(c+1)<=2^29):Am Tryz.prog W0 218 [J6 x,.s p] [] (.tup [.s (Io x p).1,.i .i64 (Io x p).2]) []:=by
 generalize hS:Io x p=S
 unfold Io at hS
 have hfl:=LK W0 hT x c hx
 unfold J6
 refine Ai (vs:=[.s S.1,.i .i64 S.2]) AgD (by simp) (by simp) fun n0 hn0=>?_
 clear hn0
 simp only[push_cast,seval,reduceEqDiff]
 repeat' (first|(((first|apply Ac|apply Ag|apply Af)<;>intro _h)<;>simp only[push_cast,seval,reduceEqDiff,_h])|(refine Aq (by omega) ?_;simp only[push_cast,seval,reduceEqDiff])|intro _)
 rename_i k1 k2
 generalize hbx:((n0+1+k1,6):Id)=bx
 have hbx1:bx.1<n0+1+k1+1+k2:=by grind
 have hbx2:n0<bx.1:=by grind
 generalize n0+1+k1+1+k2=n1 at *
 have hd9:Nq x c:=hx
 obtain⟨DV,hDV⟩:∃DV,DV=J6 x:=⟨_,rfl⟩
 refine An p.length (Inv:=fun m st=>∃n u b q out,m=q.length/\BZ x (q.length+1) q out=S/\q.length<=p.length/\out.length+q.length*(c+1)<=2^29/\bx.1<b.1/\b.1<n/\st=⟨[(1,.s q),(2,.ref (n0,2) 0),(6,.ref bx 0)],bS u bx b out++[((n0,2),.box (J6 x))],n⟩) ⟨_,Al.bld hbx1,_,false,(n1,0),p,[],rfl,hS,AbG _,by grind,hbx1,Acq _,rfl⟩ ?_
 clear hS hbx1
 rintro m _ ⟨n,u,b,q,out,rfl,hd,hq,ho,hb1,hb2,rfl⟩
 have hne:b≠bx:=fun he=>by rw[he] at hb1;omega
 have f1:(bx=b)=False:=eq_false (Ail hne)
 have f2:(b=bx)=False:=eq_false hne
 have f3:∀j,(((n0,j):Id)=bx)=False:=fun j=>eq_false fun he=>by grind
 have f4:∀j,(bx=((n0,j):Id))=False:=fun j=>eq_false fun he=>by grind
 have f5:∀j,(((n0,j):Id)=b)=False:=fun j=>eq_false fun he=>by grind
 have f6:∀j,(b=((n0,j):Id))=False:=fun j=>eq_false fun he=>by grind
 have htau:∀E:AC,∀p∈[(((n0,2):Id),E)],p.1≠bx/\p.1≠b:=fun E p hp=>by
  grind
 cases q with
 | nil=>
  rw[BZ] at hd
  simp only[beq_self_eq_true,if_true] at hd
  subst hd
  have hst:=T8 W0 u bx b out hne (by simp at ho;omega)
  simp only[push_cast,seval,reduceEqDiff]
  intros
  refine BF hst NU ?_
  simp only[push_cast,seval,reduceEqDiff]
  intros
  refine Ae ?_
  simp[push_cast,get]
 | cons ch q=>
  obtain⟨R,hR⟩:∃R,R=ch::q:=⟨_,rfl⟩
  have hRl:R.length=q.length+1:=by rw[hR];simp
  have hR0:R[0]?=some ch:=by rw[hR];rfl
  have hRd:R.drop 1=q:=by rw[hR];rfl
  have hRt:R.take 1=[ch]:=by rw[hR];rfl
  have hRb:(R==([]:Aa))=false:=by rw[hR];rfl
  rw[<-hR] at hd hq ho⊢
  clear hR
  rw[BZ,hRb] at hd
  simp only[if_false,AcL] at hd
  simp only[push_cast,seval,reduceEqDiff,hRb]
  intros
  refine XR W0 R (by omega) _ _ _ _ _ (fun n3 hn3=>?_)
  have hkl:(R.takeWhile D0).length<=R.length:=(List.takeWhile_sublist _).length_le
  have hfd:=gU W0 hT x (R.take (R.takeWhile D0).length) hx.y ⟨hx.m1,hx.m2⟩ hx.d hx.wd
  have hfv:=hfl (R.take (R.takeWhile D0).length)
  generalize(R.takeWhile D0).length=K at *
  have hK0:((K:Int)==0)=(K==0):=by rw[ApH];simp
  cases hk:(K==0) with
  | true=>
   rw[hk] at hd
   simp only[if_true] at hd
   simp only[push_cast,seval,reduceEqDiff,hK0,hk,hR0]
   intros
   have hol:out.length+1<=2^29:=by
    grind
   refine AV (σi:=bS u bx b out) (Aep W0 u bx b out ch hne (by omega)) NU (fun n2 v σo hle hQ=>?_)
   obtain⟨rfl,b',i1,i2,rfl⟩:=hQ
   rw[Om (htau _)]
   have w4:(1<=R.length)=True:=eq_true (by omega)
   simp only[push_cast,seval,reduceEqDiff,w4,hRd,AbG,Aip]
   repeat' (first|(((first|apply Ac|apply Ag|apply Af)<;>intro _h)<;>simp only[push_cast,seval,reduceEqDiff,_h,w4,hRd,AbG,Aip])|(refine Aq (by omega) ?_;simp only[push_cast,seval,reduceEqDiff,w4,hRd,AbG,Aip])|intro _)
   refine⟨_,_,show q.length<R.length by omega,Al.refl,_,true,b',q,out++[ch],rfl,?_,by omega,?_,by omega,by omega,rfl⟩
   ·grind
   ·rw[hRl,Aul] at ho
    grind
  | false=>
   rw[hk] at hd
   simp only[if_false,AcL] at hd
   have hk1:1<=K:=by
    grind
   have w4:(K<=R.length)=True:=eq_true hkl
   generalize hF:Fy x (R.take K)=FV at *
   have hlk:∀E:AC,lk (bS u bx b out++[((n0,2),E)]) (n0,2)=some E:=fun E=>by simp only[bS,Akk,Aoq,lk,f1,f2,f3,f4,f5,f6,if_false,if_true]
   cases hE:(FV.2==0) with
   | true=>
    rw[hE] at hd
    simp only[if_true] at hd
    have hol:out.length+FV.1.length<=2^29:=by
     have:1*(c+1)<=R.length*(c+1):=AsY _ (by omega)
     omega
    simp only[push_cast,seval,reduceEqDiff,hK0,hk,hlk,J6,w4,hE,bne,Ajt,AbG,Aip]
    intros
    refine Ab (by exact hfd) ?_
    simp only[push_cast,seval,reduceEqDiff,hK0,hk,hlk,J6,w4,hE,bne,Ajt,AbG,Aip]
    repeat' (first|(((first|apply Ac|apply Ag|apply Af)<;>intro _h)<;>simp only[push_cast,seval,reduceEqDiff,_h,hK0,hk,hlk,J6,w4,hE,bne,Ajt,AbG,Aip])|(refine Aq (by omega) ?_;simp only[push_cast,seval,reduceEqDiff,hK0,hk,hlk,J6,w4,hE,bne,Ajt,AbG,Aip])|intro _)
    refine AV (σi:=bS u bx b out) (L7 W0 u bx b out FV.1 hne (by omega)) NU (fun n2 v σo hle hQ=>?_)
    obtain⟨rfl,b',i1,i2,rfl⟩:=hQ
    rw[Om (htau _)]
    simp only[push_cast,seval,reduceEqDiff,hK0,w4,Ajt,AbG,Aip]
    repeat' (first|(((first|apply Ac|apply Ag|apply Af)<;>intro _h)<;>simp only[push_cast,seval,reduceEqDiff,_h,hK0,w4,Ajt,AbG,Aip])|(refine Aq (by omega) ?_;simp only[push_cast,seval,reduceEqDiff,hK0,w4,Ajt,AbG,Aip])|intro _)
    refine⟨_,_,show(R.drop K).length<R.length by simp;omega,Al.refl,_,true,b',R.drop K,out++FV.1,rfl,?_,by simp;omega,?_,by omega,?_,rfl⟩
    ·rw[O7 x _ R.length (R.drop K) _ (by omega) (by simp;omega)];exact hd
    ·have h1:R.length*(c+1)=(R.drop K).length*(c+1)+K*(c+1):=by rw[<-Aul];congr 1;simp;omega
     have h2:1*(c+1)<=K*(c+1):=AsY _ hk1
     grind
    ·omega
   | false=>
    rw[hE] at hd
    simp only[if_false,AcL] at hd
    subst hd
    simp only[push_cast,seval,reduceEqDiff,hK0,hk,hlk,J6,w4,hE,bne,Ajt,AbG,Aip]
    intros
    refine Ab (by exact hfd) ?_
    simp only[push_cast,seval,reduceEqDiff,hK0,hk,hlk,J6,w4,hE,bne,Ajt,AbG,Aip]
    repeat' (first|(((first|apply Ac|apply Ag|apply Af)<;>intro _h)<;>simp only[push_cast,seval,reduceEqDiff,_h,hK0,hk,hlk,J6,w4,hE,bne,Ajt,AbG,Aip])|(refine Aq (by omega) ?_;simp only[push_cast,seval,reduceEqDiff,hK0,hk,hlk,J6,w4,hE,bne,Ajt,AbG,Aip])|intro _)
    refine Ae ?_
    simp[push_cast,get]
structure sZ (L:BV) (c:Nat):Prop where
 c24:24<=c
 ml:∀s∈L.months,s.length<=c
 dl:∀s∈L.days,s.length<=c
 n:L.dates.length<=2^20
 sk:∀p∈L.dates,p.skel.length<=2^20
 pt:∀p∈L.dates,p.pat.length<=2^20/\(p.pat.length+1)*(c+1)<=2^29
theorem XQ(A:OL):∀(l:List Dg) (i best least:Int),CR A l i best least=best\/i<=CR A l i best least/\CR A l i best least<i+l.length:=by
 intro l
 induction l with
 | nil=>intro i best least;left;rw[CR]
 | cons p l ih=>
  intro i best least
  rw[CR]
  grind
theorem vC{l:List Dg}{sk:Aa}(h:(Ea l sk).2=0):∃(i:Nat) (p:Dg),(Ea l sk).1=i/\l[i]?=some p:=by
 unfold Ea at h⊢
 cases hF:Ck sk with
 | none=>rw[hF] at h;cases h
 | some w=>
  rw[hF] at h
  simp only at h⊢
  have hb:=XQ (E5 w) l 0 (-1) 0
  generalize CR (E5 w) l 0 (-1) 0=B at *
  by_cases hB:B<0
  ·grind
  ·rw[if_neg hB]
   refine⟨B.toNat,l[B.toNat]'(by omega),by simp only;omega,Ain (by omega)⟩
theorem XK(l:List Dg)(sk:Aa):(Ea l sk).2=0\/(Ea l sk).2=3\/(Ea l sk).2=8:=by
 unfold Ea
 grind
set_option maxHeartbeats 4000000 in
theorem Zv(hT:BM W0)(L:BV)(c:Nat)(hL:sZ L c)(sk:Aa)(d:Int)(hs:sk.length<=2^24):Am Tryz.prog W0 158 [L.enc,.s sk,.i .i64 d] [] (.tup [.s (Es L sk d).1,.i .i64 (Es L sk d).2]) []:=by
 have hbe:=Aga W0 L.dates sk hs (by have:=hL.n;omega) hL.sk
 have her:=XK L.dates sk
 have hin:=@vC L.dates sk
 generalize hS:Es L sk d=S
 unfold Es at hS
 rw[BV.enc_eq]
 cases hd:D8 d with
 | false=>
  have hc:=RD W0 d hd
  rw[hd] at hS
  refine Ai (vs:=[.s S.1,.i .i64 S.2]) KX (by simp) (by simp) fun n0 hn0=>?_
  clear hn0
  simp only[push_cast,seval,reduceEqDiff]
  all_goals ((try simp only[bq,if_true,if_false,Int.reduceBEq,reduceCtorEq] at hS);subst hS)
  all_goals (try simp only[push_cast,seval,reduceEqDiff])
  all_goals (repeat' (first|((first|refine Ab (by exact hc) ?_|refine Aq (by omega) ?_);(try simp only[push_cast,seval,reduceEqDiff]))|intro _))
  all_goals (first|(refine Ah ?_;simp[get];done)|(refine Ae ?_;simp[push_cast,get];done)|skip)
 | true=>
  have hc:=VI W0 d hd
  have hwd:=Yl W0 d hd
  obtain⟨q1,q2,q3,q4,q5,q6⟩:=NK hd
  have hday:Nq (Kr L d) c:=by
   have h7:(d+25567).tmod 7<7:=Int.tmod_lt_of_pos _ (by omega)
   refine⟨?_,q3,q4,?_,?_,hL.c24,hL.ml,hL.dl⟩
   ·show(GH d).1.toNat<_;omega
   ·show((Fp d).2+1).toNat<_;omega
   ·show((d+25567).tmod 7).toNat<_;omega
  have hdt:=fun(p:Aa) (h1:p.length<=2^20) (h2:(p.length+1)*(c+1)<=2^29)=>yT W0 hT (Kr L d) c hday p h1 h2
  have e1:(((Kr L d).y:Nat):Int)=(GH d).1:=by show((GH d).1.toNat:Int)=_;omega
  have e3:(((Kr L d).d:Nat):Int)=(Fp d).2+1:=by show(((Fp d).2+1).toNat:Int)=_;omega
  unfold J6 at hdt
  rw[e1,e3] at hdt
  rw[hd] at hS
  simp only[if_true] at hS
  generalize hB1:(Ea L.dates sk).1=B1 at *
  generalize hB2:(Ea L.dates sk).2=B2 at *
  rcases her with rfl|rfl|rfl
  ·obtain⟨i,p,rfl,hp⟩:=hin rfl
   have hpm:=hL.pt p (Ai1 hp)
   have hdtp:=hdt p.pat hpm.1 hpm.2
   have how:=AlV W0 p.pat hpm.1
   have hg:(L.dates.map Dg.enc)[i]?=some p.enc:=by simp_all
   have hil:(i<L.dates.length)=True:=eq_true (AlY.1 hp).1
   have z1:((0:Int)==8)=false:=rfl
   have z2:((0:Int)==0)=true:=rfl
   simp only[z1,z2,if_true,if_false,AcL,Aun,hp] at hS
   generalize Io (Kr L d) p.pat=DT at *
   rw[Dg.enc_eq] at hg
   cases hO:YT p.pat with
   | true=>
    rw[hO] at how hS
    simp only[if_true] at hS
    subst hS
    refine Ai (vs:=[.s DT.1,.i .i64 DT.2]) KX (by simp) (by simp) fun n0 hn0=>?_
    clear hn0
    simp only[push_cast,seval,reduceEqDiff,hg,hil]
    have _h:=trivial;repeat' (first|(first|((first|apply Ac|apply Ag|apply Af)<;>intro _h)|refine Ab hc ?_|refine Ab hbe ?_|refine Ab how ?_|refine Ab hwd ?_|refine Ab hdtp ?_|refine Aq (by omega) ?_)<;>simp only[push_cast,seval,reduceEqDiff,_h,hg,hil]|intro _)
    refine Ae ?_
    simp[push_cast,get]
   | false=>
    rw[hO] at how hS
    simp only[if_false,AcL] at hS
    subst hS
    refine Ai (vs:=[.s [],.i .i64 4]) KX (by simp) (by simp) fun n0 hn0=>?_
    clear hn0
    simp only[push_cast,seval,reduceEqDiff,hg,hil]
    have _h:=trivial;repeat' (first|(first|((first|apply Ac|apply Ag|apply Af)<;>intro _h)|refine Ab hc ?_|refine Ab hbe ?_|refine Ab how ?_|refine Ab hwd ?_|refine Aq (by omega) ?_)<;>simp only[push_cast,seval,reduceEqDiff,_h,hg,hil]|intro _)
    refine Ae ?_
    simp[push_cast,get]
  ·simp only[show((3:Int)==8)=false from rfl,show((3:Int)==0)=false from rfl,if_false,AcL] at hS
   subst hS
   refine Ai (vs:=[.s [],.i .i64 3]) KX (by simp) (by simp) fun n0 hn0=>?_
   clear hn0
   simp only[push_cast,seval,reduceEqDiff]
   have _h:=trivial;repeat' (first|(first|((first|apply Ac|apply Ag|apply Af)<;>intro _h)|refine Ab hc ?_|refine Ab hbe ?_|refine Aq (by omega) ?_)<;>simp only[push_cast,seval,reduceEqDiff,_h]|intro _)
   refine Ae ?_
   simp[push_cast,get]
  ·simp only[show((8:Int)==8)=true from rfl,if_true] at hS
   subst hS
   refine Ai (vs:=[.s [],.i .i64 18]) KX (by simp) (by simp) fun n0 hn0=>?_
   clear hn0
   simp only[push_cast,seval,reduceEqDiff]
   have _h:=trivial;repeat' (first|(first|((first|apply Ac|apply Ag|apply Af)<;>intro _h)|refine Ab hc ?_|refine Ab hbe ?_|refine Aq (by omega) ?_)<;>simp only[push_cast,seval,reduceEqDiff,_h]|intro _)
   refine Ae ?_
   simp[push_cast,get]
end Go.Ir

namespace Go.Ir
open Go.Proofs
variable{P:Program}{W0:World}{nt n:Nat}{Q:Exit→St→Prop}{env:AD}{σ:Ak}
def Wp:IC:=sQ (.ops [fA 22 2 1,l1 23 22,m1 24 1,o1 25 (.iaddr (.t 24) (ci 0) 9 1),l1 26 25,m1 27 1,o1 28 (.iaddr (.t 27) (ci 1) 9 1),l1 29 28,q3 30 280 23 26 29,sT 4 30 1] [4] [[0,1],[2,3],[3,4],[5,6],[6,7],[1,8],[4,8],[7,8],[1,9],[3,9],[4,9],[6,9],[7,9],[8,9]]) .ret
def Vk:IC:=oS [bZ 16 .eql 12 1,m1 15 16] [1,2,4,5,12,15] (cD 15 (oR [m1 17 1,o1 18 (.iaddr (.t 17) (ci 0) 9 1),l1 19 18,sT 4 19 1] [4]) (oS [bZ 21 .eql 12 2,m1 20 21] [1,2,4,5,20] (cD 20 Wp .skip)))
def DJ:IC:=oS [m1 7 49] [2,4,6,7,50] (oP [m1 8 50] [2,4,6,7,8])
def UL:IC:=sQ (oS [m1 57 7,bZ 58 .eql 57 0] [2,6,8,9,58] (cD 58 (oP [fA 59 2 2,l1 60 59,m1 9 60] [6,8,9]) .skip)) (oP [m1 61 9,m1 62 8,l1 63 6,q3 64 280 61 62 63,sT 6 64 1] [])
def DG:IC:=.block 2 (sQ (oS [l1 51 6,nS 52 51,bZ 53 .gtr 52 20000] [2,4,6,7,8,53] (cD 53 (oR [l1 54 6,sT 4 54 1] []) .skip)) (oS [fA 55 2 3,l1 56 55,m1 9 56] [2,6,7,8,9] UL))
def Uz:IC:=sQ (sQ (.opx [m1 44 1,m1 45 5,bZ 46 .sub 45 2,o1 47 (.slL (.t 44) none (some (.t 46)) 1)] [2,4,6,47] 48 281 [.t 47] [] [2,4,6,48]) (.block 1 (.rfn (.t 48) [49,50] DJ DG [2,4,6,49,50] [4,6]))) (oR [l1 65 6,sT 4 65 1] [4])
def WJ:IC:=sQ (.ops [fA 31 2 4,l1 32 31,m1 33 1,m1 34 5,bZ 35 .sub 34 2,iA 36 33 35 9 1,l1 37 36,m1 38 1,m1 39 5,bZ 40 .sub 39 1,iA 41 38 40 9 1,l1 42 41,q3 43 280 32 37 42,o1 6 (.alloc (.s [])),sT 6 43 1] [1,2,4,5,6] [[0,1],[3,4],[2,5],[4,5],[5,6],[8,9],[7,10],[9,10],[10,11],[1,12],[6,12],[11,12],[1,14],[5,14],[6,14],[10,14],[11,14],[12,14],[13,14]]) Uz
def mU:IC:=oS [m1 10 1,nL 11 10,m1 5 11] [1,2,4,5] (sQ (oS [m1 12 5] [1,2,4,5,12] (.block 0 (oS [bZ 14 .eql 12 0,m1 13 14] [1,2,4,5,12,13] (cD 13 (oR [o0 (.store (.t 4) (.c (.s [])) 1)] [4]) Vk)))) WJ)
def sB:IC:=oS [bX 2 0,o1 4 (.alloc (.s []))] [1,2,4] mU
@[push_cast]def Aji:List R:=[.c 4 1 false]
@[push_cast]def AqZ:=As Wp.eq_1<|As Vk.eq_1<|As DJ.eq_1<|As UL.eq_1<|As DG.eq_1<|As Uz.eq_1<|As WJ.eq_1<|As mU.eq_1<|AL sB.eq_1
theorem Pp:Aw Tryz.prog 220 66 sB Aji=true:=by kernel_rfl
def pS:IC:=oS [bX 1 0,mC 2 .nf] [1] (oR [o1 3 (.mkfn 314 [] [.t 1]),m1 2 3] [2])
@[push_cast]def Anq:List R:=[.t 2]
@[push_cast]def Ars:=AL pS.eq_1
theorem Ahs:Aw Tryz.prog 281 4 pS Anq=true:=by kernel_rfl
def cK:IC:=sQ (.block 1 (sQ (.opxv [m1 11 0,m1 12 3,l1 13 1,m1 14 3,iA 15 13 14 9 1,l1 16 15] [0,1,3,11,12,16] 17 (.t 11) [.t 12,.t 16] [nT 18 17] [0,1,3,18]) (cD 18 .ret .skip))) (oP [m1 9 3,bZ 10 .sub 9 1,m1 3 10] [0,1,3])
def jV:IC:=oS [l1 4 1,nL 5 4,bZ 6 .sub 5 1,m1 3 6] [0,1,3] (.block 0 (.loop (sQ (oS [m1 7 3,bZ 8 .geq 7 0] [0,1,3,8] (cD 8 .skip (.exit 0))) cK)))
@[push_cast]def AjN:List R:=[]
@[push_cast]def AqC:=As cK.eq_1<|AL jV.eq_1
theorem Agk:Aw Tryz.prog 314 19 jV AjN=true:=by kernel_rfl
end Go.Ir
section
namespace Go.Ir
open Go.Proofs
section
variable{P:Program}{W0:World}{nt n:Nat}{env:AD}{σ:Ak}
def ApV(id:Id)(n:Nat)(R:Nat->Nat->V->Ak->Prop)(e:Exit)(s:St):Prop:=
 ∃pd nt2 env2 ps2 a2 b2 st2 pd2 σ',e=eS pd/\lk s.σ id=some (.loop nt2 env2 ps2 a2 b2 st2 pd2)/\(∀j x,lk σ' j=some x->lk (upd s.σ id (.loop nt2 env2 ps2 a2 b2 (bif pd.isNone then .ready else .done) pd)) j=some x)/\R n s.n (.b pd.isNone) σ'
theorem Ag1(hP:Gw P){id:Id}{vs:List V}{ps:List Nat}{a b:IC}{pd:Option (Option Nat)}{R:Nat->Nat->V->Ak->Prop}
  (hl0:lk σ id=some (.loop nt env ps a b .ready pd))(hlen:vs.length=ps.length)(hps:(ps.all fun p=>Nat.blt p nt)=true)(hnr:(a.nr&&b.nr)=true)
  (h:∀n,(∀id e,lk σ id=some e->id.1<n)->aW P W0 nt a (fun e s1=>e=.normal/\∃nt1 env1 ps1 a1 b1 pd1,lk s1.σ id=some (.loop nt1 env1 ps1 a1 b1 .ready pd1)/\
   aW P W0 nt b (QW W0 nt (ApV id n R)) ⟨s1.env,upd s1.σ id (.loop nt1 env1 ps1 a1 b1 .busy pd1),s1.n⟩) ⟨HO ps vs env,σ,n⟩):Sz P W0 (.arr id::vs) σ R:=
 X4 hP hl0 hlen hps hnr fun n hn=>Lu (BY (h n hn)) fun e s1 ⟨he,nt1,env1,ps1,a1,b1,pd1,hl1,hb⟩=>⟨he,nt1,env1,ps1,a1,b1,pd1,hl1,LT (BY hb)⟩
theorem AgX(hP:Gw P){s:Nat}{ps:List Nat}{a b:IC}{en live:List Nat}{Q:Exit->St->Prop}{f0:FuncId}{first caps:List V}(hg:get env s=.fn f0 first caps){σi:Ak}{R:Nat->Nat->V->Ak->Prop}
  (hR:Ei P W0 f0 (first++[.arr (n,0)]++caps) σi R)(hs:∀id e,lk σi id=some e->lk (((n,0),AC.loop nt (restrict en env) ps a b .ready none)::σ) id=some e)
  (hQ:∀n' v σo,n+1<=n'->R (n+1) n' v σo->∃nt1 env1 ps1 a1 b1 s pd,lk (over σi σo (((n,0),AC.loop nt (restrict en env) ps a b .ready none)::σ)) (n,0)=some (.loop nt1 env1 ps1 a1 b1 s pd)/\JF s=false/\Q (eS pd) ⟨restrict live env,del (over σi σo (((n,0),AC.loop nt (restrict en env) ps a b .ready none)::σ)) (n,0),n'⟩) :
  AhJ P W0 nt (.t s) ps a b en live Q ⟨env,σ,n⟩:=AaA (st:=⟨env,σ,n⟩) hP hg hR hs hQ
end
variable(W0:World)
theorem Agw(es:List V):Ei Tryz.prog W0 281 [.sl es] [] (fun n n' v σ'=>∃id:Id,n<=id.1/\id.1<n'/\v=.fn 314 [] [.ref id 0]/\σ'=[(id,.box (.sl es))]):=by
 generalize hR:(fun(n n':Nat) (v:V) (σ':Ak)=>∃id:Id,n<=id.1/\id.1<n'/\v=V.fn 314 [] [.ref id 0]/\σ'=[(id,.box (.sl es))])=R
 refine BP Ahs (by simp) fun n0 hn0=>?_
 clear hn0
 simp only[push_cast,seval,reduceEqDiff]
 intro k1 k2
 subst hR
 exact⟨_,Al.refl,[.fn 314 [] [.ref (n0,1) 0]],_,⟨rfl,trivial⟩,fun _ _ h=>h,(n0,1),AbG _,by simp only;omega,rfl,rfl⟩
theorem uY(l:List Aa)(hes:l.length<=2^30)(id sid:Id)(Inv:Nat->Ak->Prop)(Out:Ak->Prop)(hI:∀k σ,Inv k σ->lk σ sid=none)
  (hY:∀k σ e,Inv k σ->k<l.length->l[l.length-1-k]?=some e->∃R,Sz Tryz.prog W0 [.arr id,.i .i64 ((l.length:Int)-1-k),.s e] σ R/\∀n n' v σ',R n n' v σ'->(v=.b true/\Inv (k+1) σ')\/(v=.b false/\Out σ'))
  (σ0:Ak)(h0:Inv 0 σ0):Ei Tryz.prog W0 314 [.arr id,.ref sid 0] (σ0++[(sid,.box (.sl (l.map V.s)))]) (fun n n' v σ'=>Inv l.length σ'\/Out σ'):=by
 have hsd:∀σ,lk σ sid=none->lk (σ++[(sid,.box (.sl (l.map V.s)))]) sid=some (.box (.sl (l.map V.s))):=fun σ h=>by rw[Nj,h];simp[lk]
 have hov:∀σ σo,lk σ sid=none->over σ σo (σ++[(sid,.box (.sl (l.map V.s)))])=σo++[(sid,.box (.sl (l.map V.s)))]:=fun σ σo h=>by
  have h2:=DZ (σi:=σ) (σo:=σo) (pre:=[]) (fun p hp=>by cases hp)
  rw[Aoq,Aou] at h2
  unfold over at h2⊢
  rw[At9,<-Ask,h2]
  simp[h]
 have hlm:(l.map V.s).length=l.length:=by simp
 generalize hR:(fun(n n':Nat) (v:V) (σ':Ak)=>Inv l.length σ'\/Out σ')=R
 refine BP Agk (by simp) fun n0 hn0=>?_
 clear hn0
 have hl0:=hsd _ (hI _ _ h0)
 have hw0:IntKind.i64.wrap ((l.length:Int)-1)=(l.length:Int)-1:=wrap64 (by omega) (by omega)
 simp only[push_cast,seval,reduceEqDiff,hl0,hlm,hw0]
 intros
 refine An l.length (Inv:=fun m st=>∃k σ n,m=l.length-k/\k<=l.length/\Inv k σ/\st=⟨[(0,.arr id),(1,.ref sid 0),(3,.i .i64 ((l.length:Int)-1-k))],σ++[(sid,.box (.sl (l.map V.s)))],n⟩) ⟨_,Al.refl,0,σ0,_,rfl,Ajt _,h0,by rw[show((0:Nat):Int)=0 from rfl,Int.sub_zero]⟩ ?_
 rintro m _ ⟨k,σ,n,rfl,hk,hi,rfl⟩
 have hl:=hsd _ (hI _ _ hi)
 by_cases hlt:k<l.length
 ·obtain⟨e,he⟩:∃e,l[l.length-1-k]?=some e:=⟨l[l.length-1-k]'(by omega),Ain (by omega)⟩
  obtain⟨R',hR',hRR⟩:=hY k σ e hi hlt he
  have he':(l.map V.s)[l.length-1-k]?=some (.s e):=by simp[he]
  have hge:decide ((l.length:Int)-1-k>=0)=true:=by simp;omega
  have hnn:(0<=(l.length:Int)-1-k)=True:=by simp;omega
  have htn:((l.length:Int)-1-k).toNat=l.length-1-k:=by omega
  have hw1:IntKind.i64.wrap ((l.length:Int)-1-k-1)=(l.length:Int)-1-(k+1:Nat):=by rw[wrap64 (by omega) (by omega)];omega
  simp only[push_cast,seval,reduceEqDiff,hl,hge,hnn,htn,he']
  intro k1 k2
  refine Aag hR' (fun _ _ h=>Bh h) (fun n2 v σo hle hr=>?_)
  rw[hov _ _ (hI _ _ hi)]
  rcases hRR _ _ _ _ hr with⟨rfl,hi'⟩|⟨rfl,ho⟩
  ·simp only[push_cast,seval,reduceEqDiff,hw1]
   intros
   exact⟨_,_,by omega,Al.refl,k+1,σo,_,rfl,hlt,hi',rfl⟩
  ·simp only[push_cast,seval,reduceEqDiff]
   intros
   subst hR
   exact⟨_,Al.refl,[],σo,trivial,fun _ _ h=>Bh h,.inr ho⟩
 ·have:k=l.length:=by omega
  subst this
  have hge:decide ((l.length:Int)-1-l.length>=0)=false:=by simp;omega
  simp only[push_cast,seval,reduceEqDiff,hge]
  intros
  subst hR
  exact⟨_,Al.refl,[],σ,trivial,fun _ _ h=>Bh h,.inl hi⟩
end Go.Ir
end
namespace Go.Ir
open Go.Proofs
variable(W0:World)
theorem GB{W0:World}{nt n:Nat}{env:AD}{σ:Ak}{s k:Nat}{ag:Bool}{v u:V}{id:Id}{off:Nat}(h:get env s=.ref id off)(hl:lk σ id=some (.box u))(hs:sub u off k ag=some v):TE W0 nt [.c s k ag] [v] [] .ret ⟨env,σ,n⟩:=
 ⟨_,Al.refl,⟨⟨id,off,u,h,hl,hs⟩,trivial⟩,fun id e h=>by simp[lk] at h⟩
theorem Se(σ σo:Ak):over [] σo σ=σo++σ:=by simp[over,lk]
theorem gR(p:Dc)(l:List Aa)(hp:p.two.length<=2^20/\p.start.length<=2^20/\p.mid.length<=2^20/\p.fin.length<=2^20)(hl:l.length<=1000)(hs:∀s∈l,s.length<=2^20)
  (hf:∀q a b:Aa,q.length<=2^20->a.length<=2^21->b.length<=2^21->Am Tryz.prog W0 280 [.s q,.s a,.s b] [] (.s (EL q a b)) []/\(EL q a b).length<=q.length+a.length+b.length) :
  Am Tryz.prog W0 220 [p.enc,.sl (l.map V.s)] [] (.s (N7 p l)) []:=by
 obtain⟨hp1,hp2,hp3,hp4⟩:=hp
 generalize hS:N7 p l=S
 rw[Dc.enc_eq]
 match l,hS with
 | [],hS=>
  have hS:[]=S:=hS
  subst hS
  refine Ai (vs:=[.s []]) Pp (by simp) (by simp) fun n0 hn0=>?_
  clear hn0
  simp only[push_cast,seval,reduceEqDiff]
  intros
  exact GB (u:=.s []) rfl (by simp[lk]) rfl
 | [a],hS=>
  have hS:a=S:=hS
  subst hS
  refine Ai (vs:=[.s a]) Pp (by simp) (by simp) fun n0 hn0=>?_
  clear hn0
  simp only[push_cast,seval,reduceEqDiff]
  intros
  exact GB (u:=.s a) rfl (by simp[lk]) rfl
 | [a,b],hS=>
  have hS:EL p.two a b=S:=hS
  have h1:=hs a (by simp)
  have h2:=hs b (by simp)
  have c1:=(hf p.two a b hp1 (by omega) (by omega)).1
  subst hS
  refine Ai (vs:=[.s (EL p.two a b)]) Pp (by simp) (by simp) fun n0 hn0=>?_
  clear hn0
  simp only[push_cast,seval,reduceEqDiff]
  have _h:=trivial;repeat' (first|(first|((first|apply Ac|apply Ag|apply Af)<;>intro _h)|refine Ab c1 ?_)<;>simp only[push_cast,seval,reduceEqDiff,_h]|intro _)
  exact GB (u:=.s (EL p.two a b)) rfl (by simp[lk]) rfl
 | a::b::c::l,hS=>
  have hN:3<=(a::b::c::l).length:=by simp
  have hS:IB p ((a::b::c::l).take ((a::b::c::l).length-2)).reverse (EL p.fin ((a::b::c::l).getD ((a::b::c::l).length-2) []) ((a::b::c::l).getD ((a::b::c::l).length-1) []))=S:=hS
  generalize(a::b::c::l)=L at *
  obtain⟨x,hx⟩:∃x,L[L.length-2]?=some x:=⟨L[L.length-2]'(by omega),Ain (by omega)⟩
  obtain⟨y,hy⟩:∃y,L[L.length-1]?=some y:=⟨L[L.length-1]'(by omega),Ain (by omega)⟩
  rw[List.getD_eq_getElem?_getD,List.getD_eq_getElem?_getD,hx,hy] at hS
  simp only[AoL] at hS
  have h1:=hs x (Ai1 hx)
  have h2:=hs y (Ai1 hy)
  obtain⟨c1,hr0⟩:=hf p.fin x y hp4 (by omega) (by omega)
  generalize EL p.fin x y=r0 at *
  have hx':(L.map V.s)[L.length-2]?=some (.s x):=by simp[hx]
  have hy':(L.map V.s)[L.length-1]?=some (.s y):=by simp[hy]
  have hlm:(L.map V.s).length=L.length:=by simp
  have w1:IntKind.i64.wrap ((L.length:Int)-2)=(L.length:Int)-2:=wrap64 (by omega) (by omega)
  have w2:IntKind.i64.wrap ((L.length:Int)-1)=(L.length:Int)-1:=wrap64 (by omega) (by omega)
  have nn1:(0<=(L.length:Int)-2)=True:=eq_true (by omega)
  have nn2:(0<=(L.length:Int)-1)=True:=eq_true (by omega)
  have t1:((L.length:Int)-2).toNat=L.length-2:=by omega
  have t2:((L.length:Int)-1).toNat=L.length-1:=by omega
  have q0:((L.length:Int)==0)=false:=beq_eq_false_iff_ne.2 (by omega)
  have q1:((L.length:Int)==1)=false:=beq_eq_false_iff_ne.2 (by omega)
  have q2:((L.length:Int)==2)=false:=beq_eq_false_iff_ne.2 (by omega)
  have hle:(L.length-2<=L.length)=True:=eq_true (by omega)
  have hz:(0<=L.length-2)=True:=eq_true (by omega)
  have hcl:(∀y∈L.map V.s,(cells y).length=1)=True:=eq_true (by intro y hy;simp at hy;obtain⟨z,_,rfl⟩:=hy;rfl)
  have hT:∀s∈L.take (L.length-2),s.length<=2^20:=fun s h=>hs s (Ar0 h)
  have hTl:(L.take (L.length-2)).length<=1000:=by simp;omega
  have hmt:(L.map V.s).take (L.length-2)=(L.take (L.length-2)).map V.s:=by simp
  generalize L.take (L.length-2)=T at *
  refine Ai (vs:=[.s S]) Pp (by simp) (by simp) fun n0 hn0=>?_
  clear hn0
  simp only[push_cast,seval,reduceEqDiff,hlm,w1,w2,nn1,nn2,t1,t2,q0,q1,q2,hx',hy',hle,hz,hcl,hmt]
  have _h:=trivial;repeat' (first|(first|((first|apply Ac|apply Ag|apply Af)<;>intro _h)|refine Ab c1 ?_)<;>simp only[push_cast,seval,reduceEqDiff,_h,hlm,w1,w2,nn1,nn2,t1,t2,q0,q1,q2,hx',hy',hle,hz,hcl,hmt]|intro _)
  rename_i k1 k2 k3 k4 k5 k6 k7 k8
  obtain⟨b6,hb6⟩:∃x:Id,x=(n0+1+k1+1+k2+1+k3+1+k4+1+k5+1+k6,6):=⟨_,rfl⟩
  obtain⟨b4,hb4⟩:∃x:Id,x=(n0,4):=⟨_,rfl⟩
  obtain⟨b2,hb2⟩:∃x:Id,x=(n0,2):=⟨_,rfl⟩
  rw[<-hb6,<-hb4,<-hb2]
  have i6:b6.1<n0+1+k1+1+k2+1+k3+1+k4+1+k5+1+k6+1+k7+1+k8:=by rw[hb6];simp only;omega
  have i4:b4.1<n0+1+k1+1+k2+1+k3+1+k4+1+k5+1+k6+1+k7+1+k8:=by rw[hb4];simp only;omega
  have i2:b2.1<n0+1+k1+1+k2+1+k3+1+k4+1+k5+1+k6+1+k7+1+k8:=by rw[hb2];simp only;omega
  have d64:b6≠b4:=fun he=>by grind
  have d62:b6≠b2:=fun he=>by grind
  have d42:b4≠b2:=fun he=>by grind
  clear hb6 hb4 hb2
  generalize n0+1+k1+1+k2+1+k3+1+k4+1+k5+1+k6+1+k7+1+k8=n1 at *
  refine AV (Agw W0 (T.map V.s)) (fun _ _ h=>by cases h) (fun n2 v σo hle hR=>?_)
  obtain⟨sid,hs1,hs2,rfl,rfl⟩:=hR
  rw[Se]
  simp only[push_cast,seval,reduceEqDiff,hlm,w1,w2,nn1,nn2,t1,t2,q0,q1,q2,hx',hy',hle,hz,hcl,hmt]
  intro k9
  have j6:b6.1<n2+1+k9:=by omega
  have j4:b4.1<n2+1+k9:=by omega
  have j2:b2.1<n2+1+k9:=by omega
  have js:sid.1<n2+1+k9:=by omega
  have ds6:sid≠b6:=fun he=>by rw[he] at hs1;omega
  have ds4:sid≠b4:=fun he=>by rw[he] at hs1;omega
  have ds2:sid≠b2:=fun he=>by rw[he] at hs1;omega
  generalize n2+1+k9=n3 at *
  obtain⟨ρ,hρ⟩:∃x:Id,x=(n3,0):=⟨_,rfl⟩
  have r6:ρ≠b6:=fun he=>by grind
  have r4:ρ≠b4:=fun he=>by grind
  have r2:ρ≠b2:=fun he=>by grind
  have rs:ρ≠sid:=fun he=>by grind
  obtain⟨Bp,hBp⟩:∃x,x=V.agg [.s p.style,.s p.two,.s p.start,.s p.mid,.s p.fin]:=⟨_,rfl⟩
  obtain⟨E0,hE0⟩:∃x:AD,x=[(2,.ref b2 0),(4,.ref b4 0),(6,.ref b6 0),(49,.any),(50,.any)]:=⟨_,rfl⟩
  obtain⟨LP,hLP⟩:∃x:LoopState->Option (Option Nat)->AC,x=fun s pd=>.loop 66 E0 [49,50] DJ DG s pd:=⟨_,rfl⟩
  obtain⟨ST,hST⟩:∃x:LoopState->Option (Option Nat)->Aa->Aa->Ak,x=fun s pd r q=>[(ρ,LP s pd),(b6,.box (.s r)),(b4,.box (.s q)),(b2,.box Bp)]:=⟨_,rfl⟩
  have hST':∀s pd r q,ST s pd r q=[(ρ,LP s pd),(b6,.box (.s r)),(b4,.box (.s q)),(b2,.box Bp)]:=fun s pd r q=>by rw[hST]
  have hlr:∀s pd r q,lk (ST s pd r q) ρ=some (LP s pd):=fun s pd r q=>by rw[hST'];simp[lk]
  have hI:∀s pd r q,lk (ST s pd r q) sid=none:=fun s pd r q=>by rw[hST'];simp[lk,rs,Ail ds6,Ail ds4,Ail ds2]
  have hY:∀k σ e,(∃r:Aa,IB p (T.reverse.drop k) r=S/\r.length<=2^22/\σ=ST .ready none r [])->k<T.length->T[T.length-1-k]?=some e->
    ∃R,Sz Tryz.prog W0 [.arr ρ,.i .i64 ((T.length:Int)-1-k),.s e] σ R/\∀n n' v σ',R n n' v σ'->(v=.b true/\∃r:Aa,IB p (T.reverse.drop (k+1)) r=S/\r.length<=2^22/\σ'=ST .ready none r [])\/(v=.b false/\∃r:Aa,σ'=ST .done (some none) r S):=by
   rintro k _ e ⟨r,hr,hrl,rfl⟩ hk he
   obtain⟨R,hR⟩:∃R:Nat->Nat->V->Ak->Prop,R=fun n n' v σ'=>(v=.b true/\∃r:Aa,IB p (T.reverse.drop (k+1)) r=S/\r.length<=2^22/\σ'=ST .ready none r [])\/(v=.b false/\∃r:Aa,σ'=ST .done (some none) r S):=⟨_,rfl⟩
   refine⟨R,?_,fun n n' v σ' h=>by rw[hR] at h;exact h⟩
   have hd:T.reverse.drop k=e::T.reverse.drop (k+1):=by
    rw[List.drop_eq_getElem_cons (by simpa using hk)]
    congr 1
    have:T.reverse[k]?=some e:=by rw[List.getElem?_reverse hk];exact he
    rw[Ain (by simpa using hk)] at this
    exact Option.some.inj this
   have hem:(T.reverse.drop (k+1)).isEmpty=((T.length:Int)-1-k==0):=by
    rw[ApH,Atb,List.drop_eq_nil_iff,beq_iff_eq,Aug]
    omega
   rw[hd,IB,hem] at hr
   have hl0:=hlr .ready none r []
   rw[hLP] at hl0
   refine Ag1 bV hl0 rfl rfl rfl fun n hn=>?_
   clear hn
   rw[hE0]
   simp only[HO]
   rw[hST',hBp]
   have f1:(ρ=b6)=False:=eq_false r6
   have f2:(ρ=b4)=False:=eq_false r4
   have f3:(ρ=b2)=False:=eq_false r2
   have f4:(b6=b4)=False:=eq_false d64
   have f5:(b6=b2)=False:=eq_false d62
   have f6:(b4=b2)=False:=eq_false d42
   have f7:(b4=b6)=False:=eq_false (Ail d64)
   have f8:(b6=ρ)=False:=eq_false (Ail r6)
   have f9:(b4=ρ)=False:=eq_false (Ail r4)
   have hbk:e.length<=2^20:=hT e (Ai1 he)
   simp only[push_cast,seval,reduceEqDiff,f1,f2,f3,f4,f5,f6,f7,f8,f9]
   intro k1 k2
   refine⟨66,E0,[49,50],DJ,DG,none,by rw[hLP],?_⟩
   cases hg:decide ((r.length:Int)>20000) with
   | true=>
    rw[if_pos (of_decide_eq_true hg)] at hr
    subst hr
    simp only[push_cast,seval,reduceEqDiff,f1,f2,f3,f4,f5,f6,f7,f8,f9,hg]
    intros
    refine⟨_,Al.refl,some none,66,E0,[49,50],DJ,DG,.busy,none,ST .done (some none) r r,rfl,?_,?_,?_⟩
    ·simp[lk]
    ·rw[hST',hLP,hBp]
     simp only[upd,if_true]
     exact fun _ _ h=>h
    ·rw[hR]
     exact .inr ⟨rfl,r,rfl⟩
   | false=>
    have hg':=of_decide_eq_false hg
    rw[if_neg hg'] at hr
    obtain⟨Q,hQ⟩:∃Q:Aa,Q=if((T.length:Int)-1-k==0)=true then p.start else p.mid:=⟨_,rfl⟩
    have hQl:Q.length<=2^20:=by rw[hQ];split<;>assumption
    rw[<-hQ] at hr
    obtain⟨c2,hl2⟩:=hf Q e r hQl (by omega) (by omega)
    generalize hfr:EL Q e r=r' at *
    cases hi0:((T.length:Int)-1-k==0) with
    | true=>
     rw[hi0,if_pos rfl] at hQ
     subst hQ
     simp only[push_cast,seval,reduceEqDiff,f1,f2,f3,f4,f5,f6,f7,f8,f9,hg,hi0]
     have _h:=trivial;repeat' (first|(first|((first|apply Ac|apply Ag|apply Af)<;>intro _h)|refine Ab c2 ?_)<;>simp only[push_cast,seval,reduceEqDiff,_h,f1,f2,f3,f4,f5,f6,f7,f8,f9]|intro _)
     refine⟨_,Al.refl,none,66,E0,[49,50],DJ,DG,.busy,none,ST .ready none r' [],rfl,?_,?_,?_⟩
     ·simp[lk]
     ·rw[hST',hLP,hBp]
      simp only[upd,if_true]
      exact fun _ _ h=>h
     ·rw[hR]
      exact .inl ⟨rfl,r',hr,by omega,rfl⟩
    | false=>
     rw[hi0,if_neg (by simp)] at hQ
     subst hQ
     simp only[push_cast,seval,reduceEqDiff,f1,f2,f3,f4,f5,f6,f7,f8,f9,hg,hi0]
     have _h:=trivial;repeat' (first|(first|((first|apply Ac|apply Ag|apply Af)<;>intro _h)|refine Ab c2 ?_)<;>simp only[push_cast,seval,reduceEqDiff,_h,f1,f2,f3,f4,f5,f6,f7,f8,f9]|intro _)
     refine⟨_,Al.refl,none,66,E0,[49,50],DJ,DG,.busy,none,ST .ready none r' [],rfl,?_,?_,?_⟩
     ·simp[lk]
     ·rw[hST',hLP,hBp]
      simp only[upd,if_true]
      exact fun _ _ h=>h
     ·rw[hR]
      exact .inl ⟨rfl,r',hr,by omega,rfl⟩
  rw[<-hBp]
  have hE0':restrict [2,4,6,49,50] [(2,V.ref b2 0),(4,.ref b4 0),(6,.ref b6 0),(48,.fn 314 [] [.ref sid 0])]=E0:=by rw[hE0];simp[restrict,get]
  refine AgX bV rfl (uY W0 T (by omega) (n3,0) sid (fun k σ=>∃r:Aa,IB p (T.reverse.drop k) r=S/\r.length<=2^22/\σ=ST .ready none r []) (fun σ=>∃r:Aa,σ=ST .done (some none) r S) ?_ (by rw[<-hρ];exact hY) (ST .ready none r0 []) ⟨r0,by simpa using hS,by omega,rfl⟩) ?_ ?_
  ·rintro k _ ⟨r,_,_,rfl⟩
   exact hI _ _ _ _
  ·rw[hE0',<-hρ,hST',hLP]
   intro id e h
   simp only[lk,Akk,Aoq] at h⊢
   by_cases x1:sid=id
   ·subst x1
    simpa[rs,Ail ds6,Ail ds4,Ail ds2] using h
   ·simpa[x1] using h
  ·rintro n' v σo hn' ho
   rw[hE0',<-hρ]
   have hov:over (ST .ready none r0 []++[(sid,.box (.sl (T.map V.s)))]) σo [(ρ,AC.loop 66 E0 [49,50] DJ DG .ready none),(sid,.box (.sl (T.map V.s))),(b6,.box (.s r0)),(b4,.box (.s [])),(b2,.box Bp)]=σo:=by
    unfold over
    rw[hST']
    simp[lk,r6,r4,r2,rs,d64,d62,d42,Ail ds6,Ail ds4,Ail ds2]
   rw[hov]
   rcases ho with⟨r,hr,_,rfl⟩|⟨r,rfl⟩
   ·rw[List.drop_eq_nil_of_le (by simp),IB] at hr
    subst hr
    refine⟨66,E0,[49,50],DJ,DG,.ready,none,by rw[hlr,hLP],rfl,?_⟩
    rw[hST',hBp]
    have f4:(b6=b4)=False:=eq_false d64
    have f8:(b6=ρ)=False:=eq_false (Ail r6)
    have f9:(b4=ρ)=False:=eq_false (Ail r4)
    have fa:(b2=ρ)=False:=eq_false (Ail r2)
    have fb:(b6=b4)=False:=eq_false d64
    simp only[push_cast,seval,reduceEqDiff,f4,eS,f8,f9,fa,fb]
    intro k
    exact GB (u:=.s r) rfl (by simp[lk,d64]) rfl
   ·refine⟨66,E0,[49,50],DJ,DG,.done,some none,by rw[hlr,hLP],rfl,?_⟩
    rw[hST',hBp]
    have f8:(b6=ρ)=False:=eq_false (Ail r6)
    have f9:(b4=ρ)=False:=eq_false (Ail r4)
    have fa:(b2=ρ)=False:=eq_false (Ail r2)
    simp only[push_cast,seval,reduceEqDiff,eS,f8,f9,fa]
    exact GB (u:=.s S) rfl (by simp[lk,d64]) rfl
theorem AaI(i:Nat)(h:i<2):(AP i).length=3:=by
 have:i=0\/i=1:=by omega
 rcases this with rfl|rfl<;>(unfold AP Lib.decDigits;rfl)
theorem If:∀(s p:Aa),Lib.index s p=-1\/0<=Lib.index s p/\Lib.index s p+p.length<=s.length
 | [],p=>by
  unfold Lib.index
  grind
 | b::l,p=>by
  unfold Lib.index
  split
  ·grind
  ·split
   ·left;rfl
   ·rename_i h
    right
    rcases If l p with h1|⟨h1,h2⟩
    ·grind
    grind
theorem vD(s p:Aa)(hp:p.length=3)(h:Lib.count s p=1):(Lib.replace s p [0] 1).length<=s.length:=by
 have hne:(p==[0])=false:=by
  grind
 unfold Lib.replace Lib.replaceNum
 rw[hne]
 simp only[AcL,if_false,h]
 have h1:¬((1:Int)<0\/((1:Nat):Int)<1):=by omega
 rw[if_neg h1]
 show(Lib.replaceK p [0] 1 s).length<=s.length
 unfold Lib.replaceK
 split
 ·omega
 ·rename_i h2
  rcases If s p with h3|⟨h3,h4⟩
  ·grind
  ·unfold Lib.replaceK
   grind
theorem Nr(hM:By W0)(s:Aa)(n:Nat)(h1:1<=n)(h2:n<=2)(hs:s.length<=2^20):Am Tryz.prog W0 212 [.s s,.i .i64 n] [] (.b (Ph s n)) []:=by
 generalize hS:Ph s n=S
 unfold Ph at hS
 have g1:decide ((n:Int)<1)=false:=by simp;omega
 have g2:decide ((n:Int)>9)=false:=by simp;omega
 refine Ai (vs:=[.b S]) AfR (by simp) (by simp) fun n0 hn0=>?_
 clear hn0
 simp only[push_cast,seval,reduceEqDiff,g1,g2]
 repeat' (first|(((first|apply Ac|apply Ag|apply Af)<;>intro _h)<;>simp only[push_cast,seval,reduceEqDiff,_h,g1,g2])|(refine Aq (by simp only[Aik,AhU,Aiy,A9]<;>omega) ?_;simp only[push_cast,seval,reduceEqDiff,g1,g2])|intro _)
 refine An n (Inv:=fun m st=>∃k q i,m+i=n/\PC m i q=S/\q.length<=2^20/\st=⟨[(0,.s q),(13,.i .i64 n),(14,.i .i64 (i:Nat))],[],k⟩) ⟨_,Al.refl,_,s,0,rfl,hS,hs,rfl⟩ ?_
 clear hS hs
 rintro m _ ⟨k,q,i,hm,hd,hq,rfl⟩
 cases m with
 | zero=>
  rw[PC] at hd
  subst hd
  have hlt:decide ((i:Int)<(n:Int))=false:=by simp;omega
  have hb:=cT W0 q (by omega)
  simp only[push_cast,seval,reduceEqDiff,hlt]
  have _h:=trivial;repeat' (first|(first|((first|apply Ac|apply Ag|apply Af)<;>intro _h)|refine Ab hb ?_|refine Aq (by simp only[Aik,AhU,Aiy,A9]<;>omega) ?_)<;>simp only[push_cast,seval,reduceEqDiff,_h,hlt]|intro _)
  exact Ah (by simp[get])
 | succ m=>
  have hlt:decide ((i:Int)<(n:Int))=true:=by simp;omega
  have hpl:=AaI i (by omega)
  have hit:=Aef W0 i (by omega)
  have hct:=z8 W0 hM q (AP i) (by omega) (by omega)
  rw[PC] at hd
  have hrl:=vD q (AP i) hpl
  have hpe:123::Lib.decDigits i++[125]=AP i:=by unfold AP;simp
  have hdl:(Lib.decDigits i).length=1:=by unfold AP at hpl;simp at hpl;omega
  have hrp:=fun(h:(Lib.replace q (AP i) [0] 1).length<=A9)=>Lo W0 hM q (AP i) [0] 1 (by omega) (by omega) (by simp;omega) h
  have hw:IntKind.i64.wrap ((i:Int)+1)=((i+1:Nat):Int):=by rw[wrap64 (by omega) (by omega)];omega
  have k1:(1+(Lib.decDigits i).length<=A9)=True:=eq_true (by unfold A9;omega)
  have k2:((123::Lib.decDigits i).length+1<=A9)=True:=eq_true (by simp;unfold A9;omega)
  have hcn:((Lib.count q (AP i):Int)==1)=(Lib.count q (AP i)==1):=by rw[ApH];simp;omega
  generalize hP:AP i=P1 at *
  cases hc:(Lib.count q P1==1) with
  | true=>
   rw[hc] at hd
   simp only[if_true] at hd
   have hrl':=hrl (by simpa using hc)
   have hrp':=hrp (by unfold A9;omega)
   generalize Lib.replace q P1 [0] 1=RP at *
   simp only[push_cast,seval,reduceEqDiff,hlt,hw,k1,k2,hpe,hcn,hc,bne]
   have _h:=trivial;repeat' (first|(first|((first|apply Ac|apply Ag|apply Af)<;>intro _h)|refine Ab hit ?_|refine Ab hct ?_|refine Ab hrp' ?_|refine Aq (by simp only[Aik,AhU,Aiy,A9]<;>omega) ?_)<;>simp only[push_cast,seval,reduceEqDiff,_h,hlt,hw,k1,k2,hpe,hcn,hc,bne]|intro _)
   exact⟨m,_,Acq _,Al.refl,_,RP,i+1,by omega,hd,by omega,by rw[Int.natCast_add];rfl⟩
  | false=>
   rw[hc] at hd
   simp only[if_false,AcL] at hd
   subst hd
   simp only[push_cast,seval,reduceEqDiff,hlt,hw,k1,k2,hpe,hcn,hc,bne]
   have _h:=trivial;repeat' (first|(first|((first|apply Ac|apply Ag|apply Af)<;>intro _h)|refine Ab hit ?_|refine Ab hct ?_|refine Aq (by simp only[Aik,AhU,Aiy,A9]<;>omega) ?_)<;>simp only[push_cast,seval,reduceEqDiff,_h,hlt,hw,k1,k2,hpe,hcn,hc,bne]|intro _)
   exact Ah (by simp[get])
theorem Pf(s p:Aa):(Lib.cut s p).1.length+(Lib.cut s p).2.1.length<=s.length:=by
 unfold Lib.cut
 grind
def AhF:Dc:=⟨[],[],[],[],[]⟩
theorem tO(L:BV)(st0:Aa)(hl:L.lists.length<=2^20):Am Tryz.prog W0 219 [L.enc,.s st0] [] (.tup [((GT st0 L.lists).getD AhF).enc,.b (GT st0 L.lists).isSome]) []:=by
 generalize hS:GT st0 L.lists=S
 rw[BV.enc_eq]
 refine Ai (vs:=[(S.getD AhF).enc,.b S.isSome]) AdG (by simp) (by simp) fun n0 hn0=>?_
 clear hn0
 simp only[push_cast,seval,reduceEqDiff]
 repeat' (first|(((first|apply Ac|apply Ag|apply Af)<;>intro _h)<;>simp only[push_cast,seval,reduceEqDiff,_h])|(refine Aq (by omega) ?_;simp only[push_cast,seval,reduceEqDiff])|intro _)
 rename_i k1 k2
 refine An L.lists.length (Inv:=fun m st=>∃done rest n,L.lists=done++rest/\m=rest.length/\GT st0 rest=S/\st=⟨[(1,.s st0),(4,.ref (n0,4) 0),(9,.sl (L.lists.map Dc.enc)),(10,.i .i64 L.lists.length),(11,.i .i64 done.length)],[((n0,4),.box (.agg [.s [],.s [],.s [],.s [],.s []]))],n⟩) ⟨_,Al.pre (σ:=[_]) (AbG _),[],L.lists,_,rfl,rfl,hS,rfl⟩ ?_
 clear hS
 rintro m _ ⟨done,rest,n,hz,rfl,hd,rfl⟩
 cases rest with
 | nil=>
  rw[GT] at hd
  subst hd
  simp only[push_cast,seval,reduceEqDiff,hz]
  repeat' (first|(((first|apply Ac|apply Ag|apply Af)<;>intro _h)<;>simp only[push_cast,seval,reduceEqDiff,_h])|(refine Aq (by omega) ?_;simp only[push_cast,seval,reduceEqDiff])|intro _)
  refine Ae ?_
  simp[push_cast,get,AhF]
 | cons p rest=>
  have hbd:=AN hz
  rw[GT] at hd
  have f1:∀k:Nat,(((n+1+k,7):Id)=(n0,4))=False:=fun k=>by simp
  cases hE:(p.style==st0) with
  | true=>
   rw[hE] at hd
   simp only[if_true] at hd
   subst hd
   simp only[push_cast,seval,reduceEqDiff,hz,Ad p (done:=done) (by omega),f1,hE]
   repeat' (first|(((first|apply Ac|apply Ag|apply Af)<;>intro _h)<;>simp only[push_cast,seval,reduceEqDiff,_h,hz,Ad p (done:=done) (by omega),f1,hE])|(refine Aq (by omega) ?_;simp only[push_cast,seval,reduceEqDiff,hz,Ad p (done:=done) (by omega),f1,hE])|intro _)
   refine Ae ?_
   simp[push_cast,get]
  | false=>
   rw[hE] at hd
   simp only[if_false,AcL] at hd
   simp only[push_cast,seval,reduceEqDiff,hz,Ad p (done:=done) (by omega),f1,hE]
   repeat' (first|(((first|apply Ac|apply Ag|apply Af)<;>intro _h)<;>simp only[push_cast,seval,reduceEqDiff,_h,hz,Ad p (done:=done) (by omega),f1,hE])|(refine Aq (by omega) ?_;simp only[push_cast,seval,reduceEqDiff,hz,Ad p (done:=done) (by omega),f1,hE])|intro _)
   exact⟨_,_,Acq _,Al.drop1 (by simp[lk]) (AbG _),done++[p],rest,_,by simp,rfl,hd,rfl⟩
theorem Aec(hM:By W0)(p a b:Aa)(hp:p.length<=2^20)(ha:a.length<=2^21)(hb:b.length<=2^21):Am Tryz.prog W0 280 [.s p,.s a,.s b] [] (.s (EL p a b)) []/\(EL p a b).length<=p.length+a.length+b.length:=by
 have e0:AP 0=[123,48,125]:=by unfold AP Lib.decDigits;rfl
 have e1:AP 1=[123,49,125]:=by unfold AP Lib.decDigits;rfl
 have c0:=Tw W0 hM p (AP 0) (by omega)
 have l0:=Pf p (AP 0)
 have c1:=Tw W0 hM (Lib.cut p (AP 0)).1 (AP 1) (by omega)
 have l1:=Pf (Lib.cut p (AP 0)).1 (AP 1)
 have c2:=Tw W0 hM (Lib.cut p (AP 0)).2.1 (AP 1) (by omega)
 have l2:=Pf (Lib.cut p (AP 0)).2.1 (AP 1)
 generalize hS:EL p a b=S
 unfold EL at hS
 rw[e0] at c0 l0 c1 l1 c2 l2 hS
 rw[e1] at c1 l1 c2 l2 hS
 generalize Lib.cut p [123,48,125]=C0 at *
 generalize Lib.cut C0.1 [123,49,125]=C1 at *
 generalize Lib.cut C0.2.1 [123,49,125]=C2 at *
 cases h:C1.2.2 with
 | true=>
  rw[h] at c1 hS
  simp only[if_true] at hS
  subst hS
  refine⟨?_,by simp only[Aik];omega⟩
  refine Ai (vs:=[.s (C1.1++b++C1.2.1++a++C0.2.1)]) rB (by simp) (by simp) fun n0 hn0=>?_
  clear hn0
  simp only[push_cast,seval,reduceEqDiff]
  have _h:=trivial;repeat' (first|(first|((first|apply Ac|apply Ag|apply Af)<;>intro _h)|refine Ab c0 ?_|refine Ab c1 ?_|refine Ab c2 ?_|refine Aq (by simp only[Aik,AhU,Aiy,A9]<;>omega) ?_)<;>simp only[push_cast,seval,reduceEqDiff,_h]|intro _)
  exact Ah (by simp[get])
 | false=>
  rw[h] at c1 hS
  simp only[if_false,AcL] at hS
  subst hS
  refine⟨?_,by simp only[Aik];omega⟩
  refine Ai (vs:=[.s (C0.1++a++C2.1++b++C2.2.1)]) rB (by simp) (by simp) fun n0 hn0=>?_
  clear hn0
  simp only[push_cast,seval,reduceEqDiff]
  have _h:=trivial;repeat' (first|(first|((first|apply Ac|apply Ag|apply Af)<;>intro _h)|refine Ab c0 ?_|refine Ab c1 ?_|refine Ab c2 ?_|refine Aq (by simp only[Aik,AhU,Aiy,A9]<;>omega) ?_)<;>simp only[push_cast,seval,reduceEqDiff,_h]|intro _)
  exact Ah (by simp[get])
structure AcZ (L:BV):Prop where
 n:L.lists.length<=2^20
 t:∀p∈L.lists,p.two.length<=2^20/\p.start.length<=2^20/\p.mid.length<=2^20/\p.fin.length<=2^20
theorem MS{st:Aa}:∀{l:List Dc} {p:Dc},GT st l=some p->p∈l
 | [],p,h=>by cases h
 | x::l,p,h=>by
  rw[GT] at h
  split at h
  ·cases h;simp
  ·exact Abt _ (MS h)
theorem Aa1(hM:By W0)(p:Dc)(l:List Aa)(hp:p.two.length<=2^20/\p.start.length<=2^20/\p.mid.length<=2^20/\p.fin.length<=2^20)(hl:l.length<=1000)(hs:∀s∈l,s.length<=2^20):Am Tryz.prog W0 220 [p.enc,.sl (l.map V.s)] [] (.s (N7 p l)) []:=by
 exact gR W0 p l hp hl hs (fun q a b h1 h2 h3=>Aec W0 hM q a b h1 h2 h3)
theorem Xr(hM:By W0)(L:BV)(hL:AcZ L)(st0:Aa)(l:List Aa)(hl:l.length<=2^30)(hs:∀s∈l,s.length<=2^20):Am Tryz.prog W0 159 [L.enc,.s st0,.sl (l.map V.s)] [] (.tup [.s (EV L st0 l).1,.i .i64 (EV L st0 l).2]) []:=by
 have hf:=tO W0 L st0 hL.n
 generalize hS:EV L st0 l=S
 unfold EV at hS
 rw[BV.enc_eq] at hf⊢
 cases hF:GT st0 L.lists with
 | none=>
  rw[hF] at hf hS
  simp only[Option.getD_none,Ar7] at hf
  simp only at hS
  subst hS
  refine Ai (vs:=[.s [],.i .i64 18]) sO (by simp) (by simp) fun n0 hn0=>?_
  clear hn0
  simp only[push_cast,seval,reduceEqDiff]
  have _h:=trivial;repeat' (first|(first|((first|apply Ac|apply Ag|apply Af)<;>intro _h)|refine Ab hf ?_|refine Aq (by omega) ?_)<;>simp only[push_cast,seval,reduceEqDiff,_h]|intro _)
  refine Ae ?_
  simp[push_cast,get]
 | some p=>
  have hpo:=hL.t p (MS hF)
  rw[hF] at hf hS
  simp only[AoL,AoA] at hf
  simp only at hS
  have hjn:=fun h=>Aa1 W0 hM p l hpo h hs
  generalize N7 p l=JV at *
  rw[Dc.enc_eq] at hf hjn
  have hlk:gY p=[p.two,p.start,p.mid,p.fin].all fun s=>Ph s 2:=rfl
  obtain⟨Q,hQ⟩:∃Q,Q=[p.two,p.start,p.mid,p.fin]:=⟨_,rfl⟩
  have hQl:∀s∈Q,s.length<=2^20:=by
   grind
  have hQ4:Q.length=4:=by rw[hQ];rfl
  have hQv:Q.map V.s=[.s p.two,.s p.start,.s p.mid,.s p.fin]:=by rw[hQ];rfl
  rw[<-hQ] at hlk
  generalize gY p=LO at *
  clear hQ
  refine Ai (vs:=[.s S.1,.i .i64 S.2]) sO (by simp) (by simp) fun n0 hn0=>?_
  clear hn0
  simp only[push_cast,seval,reduceEqDiff]
  have _h:=trivial;repeat' (first|(first|((first|apply Ac|apply Ag|apply Af)<;>intro _h)|refine Ab hf ?_|refine Aq (by omega) ?_)<;>simp only[push_cast,seval,reduceEqDiff,_h]|intro _)
  rename_i k1 k2 k3 k4
  have hQ4':(4:Int)=(Q.length:Int):=by rw[hQ4];rfl
  generalize hpx:((n0+1+k1,8):Id)=px
  refine An Q.length (Inv:=fun m st=>∃done rest n,Q=done++rest/\m=rest.length/\(if rest.all (fun s=>Ph s 2) then(if(l.length:Int)>1000 then(([]:Aa),(6:Int)) else if(JV.length:Int)>20000 then([],6) else(JV,0)) else([],4))=S/\st=⟨[(2,.sl (l.map V.s)),(8,.ref px 0),(29,.sl (Q.map V.s)),(30,.i .i64 Q.length),(31,.i .i64 done.length)],[(px,.box (.agg [.s p.style,.s p.two,.s p.start,.s p.mid,.s p.fin]))],n⟩) ⟨_,Al.pre (σ:=[_]) (AbG _),[],Q,_,rfl,rfl,by rw[<-hlk];exact hS,by rw[hQv,<-hQ4'];rfl⟩ ?_
  clear hS hlk hQv hQ4'
  rintro m _ ⟨done,rest,n,hz,rfl,hd,rfl⟩
  cases rest with
  | nil=>
   simp only[List.all_nil,if_true] at hd
   cases h1:decide ((l.length:Int)>1000) with
   | true=>
    rw[if_pos (of_decide_eq_true h1)] at hd
    subst hd
    simp only[push_cast,seval,reduceEqDiff,h1,hz]
    repeat' (first|(((first|apply Ac|apply Ag|apply Af)<;>intro _h)<;>simp only[push_cast,seval,reduceEqDiff,_h,h1])|(refine Aq (by omega) ?_;simp only[push_cast,seval,reduceEqDiff,h1])|intro _)
    refine Ae ?_
    simp[push_cast,get]
   | false=>
    have h1':=of_decide_eq_false h1
    rw[if_neg h1'] at hd
    have hj:=hjn (by omega)
    cases h2:decide ((JV.length:Int)>20000) with
    | true=>
     rw[if_pos (of_decide_eq_true h2)] at hd
     subst hd
     simp only[push_cast,seval,reduceEqDiff,h1,h2,hz]
     have _h:=trivial;repeat' (first|(first|((first|apply Ac|apply Ag|apply Af)<;>intro _h)|refine Ab hj ?_|refine Aq (by omega) ?_)<;>simp only[push_cast,seval,reduceEqDiff,_h,h1,h2]|intro _)
     refine Ae ?_
     simp[push_cast,get]
    | false=>
     rw[if_neg (of_decide_eq_false h2)] at hd
     subst hd
     simp only[push_cast,seval,reduceEqDiff,h1,h2,hz]
     have _h:=trivial;repeat' (first|(first|((first|apply Ac|apply Ag|apply Af)<;>intro _h)|refine Ab hj ?_|refine Aq (by omega) ?_)<;>simp only[push_cast,seval,reduceEqDiff,_h,h1,h2]|intro _)
     refine Ae ?_
     simp[push_cast,get]
  | cons s rest=>
   have hbd:=AN hz
   have hpt:=Nr W0 hM s 2 (by omega) (by omega) (hQl s (by rw[hz];simp))
   rw[At3] at hd
   cases hB:Ph s 2 with
   | true=>
    rw[hB] at hd hpt
    simp only[Arn] at hd
    simp only[push_cast,seval,reduceEqDiff,hz,Ad s (done:=done) (by omega)]
    have _h:=trivial;repeat' (first|(first|((first|apply Ac|apply Ag|apply Af)<;>intro _h)|refine Ab hpt ?_|refine Aq (by omega) ?_)<;>simp only[push_cast,seval,reduceEqDiff,_h,hz,Ad s (done:=done) (by omega)]|intro _)
    exact⟨_,_,Acq _,Al.refl,done++[s],rest,_,by simp,rfl,hd,rfl⟩
   | false=>
    rw[hB] at hd hpt
    simp only[As1,AcL,if_false] at hd
    subst hd
    simp only[push_cast,seval,reduceEqDiff,hz,Ad s (done:=done) (by omega)]
    have _h:=trivial;repeat' (first|(first|((first|apply Ac|apply Ag|apply Af)<;>intro _h)|refine Ab hpt ?_|refine Aq (by omega) ?_)<;>simp only[push_cast,seval,reduceEqDiff,_h,hz,Ad s (done:=done) (by omega)]|intro _)
    refine Ae ?_
    simp[push_cast,get]
def I1(l:List (Aa×Aa×Aa)):List (V×V):=l.map fun e=>(.agg [.s e.1,.s e.2.1],.s e.2.2)
def UK:Cy:=.st [(0,.str),(1,.str)]
def Fb(u c:Aa):List (Aa×Aa×Aa)->Option Aa
 | []=>none
 | e::l=>if u==e.1&&c==e.2.1 then some e.2.2 else Fb u c l
theorem T1(u c:Aa):∀(l:List (Aa×Aa×Aa)) (n:Nat),(∃i p,Fb u c l=some p/\Bl UK (.agg [.s u,.s c]) (I1 l) n=some (some (i,.s p)))\/(Fb u c l=none/\Bl UK (.agg [.s u,.s c]) (I1 l) n=some none):=by
 intro l
 induction l with
 | nil=>intro n;right;exact⟨rfl,rfl⟩
 | cons e l ih=>
  intro n
  have hk:DY UK (.agg [.s u,.s c]) (.agg [.s e.1,.s e.2.1])=some (u==e.1&&c==e.2.1):=by
   unfold UK DY
   simp only[AhU,Aiy,and_self,if_true,eqO,Ata,AsO,DE]
   cases(u==e.1)<;>cases(c==e.2.1)<;>rfl
  have hu:Bl UK (.agg [.s u,.s c]) (I1 (e::l)) n=(match DY UK (.agg [.s u,.s c]) (.agg [.s e.1,.s e.2.1]) with
   | some true=>some (some (n,.s e.2.2))
   | some false=>Bl UK (.agg [.s u,.s c]) (I1 l) (n+1)
   | none=>none):=rfl
  rw[hu,hk,Fb]
  grind
def O0(l:List (Aa×Aa×Aa))(x:Eb):List (Aa×Aa×Aa):=match Fb x.unit x.cls l with
 | some _=>l
 | none=>l++[(x.unit,x.cls,x.pat)]
theorem YN(u c:Aa)(l:List (Aa×Aa×Aa))(e:Aa×Aa×Aa):Fb u c (l++[e])=match Fb u c l with
  | some p=>some p
  | none=>if u==e.1&&c==e.2.1 then some e.2.2 else none:=by
 induction l with
 | nil=>rfl
 | cons x l ih=>
  rw[Akk,Fb,Fb]
  grind
theorem Lb(u c:Aa):∀(us:List Eb) (l:List (Aa×Aa×Aa)),Fb u c (us.foldl O0 l)=match Fb u c l with
  | some p=>some p
  | none=>Kl u c us:=by
 intro us
 induction us with
 | nil=>intro l;simp only[List.foldl_nil,Kl];split<;>simp_all
 | cons x us ih=>
  intro l
  rw[At6,ih,Kl]
  have hs:(x.unit==u&&x.cls==c)=(u==x.unit&&c==x.cls):=by grind
  rw[hs]
  unfold O0
  cases h1:Fb x.unit x.cls l with
  | some p=>
   grind
  | none=>
   simp only
   rw[YN]
   grind
theorem J3(l:List (Aa×Aa×Aa))(u c p:Aa):I1 l++[(.agg [.s u,.s c],.s p)]=I1 (l++[(u,c,p)]):=by simp[I1]
theorem Ago(L:BV)(hl:L.units.length<=2^20):JR Tryz.prog W0 268 [L.enc] [] (.map (I1 (L.units.foldl O0 []))) []:=by
 generalize hS:L.units.foldl O0 []=S
 rw[BV.enc_eq]
 refine Un (s:=2) AeU (by simp) (by simp[lk]) fun n0 hn0=>?_
 clear hn0
 simp only[push_cast,seval,reduceEqDiff]
 repeat' (first|(((first|apply Ac|apply Ag|apply Af)<;>intro _h)<;>simp only[push_cast,seval,reduceEqDiff,_h])|(refine Aq (by omega) ?_;simp only[push_cast,seval,reduceEqDiff])|intro _)
 rename_i k1 k2 k3
 generalize hmid:((n0+1+k1,9):Id)=mid
 have hm2:mid.1<n0+1+k1+1+k2+1+k3:=by grind
 generalize n0+1+k1+1+k2+1+k3=n1 at *
 refine An L.units.length (Inv:=fun m st=>∃done rest n M,L.units=done++rest/\m=rest.length/\rest.foldl O0 M=S/\mid.1<n/\st=⟨[(3,.arr mid),(11,.sl (L.units.map Eb.enc)),(12,.i .i64 L.units.length),(13,.i .i64 done.length)],[(mid,.map (I1 M))],n⟩) ⟨_,Al.drop (fun i e h=>Bh (τ:=[_]) h) (AbG _),[],L.units,_,[],rfl,rfl,hS,hm2,rfl⟩ ?_
 clear hS hm2
 rintro m _ ⟨done,rest,n,M,hz,rfl,hd,hi,rfl⟩
 cases rest with
 | nil=>
  simp only[List.foldl_nil] at hd
  subst hd
  simp only[push_cast,seval,reduceEqDiff,hz]
  intros
  exact vN rfl (by simp[lk])
 | cons u rest=>
  have hbd:=AN hz
  rw[At6] at hd
  have fix:∀k j,(mid=(n+1+k,j))=False:=fun k j=>eq_false fun he=>by grind
  have fxi:∀k j,((n+1+k,j)=mid)=False:=fun k j=>eq_false fun he=>of_eq_false (fix k j) he.symm
  have fix0:∀k l j,(mid=(n+1+k+1+l,j))=False:=fun k l j=>eq_false fun he=>by grind
  have fxi0:∀k l j,((n+1+k+1+l,j)=mid)=False:=fun k l j=>eq_false fun he=>of_eq_false (fix0 k l j) he.symm
  unfold O0 at hd
  rcases T1 u.unit u.cls M 0 with⟨i,p,h1,h2⟩|⟨h1,h2⟩
  ·rw[h1] at hd
   simp only at hd
   unfold UK at h2
   simp only[push_cast,seval,reduceEqDiff,hz,Ad u (done:=done) (by omega),h2,fix,fxi,fix0,fxi0]
   repeat' (first|(((first|apply Ac|apply Ag|apply Af)<;>intro _h)<;>simp only[push_cast,seval,reduceEqDiff,_h,hz,Ad u (done:=done) (by omega),h2,fix,fxi,fix0,fxi0])|(refine Aq (by omega) ?_;simp only[push_cast,seval,reduceEqDiff,hz,Ad u (done:=done) (by omega),h2,fix,fxi,fix0,fxi0])|intro _)
   exact⟨_,_,Acq _,Al.drop (fun i e h=>by obtain⟨rfl,rfl⟩:=We h;simp[lk,fxi,fxi0]) (AbG _),done++[u],rest,_,_,by simp,rfl,hd,by omega,rfl⟩
  ·rw[h1] at hd
   simp only at hd
   unfold UK at h2
   simp only[push_cast,seval,reduceEqDiff,hz,Ad u (done:=done) (by omega),h2,fix,fxi,fix0,fxi0,J3]
   repeat' (first|(((first|apply Ac|apply Ag|apply Af)<;>intro _h)<;>simp only[push_cast,seval,reduceEqDiff,_h,hz,Ad u (done:=done) (by omega),h2,fix,fxi,fix0,fxi0,J3])|(refine Aq (by omega) ?_;simp only[push_cast,seval,reduceEqDiff,hz,Ad u (done:=done) (by omega),h2,fix,fxi,fix0,fxi0,J3])|intro _)
   exact⟨_,_,Acq _,Al.drop (fun i e h=>by obtain⟨rfl,rfl⟩:=We h;simp[lk,fxi,fxi0]) (AbG _),done++[u],rest,_,_,by simp,rfl,hd,by omega,rfl⟩
theorem qA(L:BV)(u c:Aa):IT L u c=match Fb u c (L.units.foldl O0 []) with
  | some p=>some p
  | none=>Fb u [111,116,104,101,114] (L.units.foldl O0 []):=by
 unfold IT
 rw[Lb,Lb]
 rfl
theorem t7(L:BV)(u c:Aa)(hl:L.units.length<=2^20):Am Tryz.prog W0 211 [L.enc,.s u,.s c] [] (.tup [.s ((IT L u c).getD []),.b (IT L u c).isSome]) []:=by
 have hp:=Ago W0 L hl
 generalize hS:IT L u c=S
 rw[qA] at hS
 generalize L.units.foldl O0 []=M at *
 rw[BV.enc_eq] at hp⊢
 have g0:=T1 u c M 0
 have g1:=T1 u [111,116,104,101,114] M 0
 unfold UK at g0 g1
 refine Ai (vs:=[.s (S.getD []),.b S.isSome]) AdS (by simp) (by simp) fun n0 hn0=>?_
 clear hn0
 simp only[push_cast,seval,reduceEqDiff]
 intro k1
 refine NO hp (fun i e h=>by simp[lk] at h) ?_
 rw[GQ]
 rcases g0 with⟨i,p,h1,h2⟩|⟨h1,h2⟩
 ·rw[h1] at hS
  simp only at hS
  subst hS
  simp only[push_cast,seval,reduceEqDiff,h2]
  repeat' (first|(((first|apply Ac|apply Ag|apply Af)<;>intro _h)<;>simp only[push_cast,seval,reduceEqDiff,_h,h2])|(refine Aq (by omega) ?_;simp only[push_cast,seval,reduceEqDiff,h2])|intro _)
  refine Ae ?_
  simp[push_cast,get]
 ·rw[h1] at hS
  simp only at hS
  rcases g1 with⟨i,p,h3,h4⟩|⟨h3,h4⟩
  ·rw[h3] at hS
   subst hS
   simp only[push_cast,seval,reduceEqDiff,h2,h4]
   repeat' (first|(((first|apply Ac|apply Ag|apply Af)<;>intro _h)<;>simp only[push_cast,seval,reduceEqDiff,_h,h2,h4])|(refine Aq (by omega) ?_;simp only[push_cast,seval,reduceEqDiff,h2,h4])|intro _)
   refine Ae ?_
   simp[push_cast,get]
  ·rw[h3] at hS
   subst hS
   simp only[push_cast,seval,reduceEqDiff,h2,h4]
   repeat' (first|(((first|apply Ac|apply Ag|apply Af)<;>intro _h)<;>simp only[push_cast,seval,reduceEqDiff,_h,h2,h4])|(refine Aq (by omega) ?_;simp only[push_cast,seval,reduceEqDiff,h2,h4])|intro _)
   refine Ae ?_
   simp[push_cast,get]
structure Uw (L:BV):Prop where
 n:L.units.length<=2^20
 p:∀u∈L.units,u.pat.length<=2^16
theorem JI{u c:Aa}:∀{l:List Eb} {p:Aa},Kl u c l=some p->∃x∈l,x.pat=p
 | [],p,h=>by cases h
 | x::l,p,h=>by
  rw[Kl] at h
  split at h
  ·grind
  ·obtain⟨y,h1,h2⟩:=JI h
   grind
theorem MR{L:BV}(hL:Uw L){u c p:Aa}(h:IT L u c=some p):p.length<=2^16:=by
 unfold IT at h
 split at h
 ·rename_i q hq
  cases h
  obtain⟨x,h1,rfl⟩:=JI hq
  exact hL.p x h1
 ·obtain⟨x,h1,rfl⟩:=JI h
  exact hL.p x h1
theorem Gc(L:BV)(hL:Kv L)(n st:Aa)(hn:n.length<=2^30):(C4 L n st).1.length<=2^23+2^19:=by
 have l1:=DC L hL (CU n).1 (Kb n)
 have l2:=DC L hL (CS n).1 (Ka n)
 have l3:=hL.perc
 unfold C4
 cases hB:DD n with
 | false=>simp
 | true=>
  have l0:=DC L hL n (Od hB)
  grind
def EZ(L:BV)(u n:Aa):Aa×Int:=
 if(CG L.card n).2==0 then
  match IT L u (CG L.card n).1 with
  | none=>([],18)
  | some p=>if Ph p 1 then(if(C4 L n []).2==0 then(Lib.replace p [123,48,125] (C4 L n []).1 1,0) else([],(C4 L n []).2)) else([],4)
 else([],(CG L.card n).2)
theorem Qv(s p t:Aa):(Lib.replace s p t 1).length<=s.length+t.length:=by
 have hk:∀s,(Lib.replaceK p t 1 s).length<=s.length+t.length:=by
  intro s
  unfold Lib.replaceK
  split
  ·omega
  ·rename_i h2
   rcases If s p with h3|⟨h3,h4⟩
   ·grind
   ·unfold Lib.replaceK
    grind
 unfold Lib.replace Lib.replaceNum
 split
 ·omega
 ·split
  ·rename_i h
   have h0:Lib.count s p=0:=by omega
   rw[h0]
   unfold Lib.replaceK
   omega
  ·exact hk s
theorem X2(hM:By W0)(L:BV)(hL:Kv L)(hU:Uw L)(u n:Aa)(hn:n.length<=2^30)(hb:A7 L.card<=2^30):Am Tryz.prog W0 157 [L.enc,.s u,.s n] [] (.tup [.s (EZ L u n).1,.i .i64 (EZ L u n).2]) []:=by
 have hc:=WQ W0 L.card n hn hb
 have hf:=t7 W0 L u (CG L.card n).1 hU.n
 have hnf:=Lr W0 L hL n [] hn
 have hnl:=Gc L hL n [] hn
 have hul:=@MR L hU u (CG L.card n).1
 generalize hS:EZ L u n=S
 unfold EZ at hS
 generalize CG L.card n=C at *
 generalize C4 L n []=N at *
 generalize IT L u C.1=U at *
 rw[BV.enc_eq] at *
 obtain⟨c1,c2⟩:=C
 obtain⟨n1,n2⟩:=N
 simp only at *
 cases hC:(c2==0) with
 | false=>
  rw[hC] at hS
  simp only[AcL,if_false] at hS
  subst hS
  refine Ai (vs:=[.s [],.i .i64 c2]) LU (by simp) (by simp) fun n0 hn0=>?_
  clear hn0
  simp only[push_cast,seval,reduceEqDiff,bne,hC]
  have _h:=trivial;repeat' (first|(first|((first|apply Ac|apply Ag|apply Af)<;>intro _h)|refine Ab hc ?_|refine Aq (by omega) ?_)<;>simp only[push_cast,seval,reduceEqDiff,_h,bne,hC]|intro _)
  refine Ae ?_
  simp[push_cast,get]
 | true=>
  rw[hC] at hS
  simp only[if_true] at hS
  cases U with
  | none=>
   simp only at hS
   subst hS
   refine Ai (vs:=[.s [],.i .i64 18]) LU (by simp) (by simp) fun n0 hn0=>?_
   clear hn0
   simp only[push_cast,seval,reduceEqDiff,bne,hC,Option.getD_none,Ar7]
   have _h:=trivial;repeat' (first|(first|((first|apply Ac|apply Ag|apply Af)<;>intro _h)|refine Ab hc ?_|refine Ab hf ?_|refine Aq (by omega) ?_)<;>simp only[push_cast,seval,reduceEqDiff,_h,bne,hC,Option.getD_none,Ar7]|intro _)
   refine Ae ?_
   simp[push_cast,get]
  | some p=>
   have hpl:=hul rfl
   have hpt:=Nr W0 hM p 1 (by omega) (by omega) (by omega)
   have hrl:=Qv p [123,48,125] n1
   have hrp:=Lo W0 hM p [123,48,125] n1 1 (by omega) (by simp) (Aiw (Auk hpl hnl) (by omega)) (by unfold A9;omega)
   simp only at hS
   cases hB:Ph p 1 with
   | false=>
    rw[hB] at hS hpt
    simp only[AcL,if_false] at hS
    subst hS
    refine Ai (vs:=[.s [],.i .i64 4]) LU (by simp) (by simp) fun n0 hn0=>?_
    clear hn0
    simp only[push_cast,seval,reduceEqDiff,bne,hC,AoL,AoA]
    have _h:=trivial;repeat' (first|(first|((first|apply Ac|apply Ag|apply Af)<;>intro _h)|refine Ab hc ?_|refine Ab hf ?_|refine Ab hpt ?_|refine Aq (by omega) ?_)<;>simp only[push_cast,seval,reduceEqDiff,_h,bne,hC,AoL,AoA]|intro _)
    refine Ae ?_
    simp[push_cast,get]
   | true=>
    rw[hB] at hS hpt
    simp only[if_true] at hS
    cases hN:(n2==0) with
    | false=>
     rw[hN] at hS
     simp only[AcL,if_false] at hS
     subst hS
     refine Ai (vs:=[.s [],.i .i64 n2]) LU (by simp) (by simp) fun n0 hn0=>?_
     clear hn0
     simp only[push_cast,seval,reduceEqDiff,bne,hC,hN,AoL,AoA]
     have _h:=trivial;repeat' (first|(first|((first|apply Ac|apply Ag|apply Af)<;>intro _h)|refine Ab hc ?_|refine Ab hf ?_|refine Ab hpt ?_|refine Ab hnf ?_|refine Aq (by omega) ?_)<;>simp only[push_cast,seval,reduceEqDiff,_h,bne,hC,hN,AoL,AoA]|intro _)
     refine Ae ?_
     simp[push_cast,get]
    | true=>
     rw[hN] at hS
     simp only[if_true] at hS
     subst hS
     generalize Lib.replace p [123,48,125] n1 1=RP at *
     refine Ai (vs:=[.s RP,.i .i64 0]) LU (by simp) (by simp) fun n0 hn0=>?_
     clear hn0
     simp only[push_cast,seval,reduceEqDiff,bne,hC,hN,AoL,AoA]
     have _h:=trivial;repeat' (first|(first|((first|apply Ac|apply Ag|apply Af)<;>intro _h)|refine Ab hc ?_|refine Ab hf ?_|refine Ab hpt ?_|refine Ab hnf ?_|refine Ab hrp ?_|refine Aq (by omega) ?_)<;>simp only[push_cast,seval,reduceEqDiff,_h,bne,hC,hN,AoL,AoA]|intro _)
     refine Ae ?_
     simp[push_cast,get]
def Qm(k t:Int):Bool:=if k==2 then !(t==4) else if k==5 then t==3 else if k==6 then t==4 else t==2
theorem AeQ(k:Int)(v:BE):Am Tryz.prog W0 156 [.i .i64 k,v.enc] [] (.b (Qm k v.type)) []:=by
 generalize hS:Qm k v.type=S
 unfold Qm at hS
 rw[BE.enc_eq]
 refine Ai (vs:=[.b S]) Aei (by simp) (by simp) fun n0 hn0=>?_
 clear hn0
 simp only[push_cast,seval,reduceEqDiff,bne]
 all_goals (cases hK1:(k==2)<;>cases hK2:(k==5)<;>cases hK3:(k==6))
 all_goals ((try simp only[hK1,hK2,hK3,bq,if_true,if_false,Int.reduceBEq,reduceCtorEq] at hS);subst hS)
 all_goals (try simp only[push_cast,seval,reduceEqDiff,hK1,hK2,hK3,bne])
 all_goals (repeat' (first|((first|refine Aq (by omega) ?_);(try simp only[push_cast,seval,reduceEqDiff,hK1,hK2,hK3,bne]))|intro _))
 all_goals (first|(refine Ah ?_;simp[get];done)|(refine Ae ?_;simp[push_cast,get];done)|skip)
def M1(L:BV)(k:Int)(st:Aa)(v:BE):Aa×Int:=
 if k<2||k>6 then([],1) else if !(Kd v&&Qm k v.type) then([],11)
 else if k==3 then C4 L v.text st else if k==4 then EZ L st v.text else if k==5 then Es L st v.date else if k==6 then EV L st v.list
 else if !(v.type==3) then(v.text,0) else if Di v.date==[] then([],2) else(Di v.date,0)
structure iF (L:BV) (c:Nat):Prop where
 sym:Kv L
 uni:Uw L
 lst:AcZ L
 dat:sZ L c
 card:A7 L.card<=2^30
structure TZ (v:BE):Prop where
 text:v.text.length<=2^30
 len:v.list.length<=2^30
 list:∀s∈v.list,s.length<=2^20
set_option maxHeartbeats 4000000 in
theorem SZ(hM:By W0)(hT:BM W0)(L:BV)(c:Nat)(hL:iF L c)(x:Aj)(v:BE)(hv:TZ v)(hx:x.style.length<=2^24):Am Tryz.prog W0 108 [L.enc,x.enc,v.enc] [] (.tup [.s (M1 L x.kind x.style v).1,.i .i64 (M1 L x.kind x.style v).2]) []:=by
 have h1:=Nn W0 v hv.text
 have h2:=AeQ W0 x.kind v
 have h3:=Lr W0 L hL.sym v.text x.style hv.text
 have h4:=X2 W0 hM L hL.sym hL.uni x.style v.text hv.text hL.card
 have h5:=Zv W0 hT L c hL.dat x.style v.date hx
 have h6:=Xr W0 hM L hL.lst x.style v.list hv.len hv.list
 have h7:=(Lp W0 hT v.date).1
 generalize hS:M1 L x.kind x.style v=S
 unfold M1 at hS
 rw[BE.enc_eq] at h1 h2⊢
 rw[BV.enc_eq] at h3 h4 h5 h6⊢
 rw[Aj.enc_eq]
 generalize x.kind=k at *
 generalize x.style=st at *
 generalize Di v.date=DT at *
 generalize C4 L v.text st=R3 at *
 generalize EZ L st v.text=R4 at *
 generalize Es L st v.date=R5 at *
 generalize EV L st v.list=R6 at *
 obtain⟨x3,y3⟩:=R3
 obtain⟨x4,y4⟩:=R4
 obtain⟨x5,y5⟩:=R5
 obtain⟨x6,y6⟩:=R6
 simp only at h3 h4 h5 h6
 generalize Kd v=PV at *
 generalize hF:Qm k v.type=FB at *
 cases ha:decide (k<2) with
 | true=>
  rw[ha] at hS
  simp only[Bool.true_or,if_true] at hS
  subst hS
  refine Ai (vs:=[.s [],.i .i64 1]) LV (by simp) (by simp) fun n0 hn0=>?_
  clear hn0
  simp only[push_cast,seval,reduceEqDiff,ha]
  repeat' (first|(((first|apply Ac|apply Ag|apply Af)<;>intro _h)<;>simp only[push_cast,seval,reduceEqDiff,_h,ha])|(refine Aq (by omega) ?_;simp only[push_cast,seval,reduceEqDiff,ha])|intro _)
  refine Ae ?_
  simp[push_cast,get]
 | false=>
  cases hb:decide (k>6) with
  | true=>
   rw[ha,hb] at hS
   simp only[At0,if_true] at hS
   subst hS
   refine Ai (vs:=[.s [],.i .i64 1]) LV (by simp) (by simp) fun n0 hn0=>?_
   clear hn0
   simp only[push_cast,seval,reduceEqDiff,ha,hb]
   repeat' (first|(((first|apply Ac|apply Ag|apply Af)<;>intro _h)<;>simp only[push_cast,seval,reduceEqDiff,_h,ha,hb])|(refine Aq (by omega) ?_;simp only[push_cast,seval,reduceEqDiff,ha,hb])|intro _)
   refine Ae ?_
   simp[push_cast,get]
  | false=>
   rw[ha,hb] at hS
   simp only[AsZ,AcL,if_false] at hS
   cases PV with
   | false=>
    simp only[As1,AsL,if_true] at hS
    subst hS
    refine Ai (vs:=[.s [],.i .i64 11]) LV (by simp) (by simp) fun n0 hn0=>?_
    clear hn0
    simp only[push_cast,seval,reduceEqDiff,ha,hb]
    have _h:=trivial;repeat' (first|(first|((first|apply Ac|apply Ag|apply Af)<;>intro _h)|refine Ab h1 ?_|refine Aq (by omega) ?_)<;>simp only[push_cast,seval,reduceEqDiff,_h,ha,hb]|intro _)
    refine Ae ?_
    simp[push_cast,get]
   | true=>
    cases FB with
    | false=>
     simp only[Ara,AsL,if_true] at hS
     subst hS
     refine Ai (vs:=[.s [],.i .i64 11]) LV (by simp) (by simp) fun n0 hn0=>?_
     clear hn0
     simp only[push_cast,seval,reduceEqDiff,ha,hb]
     have _h:=trivial;repeat' (first|(first|((first|apply Ac|apply Ag|apply Af)<;>intro _h)|refine Ab h1 ?_|refine Ab h2 ?_|refine Aq (by omega) ?_)<;>simp only[push_cast,seval,reduceEqDiff,_h,ha,hb]|intro _)
     refine Ae ?_
     simp[push_cast,get]
    | true=>
     simp only[AqV,AsH,AcL,if_false] at hS
     refine Ai (vs:=[.s S.1,.i .i64 S.2]) LV (by simp) (by simp) fun n0 hn0=>?_
     clear hn0
     simp only[push_cast,seval,reduceEqDiff,ha,hb,bne]
     all_goals (cases hK1:(k==3)<;>cases hK2:(k==4)<;>cases hK3:(k==5)<;>cases hK4:(k==6)<;>cases hK5:(v.type==3)<;>cases hK6:(DT==[]))
     all_goals ((try simp only[hK1,hK2,hK3,hK4,hK5,hK6,bq,if_true,if_false,Int.reduceBEq,reduceCtorEq] at hS);subst hS)
     all_goals (try simp only[push_cast,seval,reduceEqDiff,hK1,hK2,hK3,hK4,hK5,hK6,ha,hb,bne])
     all_goals (repeat' (first|((first|refine Ab (by exact h1) ?_|refine Ab (by exact h2) ?_|refine Ab (by exact h3) ?_|refine Ab (by exact h4) ?_|refine Ab (by exact h5) ?_|refine Ab (by exact h6) ?_|refine Ab (by exact h7) ?_|refine Aq (by omega) ?_);(try simp only[push_cast,seval,reduceEqDiff,hK1,hK2,hK3,hK4,hK5,hK6,ha,hb,bne]))|intro _))
     all_goals (first|(refine Ah ?_;simp[get];done)|(refine Ae ?_;simp[push_cast,get];done)|skip)
end Go.Ir

namespace Go.Ir
open Go.Proofs Go.RowKit
variable(W0:World)
def vU{α:Type}(f:V->Option α):List V->Option (List α)
 | []=>some []
 | v::vs=>match f v with
  | some w=>match vU f vs with
   | some ws=>some (w::ws)
   | none=>none
  | none=>none
theorem Nw{α:Type}{f:V->Option α}:∀{l:List V} {l':List α},vU f l=some l'->l.length=l'.length/\∀(k:Nat) (c:V) (c':α),l[k]?=some c->l'[k]?=some c'->f c=some c'
 | [],l',h=>by cases h;grind
 | v::vs,l',h=>by
  rw[vU] at h
  split at h
  ·rename_i w hw
   split at h
   ·rename_i ws hws
    cases h
    obtain⟨h1,h2⟩:=Nw hws
    grind
   ·cases h
  ·cases h
def Ru{α:Type}(f:V->Option α):V->Option (List α)
 | .sl es=>vU f es
 | .nil=>some []
 | _=>none
def HN{α:Type}(f:V->Option α)(enc:α->V):Prop:=∀v x,f v=some x->K6 (fun _=>none) v (enc x)/\(cells (enc x)).length=(cells v).length/\v.ok=true/\(enc x).ok=true
theorem Hu{α:Type}{f:V->Option α}{enc:α->V}(hf:HN f enc):HN (Ru f) fun l=>.sl (l.map enc):=by
 intro v l h
 cases v with
 | sl es=>
  obtain⟨h1,h2⟩:=Nw (f:=f) h
  refine⟨.sl _ _ (by simpa using h1) (fun k c c' hc hc'=>?_) (fun k c c' hc hc'=>?_),rfl,rfl,rfl⟩
  ·rw[Aqt] at hc'
   obtain⟨x,hx,rfl⟩:=Adc.1 hc'
   exact(hf _ _ (h2 k c x hc hx)).1
  ·rw[Aqt] at hc'
   obtain⟨x,hx,rfl⟩:=Adc.1 hc'
   exact(hf _ _ (h2 k c x hc hx)).2
 | nil=>cases h;exact⟨.nil,rfl,rfl,rfl⟩
 | _=>cases h
def Do:V->Option Aa
 | .s l=>some l
 | _=>none
theorem BJ:HN Do V.s:=by
 intro v l h
 cases v<;>cases h
 exact⟨.refl _,rfl,rfl,rfl⟩
def Ij:V->Option Int
 | .i .i64 n=>some n
 | _=>none
theorem F5:HN Ij (V.i .i64):=by
 intro v n h
 unfold Ij at h
 split at h
 ·cases h;exact⟨.refl _,rfl,rfl,rfl⟩
 ·cases h
def AfE(f:V->Option (List Aj)):V->Option AQ
 | .agg [k,ps]=>match Do k with
  | some k=>match f ps with
   | some ps=>some (k,ps)
   | none=>none
  | none=>none
 | _=>none
def Yz:Nat->V->Option Aj
 | 0=>fun _=>none
 | n+1=>fun v=>match v with
  | .agg [kd,t,m,st,cs,ps]=>(Ij kd).bind fun kd=>(Do t).bind fun t=>(Do m).bind fun m=>(Do st).bind fun st=>(Ru (AfE (Ru (Yz n))) cs).bind fun cs=>(Ru (Yz n) ps).bind fun ps=>some ⟨kd,t,m,st,cs,ps⟩
  | _=>none
theorem xD{f:V->Option (List Aj)}(hf:HN f fun l=>.sl (l.map Aj.enc)):HN (AfE f) AQ.enc:=by
 intro v c h
 unfold AfE at h
 split at h
 ·rename_i k ps
  split at h
  ·rename_i k' hk
   split at h
   ·rename_i ps' hps
    cases h
    have h1:=BJ _ _ hk
    have h2:=hf _ _ hps
    rw[AQ.enc_eq]
    refine⟨.agg _ _ rfl fun j c c' hc hc'=>?_,rfl,rfl,rfl⟩
    match j with
    | 0=>grind
    | 1=>grind
    | j+2=>simp at hc
   ·cases h
  ·cases h
 ·cases h
theorem ON:∀n,HN (Yz n) Aj.enc
 | 0=>fun v x h=>by cases h
 | n+1=>by
  intro v p h
  have hps:=Hu (ON n)
  have hcs:=Hu (xD hps)
  unfold Yz at h
  split at h
  ·obtain⟨kd,h0,h⟩:=AcD.1 h
   obtain⟨t,h1,h⟩:=AcD.1 h
   obtain⟨m,h2,h⟩:=AcD.1 h
   obtain⟨st,h3,h⟩:=AcD.1 h
   obtain⟨cs,h4,h⟩:=AcD.1 h
   obtain⟨ps,h5,h⟩:=AcD.1 h
   cases h
   have g0:=F5 _ _ h0
   have g1:=BJ _ _ h1
   have g2:=BJ _ _ h2
   have g3:=BJ _ _ h3
   have g4:=hcs _ _ h4
   have g5:=hps _ _ h5
   rw[Aj.enc_eq]
   refine⟨.agg _ _ rfl fun j c c' hc hc'=>?_,rfl,rfl,rfl⟩
   match j with
   | 0=>grind
   | 1=>grind
   | 2=>grind
   | 3=>grind
   | 4=>simp_all
   | 5=>simp_all
   | j+6=>simp at hc
  ·cases h
def O6:List V->Option V
 | [v]=>(Ru (Yz 40) v).bind fun ps=>bif Nat.ble (Bd ps) 1000000 then some (.i .i64 (Cq ps)) else none
 | _=>none
theorem fX:AU Tryz.prog W0 (onP 96 O6):=Z4 fun args v h=>by
 unfold O6 at h
 split at h
 ·rename_i x
  obtain⟨ps,h1,h2⟩:=AcD.1 h
  cases hs:Nat.ble (Bd ps) 1000000 with
  | false=>rw[hs] at h2;cases h2
  | true=>
   rw[hs] at h2
   cases h2
   have hw:=AtF hs
   refine⟨H5 (PX W0 _ ps (Acq _) (by omega)) rfl fun k a a' ha ha'=>?_,rfl⟩
   match k with
   | 0=>simp at ha ha';subst ha ha';exact(Hu (ON 40) _ _ h1).1
   | k+1=>simp at ha
 ·cases h
end Go.Ir

namespace Go.Ir
open Go.Proofs
variable(W0:World)
def HD(L:BV)(k:Int):List AH:=if k==7 then L.card else if k==8 then L.ord else[]
def Ol(L:BV)(k:Int):V:=if k==7 then .sl (L.card.map AH.enc) else if k==8 then .sl (L.ord.map AH.enc) else .nil
theorem VM(L:BV)(k:Int):K6 (fun _=>none) (Ol L k) (.sl ((HD L k).map AH.enc)):=by
 unfold Ol HD
 split
 ·exact .refl _
 ·split
  ·exact .refl _
  ·exact .nil
theorem MO(L:BV)(k:Int):Am Tryz.prog W0 153 [L.enc,.i .i64 k] [] (Ol L k) []:=by
 generalize hS:Ol L k=S
 unfold Ol at hS
 rw[BV.enc_eq]
 refine Ai (vs:=[S]) Adq (by simp) (by simp) fun n0 hn0=>?_
 clear hn0
 simp only[push_cast,seval,reduceEqDiff]
 repeat' (first|(((first|apply Ac|apply Ag|apply Af)<;>intro _h)<;>(simp only[push_cast,seval,reduceEqDiff,_h];try (have _g:=_h;simp at _g)))|intro _)
 all_goals (simp only[*,bq,if_true,if_false,Int.reduceBEq,reduceCtorEq] at hS;subst hS;exact Ah (by simp[get]))
def Rg(k:Int)(v:BE):Bool:=if k==9 then Kd v&&v.type==1 else Kd v&&v.type==2
theorem AdJ(k:Int)(v:BE)(ht:v.text.length<=2^30):Am Tryz.prog W0 154 [.i .i64 k,v.enc] [] (.b (Rg k v)) []:=by
 have hp:=Nn W0 v ht
 generalize hS:Rg k v=S
 unfold Rg at hS
 generalize Kd v=A at *
 rw[BE.enc_eq] at hp⊢
 refine Ai (vs:=[.b S]) Ahd (by simp) (by simp) fun n0 hn0=>?_
 clear hn0
 simp only[push_cast,seval,reduceEqDiff]
 have _h:=trivial;repeat' (first|(first|((first|apply Ac|apply Ag|apply Af)<;>intro _h)|refine Ab hp ?_)<;>simp only[push_cast,seval,reduceEqDiff,_h]|intro _)
 all_goals (simp only[*,bq,if_true,if_false,Int.reduceBEq,reduceCtorEq] at hS;subst hS;exact Ah (by simp[get, *]))
def NY:Aa:=[111,116,104,101,114]
def EW(L:BV)(k:Int)(v:BE):List Aa:=if k==9 then[v.text,NY] else[61::v.text,(CG (HD L k) v.text).1,NY]
theorem mQ(L:BV)(k:Int)(v:BE)(ht:v.text.length<=2^29)(hb:A7 L.card+A7 L.ord<=2^24):Am Tryz.prog W0 209 [L.enc,.i .i64 k,v.enc] [] (.sl ((EW L k v).map V.s)) []:=by
 have h1:=MO W0 L k
 have hw:A7 (HD L k)<=2^30:=by
  unfold HD
  split
  ·omega
  ·split
   ·omega
   ·simp[A7]
 have h2:Am Tryz.prog W0 210 [Ol L k,.s v.text] [] (.tup [.s (CG (HD L k) v.text).1,.i .i64 (CG (HD L k) v.text).2]) []:=by
  refine H5 (WQ W0 (HD L k) v.text (by omega) hw) rfl fun j a a' ha ha'=>?_
  match j with
  | 0=>simp at ha ha';subst ha ha';exact VM L k
  | 1=>simp at ha ha';subst ha ha';exact .refl _
  | j+2=>simp at ha
 generalize hS:EW L k v=S
 unfold EW at hS
 generalize(CG (HD L k) v.text).1=C1 at *
 generalize(CG (HD L k) v.text).2=C2 at *
 generalize Ol L k=R at *
 rw[BV.enc_eq] at h1⊢
 rw[BE.enc_eq]
 have hsl:1+v.text.length<=A9:=by unfold A9;omega
 refine Ai (vs:=[.sl (S.map V.s)]) Adf (by simp) (by simp) fun n0 hn0=>?_
 clear hn0
 simp only[push_cast,seval,reduceEqDiff,eq_true hsl]
 have _h:=trivial;repeat' (first|(first|((first|apply Ac|apply Ag|apply Af)<;>intro _h)|refine Ab h1 ?_|refine Ab h2 ?_)<;>simp only[push_cast,seval,reduceEqDiff,_h,eq_true hsl]|intro _)
 all_goals (simp only[*,bq,if_true,if_false,Int.reduceBEq,reduceCtorEq] at hS;subst hS)
 ·exact Ah (by simp[get,NY])
 ·exact Ah (by simp[get,NY])
def CV(keys:List Aa):List Aa->Int
 | []=>-1
 | w::ws=>if BQ (fun x=>w==x) keys<0 then CV keys ws else BQ (fun x=>w==x) keys
theorem Yc(keys:List Aa)(ws:List Aa):-1<=CV keys ws/\CV keys ws<keys.length:=by
 induction ws with
 | nil=>simp only[CV];omega
 | cons w ws ih=>
  rw[CV]
  split
  ·exact ih
  ·have:=tG (fun x=>w==x) keys
   omega
theorem YB(L:BV)(k:Int)(keys:List Aa)(v:BE)(ht:v.text.length<=2^29)(hb:A7 L.card+A7 L.ord<=2^24)(hk:keys.length<=2^30) :
  Am Tryz.prog W0 155 [L.enc,.i .i64 k,.sl (keys.map V.s),v.enc] [] (.i .i64 (CV keys (EW L k v))) []:=by
 have h1:=mQ W0 L k v ht hb
 have hix:=fun w:Aa=>Le W0 AcC keys w (by omega)
 generalize hS:CV keys (EW L k v)=S
 have hWl:(EW L k v).length<=3:=by unfold EW;split<;>simp
 generalize EW L k v=W at *
 rw[BV.enc_eq] at h1⊢
 rw[BE.enc_eq] at h1⊢
 refine Ai (vs:=[.i .i64 S]) AeT (by simp) (by simp) fun n0 hn0=>?_
 clear hn0
 simp only[push_cast,seval,reduceEqDiff,Ae5]
 have _h:=trivial;repeat' (first|(first|((first|apply Ac|apply Ag|apply Af)<;>intro _h)|refine Ab h1 ?_)<;>simp only[push_cast,seval,reduceEqDiff,_h,Ae5]|intro _)
 obtain⟨τ,hτ⟩:∃τ:Ak,τ=[]:=⟨[],rfl⟩
 refine An W.length (Inv:=fun m st=>∃done rest n,W=done++rest/\m=rest.length/\CV keys rest=S/\st=⟨[(2,.sl (keys.map V.s)),(15,.sl (W.map V.s)),(16,.i .i64 W.length),(17,.i .i64 done.length)],τ,n⟩) ⟨_,by rw[hτ];exact Al.drop (fun _ _ h=>by cases h) (AbG _),[],W,_,rfl,rfl,hS,rfl⟩ ?_
 clear hS h1
 rintro m _ ⟨done,rest,n,hz,rfl,hd,rfl⟩
 cases rest with
 | nil=>
  rw[CV] at hd
  subst hd
  simp only[push_cast,seval,reduceEqDiff,Ae5,hz]
  intros
  exact Ah (by simp[get])
 | cons w rest=>
  have hbd:=AN hz
  rw[CV] at hd
  have hi:=hix w
  generalize BQ (fun x=>w==x) keys=I at *
  simp only[push_cast,seval,reduceEqDiff,hz,Ad w (done:=done) (by omega)]
  have _h:=trivial;repeat' (first|(first|((first|apply Ac|apply Ag|apply Af)<;>intro _h)|refine Ab hi ?_)<;>simp only[push_cast,seval,reduceEqDiff,_h,hz,Ad w (done:=done) (by omega)]|intro _)
  ·have hI:I>=0:=of_decide_eq_true _h
   rw[if_neg (by omega)] at hd
   subst hd
   exact Ah (by simp[get])
  ·have hI:¬I>=0:=of_decide_eq_false _h
   rw[if_pos (by omega)] at hd
   exact⟨_,_,Acq _,Al.refl,done++[w],rest,_,by simp,rfl,hd,rfl⟩
def Ip(L:BV)(p:Aj)(vs:List BE):Int×Int:=
 if !Bx p.kind then(0,1) else if !CZ [] (HD L p.kind) then(0,18) else match G3 vs p.name with
 | none=>(0,12)
 | some v=>if !Rg p.kind v then(0,11) else if CV (p.cases.map (·.1)) (EW L p.kind v)<0 then(0,13) else(CV (p.cases.map (·.1)) (EW L p.kind v),0)
set_option maxHeartbeats 4000000 in
theorem rM(L:BV)(p:Aj)(vs:List BE)(hb:A7 L.card+A7 L.ord<=2^24)(hw:p.wt<=2^24)(hl:vs.length<=2^40)(ht:∀v∈vs,v.text.length<=2^29/\v.list.length<=2^30) :
  Am Tryz.prog W0 107 [L.enc,p.enc,.sl (vs.map BE.enc)] [] (.tup [.i .i64 (Ip L p vs).1,.i .i64 (Ip L p vs).2]) []:=by
 have hg:=QK W0 vs p.name hl (fun v hv=>(ht v hv).2)
 have hs:=Dh W0 p.kind
 have hpw:=p.wt_eq
 have hlc:=FL p.cases
 have hr:=MO W0 L p.kind
 have hwr:A7 (HD L p.kind)<=2^30:=by
  unfold HD
  split
  ·omega
  ·split
   ·omega
   ·simp[A7]
 have hv:Am Tryz.prog W0 152 [Ol L p.kind] [] (.b (CZ [] (HD L p.kind))) []:=by
  refine H5 (IM W0 (HD L p.kind) hwr) rfl fun j a a' ha ha'=>?_
  match j with
  | 0=>simp at ha ha';subst ha ha';exact VM L p.kind
  | j+1=>simp at ha
 generalize hS:Ip L p vs=S
 unfold Ip at hS
 generalize CZ [] (HD L p.kind)=R at *
 generalize Ol L p.kind=RV at *
 have hgm:∀v,G3 vs p.name=some v->v∈vs:=fun v h=>GC h
 generalize G3 vs p.name=G at *
 generalize Bx p.kind=SB at *
 rw[BV.enc_eq] at hr⊢
 rw[Aj.enc_eq]
 cases G with
 | none=>
  simp only[Tx,gV,xO,Ar7] at hg
  refine Ai (vs:=[.i .i64 S.1,.i .i64 S.2]) qT (by simp) (by simp) fun n0 hn0=>?_
  clear hn0
  cases SB<;>cases R
  all_goals (simp only[bq,if_true,if_false,Int.reduceBEq,reduceCtorEq] at hS;subst hS;simp only[push_cast,seval,reduceEqDiff])
  all_goals (repeat' (first|(first|refine Ab (by exact hg) ?_|refine Ab (by exact hs) ?_|refine Ab (by exact hr) ?_|refine Ab (by exact hv) ?_)|intro _)<;>(try simp only[push_cast,seval,reduceEqDiff]))
  all_goals (refine Ae ?_;simp[push_cast,get])
 | some v=>
  obtain⟨ht1,ht2⟩:=ht v (hgm v rfl)
  have hsu:=AdJ W0 p.kind v (by omega)
  simp only[Tx,gV,AoA] at hg
  simp only at hS
  rw[BE.enc_eq] at hg hsu
  generalize Rg p.kind v=SU at *
  refine Ai (vs:=[.i .i64 S.1,.i .i64 S.2]) qT (by simp) (by simp) fun n0 hn0=>?_
  clear hn0
  by_cases hgo:(SB&&R&&SU)=true
  ·simp only[Aav] at hgo
   obtain⟨⟨rfl,rfl⟩,rfl⟩:=hgo
   simp only[bq,if_true,if_false,Int.reduceBEq,reduceCtorEq] at hS
   have hix:=YB W0 L p.kind (p.cases.map (·.1)) v (by omega) hb (by simp;omega)
   rw[BV.enc_eq,BE.enc_eq] at hix
   generalize CV (p.cases.map (·.1)) (EW L p.kind v)=FI at *
   simp only[push_cast,seval,reduceEqDiff]
   repeat' (first|(first|refine Ab (by exact hg) ?_|refine Ab (by exact hs) ?_|refine Ab (by exact hr) ?_|refine Ab (by exact hv) ?_|refine Ab (by exact hsu) ?_)|intro _)<;>(try simp only[push_cast,seval,reduceEqDiff])
   rename_i k1 k2 k3 k4 k5 k6 k7 k8
   obtain⟨x8,hx8⟩:∃x:Id,x=(n0+1+k1,8):=⟨_,rfl⟩
   obtain⟨n1,hn1⟩:∃n,n=n0+1+k1+1+k2+1+k3+1+k4+1+k5+1+k6+1+k7+1+k8:=⟨_,rfl⟩
   rw[<-hx8,<-hn1]
   have hb8:x8.1<n1:=by rw[hx8];simp only;omega
   have hb0:n0<n1:=by omega
   have d84:((n0,4):Id)≠x8:=by rw[hx8];simp
   have d83:((n0,3):Id)≠x8:=by rw[hx8];simp
   clear hx8 hn1
   generalize hτ:((x8,_)::_:Ak)=τ
   have t3:lk τ (n0,3)=some (.box (.agg [.s L.tag,.s L.parent,.s L.dir,.sl (L.card.map AH.enc),.sl (L.ord.map AH.enc),.s L.dec,.s L.grp,.s L.minus,.s L.perc,.i .i64 L.prim,.i .i64 L.sec,.sl (L.lists.map Dc.enc),.sl (L.units.map Eb.enc),.sl (L.dates.map Dg.enc),.sl (L.months.map V.s),.sl (L.days.map V.s)])):=by rw[<-hτ];simp[lk,d83,Ail d83]
   have t4:lk τ (n0,4)=some (.box (.agg [.i .i64 p.kind,.s p.text,.s p.name,.s p.style,.sl (p.cases.map AQ.enc),.sl (p.parts.map Aj.enc)])):=by rw[<-hτ];simp[lk,d84,Ail d84]
   have t8:lk τ x8=some (.box (.agg [.s v.name,.i .i64 v.type,.s v.text,.i .i64 v.date,.sl (v.list.map V.s)])):=by rw[<-hτ];simp[lk]
   have tn:∀id:Id,n1<=id.1->lk τ id=none/\del τ id=τ:=by
    intro id hid
    have e1:x8≠id:=fun he=>by rw[he] at hb8;omega
    have e2:((n0,4):Id)≠id:=fun he=>by grind
    have e3:((n0,3):Id)≠id:=fun he=>by grind
    rw[<-hτ]
    exact⟨by simp[lk,e1,e2,e3],by simp[del,e1,e2,e3]⟩
   clear hτ
   refine An p.cases.length (Inv:=fun m st=>∃done rest n id,p.cases=done++rest/\m=rest.length/\n1<=n/\n1<=id.1/\id.1<n/\st=⟨[(3,.ref (n0,3) 0),(4,.ref (n0,4) 0),(8,.ref x8 0),(10,.arr id),(43,.sl (p.cases.map AQ.enc)),(44,.i .i64 p.cases.length),(45,.i .i64 done.length)],(id,.arr 9 1 ((done.map (·.1)).map V.s))::τ,n⟩) ⟨_,(Al.own (s:=10) (e:=9) (sz:=1) (k:=0) rfl).trans (Al.envD (env':=[(3,.ref (n0,3) 0),(4,.ref (n0,4) 0),(8,.ref x8 0),(10,.arr (n1,0)),(43,.sl (p.cases.map AQ.enc)),(44,.i .i64 p.cases.length),(45,.i .i64 0)]) (fun t=>?_) (AbG _)),[],p.cases,_,(n1,0),rfl,rfl,?_,AbG _,Acq _,rfl⟩ ?_
   ·left
    simp only[get]
    grind
   ·omega
   rintro m _ ⟨done,rest,n,id,hz,rfl,hn,hi1,hi2,rfl⟩
   have td:=(tn id hi1).2
   cases rest with
   | nil=>
    have hlt:decide ((done.length:Int)<(p.cases.length:Int))=false:=by rw[hz];simp
    simp only[push_cast,seval,reduceEqDiff,hlt]
    intros
    refine LW (Al.frzAt (s:=10) (id:=id) rfl (tn id hi1).1 (fun y hy=>by obtain⟨z,_,rfl⟩:=Apq.1 hy;rfl) (AbG _)) ?_
    rw[show done=p.cases by rw[hz];simp]
    simp only[push_cast,seval,reduceEqDiff,t3,t4,t8]
    have _h:=trivial;repeat' (first|(first|((first|apply Ac|apply Ag|apply Af)<;>intro _h)|refine Ab hix ?_)<;>simp only[push_cast,seval,reduceEqDiff,_h,t3,t4,t8]|intro _)
    ·have hlt0:FI<0:=of_decide_eq_true _h
     rw[if_pos hlt0] at hS
     subst hS
     refine Ae ?_
     simp[push_cast,get]
    ·have hlt0:¬FI<0:=of_decide_eq_false _h
     rw[if_neg hlt0] at hS
     subst hS
     refine Ae ?_
     simp[push_cast,get]
   | cons c rest=>
    have hbd:=AN hz
    have hlt:decide ((done.length:Int)<(p.cases.length:Int))=true:=by rw[hz];simp;omega
    have hget:(p.cases.map AQ.enc)[done.length]?=some (AQ.enc c):=by rw[hz];simp
    have hwz:IntKind.i64.wrap ((done.length:Int)+1)=((done++[c]).length:Int):=Ad c (by omega)
    have hdl:done.length+1<=AM:=by unfold AM;omega
    have f1:∀k j:Nat,((n+1+k,j)=id)=False:=fun k j=>eq_false fun he=>(by grind)
    have f1':∀k j:Nat,(id=(n+1+k,j))=False:=fun k j=>eq_false fun he=>of_eq_false (f1 k j) he.symm
    simp only[push_cast,seval,reduceEqDiff,hlt,hget,hwz,if_pos hbd,f1,f1',td,Ae5,eq_true hdl]
    intros
    have hm:List.map V.s (List.map (fun x=>x.1) done)++[V.s c.1]=((done++[c]).map (·.1)).map V.s:=by simp
    rw[hm]
    exact⟨_,_,Acq _,Al.dropM (tn _ (by simp only;omega)).1 (AbG _),done++[c],rest,_,_,by rw[hz];simp,rfl,by omega,by simp only;omega,by simp only;omega,rfl⟩
  ·have hno:SB=false\/R=false\/SU=false:=by grind
   clear hgo
   cases SB<;>cases R<;>cases SU
   all_goals (first|(simp at hno;done)|skip)
   all_goals (simp only[bq,if_true,if_false,Int.reduceBEq,reduceCtorEq] at hS;subst hS;simp only[push_cast,seval,reduceEqDiff])
   all_goals (repeat' (first|(first|refine Ab (by exact hg) ?_|refine Ab (by exact hs) ?_|refine Ab (by exact hr) ?_|refine Ab (by exact hv) ?_|refine Ab (by exact hsu) ?_)|intro _)<;>(try simp only[push_cast,seval,reduceEqDiff]))
   all_goals (refine Ae ?_;simp[push_cast,get])
end Go.Ir
section
namespace Go.Ir
open Go.Proofs
variable(W0:World)
inductive Ev where
 | pc (s:Aa)
 | er (e:Int)
def L8(iso:Bool)(r:Aa×Int):Ev:=if r.2==0 then .pc (if iso then N5 r.1 else r.1) else .er r.2
def RC(X:WX)(k:Int)(nm cnt:Aa):Aa:=if k==9 then cnt else match G3 X.vs nm with
 | some v=>v.text
 | none=>[]
mutual
def evP(X:WX):Aj->Aa->List Ev
 | ⟨k,t,nm,st,cs,ps⟩,cnt=>
  if k==1 then[.pc t]
  else if k==10 then[L8 X.iso (C4 X.L cnt [])]
  else if k==11 then .pc (60::(nm++[62]))::(C9 X ps cnt++[.pc (60::47::(nm++[62]))])
  else if k==7||(k==8||k==9) then
   (if(Ip X.L ⟨k,t,nm,st,cs,ps⟩ X.vs).2==0 then(YL X cs (RC X k nm cnt))[(Ip X.L ⟨k,t,nm,st,cs,ps⟩ X.vs).1.toNat]?.getD [] else[.er (Ip X.L ⟨k,t,nm,st,cs,ps⟩ X.vs).2])
  else match G3 X.vs nm with
   | none=>[.er 12]
   | some v=>[L8 X.iso (M1 X.L k st v)]
def C9(X:WX):List Aj->Aa->List Ev
 | [],_=>[]
 | p::ps,cnt=>evP X p cnt++C9 X ps cnt
def YL(X:WX):List (Aa×List Aj)->Aa->List (List Ev)
 | [],_=>[]
 | c::cs,cnt=>evC X c cnt::YL X cs cnt
def evC(X:WX):Aa×List Aj->Aa->List Ev
 | (_,ps),cnt=>C9 X ps cnt
end
theorem QD(X:WX)(cnt:Aa):C9 X [] cnt=[]:=by simp only[C9]
theorem J0(X:WX)(p:Aj)(ps:List Aj)(cnt:Aa):C9 X (p::ps) cnt=evP X p cnt++C9 X ps cnt:=by simp only[C9]
theorem Uo(X:WX)(cnt:Aa):∀(cs:List AQ) (i:Nat) (c:AQ),cs[i]?=some c->(YL X cs cnt)[i]?=some (C9 X c.2 cnt)
 | [],i,c,h=>by simp at h
 | (k,ps)::cs,0,c,h=>by simp at h;subst h;simp only[YL,evC];rfl
 | (k,ps)::cs,i+1,c,h=>by
  simp only[YL,AsO]
  exact Uo X cnt cs i c (by simpa using h)
def Dm(st:Aa×Int):Ev->Aa×Int
 | .pc s=>(st.1++s,if((st.1++s).length:Int)>20000 then 6 else st.2)
 | .er e=>(st.1,e)
def BA:Aa×Int->List Ev->Aa×Int
 | st,[]=>st
 | st,ev::es=>if st.2==0 then BA (Dm st ev) es else st
theorem CC(st:Aa×Int)(h:(st.2==0)=false)(es:List Ev):BA st es=st:=by
 cases es with
 | nil=>rfl
 | cons ev es=>rw[BA,h];rfl
theorem Mn(a b:List Ev):∀st,BA st (a++b)=BA (BA st a) b:=by
 induction a with
 | nil=>intro st;rfl
 | cons ev a ih=>
  intro st
  rw[Akk,BA,BA]
  split
  ·exact ih _
  ·rename_i h
   rw[CC st (by simpa using h)]
def ES(wid:Id)(X:WX)(u:Bool)(b:Id)(st:Aa×Int):Ak:=[(wid,.tbox TW (wC X (wA u wid) b st.2)),(b,.arr 5 1 (Ax st.1))]
theorem J4{wid b:Id}{X:WX}{u:Bool}{l:Aa}:ES wid X u b (l,0)=Jw wid X u b l:=rfl
def Zy(wid:Id)(X:WX)(b:Id)(st:Aa×Int)(n n':Nat)(v:V)(σ':Ak):Prop:=v=.tup []/\∃(u':Bool) (b':Id),(n<=b'.1/\b'.1<n'\/b'=b)/\σ'=ES wid X u' b' st
theorem JC{wid b:Id}{X:WX}{u:Bool}{st:Aa×Int}{τ:Ak}:lk (ES wid X u b st++τ) wid=some (.tbox TW (wC X (wA u wid) b st.2)):=by simp[ES,lk]
theorem Jc{wid b:Id}{X:WX}{u:Bool}{st:Aa×Int}:lk (ES wid X u b st) wid=some (.tbox TW (wC X (wA u wid) b st.2)):=by simp[ES,lk]
theorem Hk{wid b x:Id}{X:WX}{u:Bool}{st:Aa×Int}{e:AC}(h1:wid≠x)(h2:b≠x):lk (ES wid X u b st++[(x,e)]) x=some e:=by simp[ES,lk,h1,h2]
theorem Jq{wid b x:Id}{X:WX}{u:Bool}{st:Aa×Int}(h1:wid≠x)(h2:b≠x):lk (ES wid X u b st) x=none:=by simp[ES,lk,h1,h2]
theorem Qg{wid b x:Id}{X:WX}{u:Bool}{st:Aa×Int}{e:AC}{σo:Ak}(h1:wid≠x)(h2:b≠x):over (ES wid X u b st) σo ((x,e)::ES wid X u b st)=σo++[(x,e)]:=
 DZ (pre:=[(x,e)]) (fun p hp q hq=>by simp[ES] at hp hq;grind)
theorem Ni{wid b x:Id}{X:WX}{u:Bool}{st:Aa×Int}{e:AC}{σo:Ak}(h1:wid≠x)(h2:b≠x):over (ES wid X u b st) σo (ES wid X u b st++[(x,e)])=σo++[(x,e)]:=by
 have:=Jh (σi:=ES wid X u b st) (σo:=σo) (pre:=[]) (post:=[(x,e)]) (fun p hp=>by cases hp) (fun p hp q hq=>by simp[ES] at hp hq;grind)
 simpa using this
theorem Fl{wid b x:Id}{X:WX}{u:Bool}{st:Aa×Int}{e:AC}:∀i z,lk (ES wid X u b st) i=some z->lk (ES wid X u b st++[(x,e)]) i=some z:=fun i z h=>Bh h
theorem GE(wid b:Id)(X:WX)(u:Bool)(l t:Aa)(hne:b≠wid)(h:l.length+t.length<=2^30) :
  Ei Tryz.prog W0 103 [.ref wid 0,.s t] (ES wid X u b (l,0)) (Zy wid X b (Dm (l,0) (.pc t))):=by
 generalize hR:Zy wid X b (Dm (l,0) (.pc t))=R
 refine BP Ad7 (by simp) fun n0 hn0=>?_
 rw[J4] at *
 have hw:wid.1<n0:=hn0 wid _ (by simp[Jw,lk];rfl)
 have hb:b.1<n0:=hn0 b _ (by simp[Jw,lk,Ail hne];rfl)
 clear hn0
 simp only[push_cast,seval,reduceEqDiff]
 intro k1
 refine AV (bH W0 wid b X u l t hne (by omega)) (fun _ _ h=>h) (fun n2 v σo hle hR=>?_)
 obtain⟨rfl,b',⟨hb1,hb2⟩,rfl⟩:=hR
 rw[Ga]
 simp only[push_cast,seval,reduceEqDiff]
 intro k2
 have hne':b'≠wid:=fun he=>by rw[he] at hb1;omega
 refine BF (AeA W0 wid b' X true (l++t) hne') (fun _ _ h=>h) ?_
 rw[CB]
 cases hgt:decide (((l++t).length:Int)>20000) with
 | false=>
  simp only[push_cast,seval,reduceEqDiff,hgt]
  intro k3
  subst hR
  refine⟨_,Al.refl,[],_,trivial,fun _ _ h=>h,rfl,true,b',.inl ⟨by omega,by simp only;omega⟩,?_⟩
  unfold Dm
  simp only
  rw[if_neg (of_decide_eq_false hgt)]
  rfl
 | true=>
  have h1:(wid=b')=False:=eq_false (Ail hne')
  have h2:(b'=wid)=False:=eq_false hne'
  simp only[push_cast,seval,reduceEqDiff,hgt,Bq,Jw,h1,h2]
  intros
  subst hR
  refine⟨_,Al.refl,[],_,trivial,fun _ _ h=>h,rfl,true,b',.inl ⟨by omega,by simp only;omega⟩,?_⟩
  unfold Dm
  simp only
  rw[if_pos (of_decide_eq_true hgt)]
  rfl
theorem VY(wid b:Id)(X:WX)(u:Bool)(l:Aa)(r:Aa×Int)(hne:b≠wid)(hl:l.length<=20000)(hr:r.1.length<=2^24) :
  Ei Tryz.prog W0 104 [.ref wid 0,.s r.1,.i .i64 r.2] (ES wid X u b (l,0)) (Zy wid X b (Dm (l,0) (L8 X.iso r))):=by
 obtain⟨t,e⟩:=r
 simp only at *
 have hwl:=i7 t
 have hwr:=Af1 W0 t hr
 generalize hT:L8 X.iso (t,e)=T
 unfold L8 at hT
 simp only at hT
 generalize hR:Zy wid X b (Dm (l,0) T)=R
 refine BP AeI (by simp) fun n0 hn0=>?_
 rw[J4] at *
 have hw:wid.1<n0:=hn0 wid _ (by simp[Jw,lk];rfl)
 have hb:b.1<n0:=hn0 b _ (by simp[Jw,lk,Ail hne];rfl)
 clear hn0
 cases he:(e==0) with
 | false=>
  rw[he] at hT
  simp only[AcL,if_false] at hT
  subst hT
  have h1:(wid=b)=False:=eq_false (Ail hne)
  have h2:(b=wid)=False:=eq_false hne
  simp only[push_cast,seval,reduceEqDiff,bne,he,Bq,Jw,h1,h2]
  intros
  subst hR
  exact⟨_,Al.refl,[],_,trivial,fun _ _ h=>h,rfl,u,b,.inr rfl,rfl⟩
 | true=>
  rw[he] at hT
  simp only[if_true] at hT
  cases hI:X.iso with
  | true=>
   rw[hI] at hT
   simp only[if_true] at hT
   subst hT
   generalize N5 t=WT at *
   simp only[push_cast,seval,reduceEqDiff,bne,he,hI,Bq]
   have _h:=trivial;repeat' (first|(first|((first|apply Ac|apply Ag|apply Af)<;>intro _h)|refine Ab hwr ?_)<;>simp only[push_cast,seval,reduceEqDiff,_h,bne,he,hI,Bq]|intro _)
   refine AV (GE W0 wid b X u l WT hne (by omega)) (fun _ _ h=>h) (fun n2 v σo hle hR2=>?_)
   obtain⟨rfl,u1,b1,hb1,rfl⟩:=hR2
   rw[J4,Ga]
   simp only[push_cast,seval,reduceEqDiff,bne,he,hI,Bq]
   intros
   subst hR
   exact⟨_,Al.refl,[],_,trivial,fun _ _ h=>h,rfl,u1,b1,Dw hb1 (by omega) (by simp only;omega),rfl⟩
  | false=>
   rw[hI] at hT
   simp only[AcL,if_false] at hT
   subst hT
   simp only[push_cast,seval,reduceEqDiff,bne,he,hI,Bq]
   intros
   refine AV (GE W0 wid b X u l t hne (by omega)) (fun _ _ h=>h) (fun n2 v σo hle hR2=>?_)
   obtain⟨rfl,u1,b1,hb1,rfl⟩:=hR2
   rw[J4,Ga]
   simp only[push_cast,seval,reduceEqDiff,bne,he,hI,Bq]
   intros
   subst hR
   exact⟨_,Al.refl,[],_,trivial,fun _ _ h=>h,rfl,u1,b1,Dw hb1 (by omega) (by simp only;omega),rfl⟩
def SS(st:Aa×Int):Prop:=(st.2==0)=true->st.1.length<=20000
theorem Nu{st:Aa×Int}(h:st.1.length<=20000)(ev:Ev):SS (Dm st ev):=by
 cases ev with
 | pc s=>
  intro h2
  unfold Dm at h2⊢
  grind
 | er e=>intro _;exact h
theorem IX(es:List Ev):∀(st:Aa×Int),SS st->SS (BA st es):=by
 induction es with
 | nil=>intro st h;exact h
 | cons ev es ih=>
  intro st h
  rw[BA]
  split
  ·rename_i h2
   exact ih _ (Nu (h h2) ev)
  ·exact h
theorem Ah9{wid b:Id}{X:WX}{u:Bool}{st:Aa×Int}(h:(st.2==0)=true):ES wid X u b st=ES wid X u b (st.1,0):=by
 grind
structure tB (X:WX) (c:Nat):Prop where
 L:iF X.L c
 rules:A7 X.L.card+A7 X.L.ord<=2^24
 vals:∀v∈X.vs,TZ v/\v.text.length<=2^24
 n:X.vs.length<=2^40
 dlen:∀sk d,(Es X.L sk d).1.length<=2^24
theorem Aaz(N c:Nat)
  (ih:∀(ps:List Aj) (cnt:Aa) (wid b:Id) (X:WX) (u:Bool) (st:Aa×Int),tB X c->Bd ps<N->cnt.length<=2^24->b≠wid->SS st->Bd ps<=2^24->
   Ei Tryz.prog W0 44 [.ref wid 0,.sl (ps.map Aj.enc),.s cnt] (ES wid X u b st) (Zy wid X b (BA st (C9 X ps cnt))))
  (p:Aj)(cnt:Aa)(wid b:Id)(X:WX)(u:Bool)(l:Aa)(hX:tB X c)(hN:Bd p.parts<N)(hc:cnt.length<=2^24)(hne:b≠wid)(h:l.length<=20000)(hw:p.wt<=2^24) :
  Ei Tryz.prog W0 106 [.ref wid 0,p.enc,.s cnt] (ES wid X u b (l,0)) (Zy wid X b (BA (l,0) (.pc (60::(p.name++[62]))::(C9 X p.parts cnt++[.pc (60::47::(p.name++[62]))])))):=by
 have hpw:=p.wt_eq
 have hnm:p.name.length<=2^24:=by omega
 rw[show BA (l,0) (.pc (60::(p.name++[62]))::(C9 X p.parts cnt++[.pc (60::47::(p.name++[62]))]))=BA (BA (Dm (l,0) (.pc (60::(p.name++[62])))) (C9 X p.parts cnt)) [.pc (60::47::(p.name++[62]))] from by rw[BA,Mn];rfl]
 have hs1:=Nu (st:=(l,0)) h (.pc (60::(p.name++[62])))
 have hpc1:=GE W0 wid b X u l (60::(p.name++[62])) hne (by grind)
 generalize Dm (l,0) (.pc (60::(p.name++[62])))=s1 at *
 have hs2:=IX (C9 X p.parts cnt) s1 hs1
 have hih:=fun b1 u1 (h1:b1≠wid)=>ih p.parts cnt wid b1 X u1 s1 hX hN hc h1 hs1 (by omega)
 generalize BA s1 (C9 X p.parts cnt)=s2 at *
 generalize hR:Zy wid X b (BA s2 [.pc (60::47::(p.name++[62]))])=R
 refine BP AeR (by simp) fun n0 hn0=>?_
 have hw:wid.1<n0:=hn0 wid _ (by simp[ES,lk];rfl)
 have hb:b.1<n0:=hn0 b _ (by simp[ES,lk,Ail hne];rfl)
 clear hn0
 simp only[push_cast,seval,reduceEqDiff]
 intro k1
 refine Aq (by unfold A9;omega) ?_
 simp only[push_cast,seval,reduceEqDiff]
 refine Aq (by unfold A9;omega) ?_
 simp only[push_cast,seval,reduceEqDiff]
 obtain⟨x,hx⟩:∃x:Id,x=(n0,4):=⟨_,rfl⟩
 have hx1:x.1=n0:=by rw[hx]
 rw[<-hx]
 have hwx:wid≠x:=fun he=>by rw[he] at hw;omega
 have hbx:b≠x:=fun he=>by rw[he] at hb;omega
 intros
 refine AV hpc1 (Co (Jq hwx hbx)) (fun n2 v σo hle hR=>?_)
 obtain⟨rfl,u1,b1,hb1,rfl⟩:=hR
 rw[Qg hwx hbx]
 have hb1x:b1≠x:=fun he=>by grind
 have hne1:b1≠wid:=fun he=>by grind
 simp only[push_cast,seval,reduceEqDiff,JC,Hk hwx hb1x]
 intros
 refine AV (hih b1 u1 hne1) Fl (fun n3 v σo hle2 hR=>?_)
 obtain⟨rfl,u2,b2,hb2,rfl⟩:=hR
 rw[Ni hwx hb1x]
 have hb2x:b2≠x:=fun he=>by grind
 have hne2:b2≠wid:=fun he=>by grind
 cases he:(s2.2==0) with
 | false=>
  simp only[push_cast,seval,reduceEqDiff,JC,Hk hwx hb2x,he]
  intros
  subst hR
  rw[CC s2 he]
  exact⟨_,Al.refl,[],_,trivial,Fl,rfl,u2,b2,UD (Dw hb1 (by omega) (by simp only;omega)) (Dw hb2 (by omega) (by simp only;omega)),rfl⟩
 | true=>
  have hl2:=hs2 he
  have hpc2:=GE W0 wid b2 X u2 s2.1 (60::47::(p.name++[62])) hne2 (by grind)
  rw[<-Ah9 he] at hpc2
  simp only[push_cast,seval,reduceEqDiff,JC,Hk hwx hb2x,he]
  intros
  refine Aq (by unfold A9;omega) ?_
  simp only[push_cast,seval,reduceEqDiff,JC,Hk hwx hb2x,he]
  refine Aq (by unfold A9;omega) ?_
  simp only[push_cast,seval,reduceEqDiff,JC,Hk hwx hb2x,he]
  intros
  refine AV hpc2 Fl (fun n4 v σo hle3 hR=>?_)
  obtain⟨rfl,u3,b3,hb3,rfl⟩:=hR
  rw[Ni hwx hb2x]
  simp only[push_cast,seval,reduceEqDiff,JC,Hk hwx hb2x,he]
  intros
  subst hR
  have hr2:BA s2 [.pc (60::47::(p.name++[62]))]=Dm (s2.1,0) (.pc (60::47::(p.name++[62]))):=by
   have h1:s2.2=0:=by simpa using he
   have h0:s2=(s2.1,0):=by rw[<-h1]
   rw[BA,he,h0];rfl
  rw[hr2]
  exact⟨_,Al.refl,[],_,trivial,Fl,rfl,u3,b3,UD (UD (Dw hb1 (by omega) (by simp only;omega)) (Dw hb2 (by omega) (by simp only;omega))) (Dw hb3 (by omega) (by simp only;omega)),rfl⟩
theorem AfB(X:WX)(p:Aj)(cnt:Aa):evP X p cnt=if p.kind==1 then[.pc p.text]
  else if p.kind==10 then[L8 X.iso (C4 X.L cnt [])]
  else if p.kind==11 then .pc (60::(p.name++[62]))::(C9 X p.parts cnt++[.pc (60::47::(p.name++[62]))])
  else if p.kind==7||(p.kind==8||p.kind==9) then
   (if(Ip X.L p X.vs).2==0 then(YL X p.cases (RC X p.kind p.name cnt))[(Ip X.L p X.vs).1.toNat]?.getD [] else[.er (Ip X.L p X.vs).2])
  else match G3 X.vs p.name with
   | none=>[.er 12]
   | some v=>[L8 X.iso (M1 X.L p.kind p.style v)]:=by cases p;simp only[evP]
theorem Ah0{L:BV}{p:Aj}{vs:List BE}(h:((Ip L p vs).2==0)=true):∃(v:BE) (i:Nat) (c:AQ),G3 vs p.name=some v/\(Ip L p vs).1=i/\p.cases[i]?=some c:=by
 have h':(Ip L p vs).2=0:=by simpa using h
 clear h
 unfold Ip at h'⊢
 split at h'
 ·cases h'
 ·rename_i c1
  rw[if_neg c1]
  split at h'
  ·cases h'
  ·rename_i c2
   rw[if_neg c2]
   split at h'
   ·cases h'
   ·rename_i v hv
    rw[hv]
    try simp only
    split at h'
    ·cases h'
    ·rename_i c3
     rw[if_neg c3]
     split at h'
     ·cases h'
     ·rename_i c4
      rw[if_neg c4]
      have hf:=Yc (p.cases.map (·.1)) (EW L p.kind v)
      rw[Ae5] at hf
      refine⟨v,(CV (p.cases.map (·.1)) (EW L p.kind v)).toNat,p.cases[(CV (p.cases.map (·.1)) (EW L p.kind v)).toNat]'(by omega),rfl,by omega,Ain (by omega)⟩
theorem PU(L:BV)(hL:Kv L)(hU:Uw L)(u n:Aa)(hn:n.length<=2^30):(EZ L u n).1.length<=2^16+(2^23+2^19):=by
 have hnl:=Gc L hL n [] hn
 unfold EZ
 split
 ·split
  ·simp
  ·rename_i p hp
   have:=MR hU hp
   have:=Qv p [123,48,125] (C4 L n []).1
   grind
 ·simp
theorem PZ(L:BV)(st:Aa)(l:List Aa):(EV L st l).1.length<=20000:=by
 unfold EV
 grind
theorem eP(hT:BM W0)(X:WX)(c:Nat)(hX:tB X c)(k:Int)(st:Aa)(v:BE)(hv:v∈X.vs):(M1 X.L k st v).1.length<=2^24:=by
 obtain⟨v1,v2⟩:=hX.vals v hv
 have a1:=Gc X.L hX.L.sym v.text st (by omega)
 have a2:=PU X.L hX.L.sym hX.L.uni st v.text (by omega)
 have a3:=hX.dlen st v.date
 have a4:=PZ X.L st v.list
 have a5:=(Lp W0 hT v.date).2
 unfold M1
 grind
theorem zE{pre σ:Ak}(h:∀q∈pre,lk σ q.1=none):∀i e,lk σ i=some e->lk (pre++σ) i=some e:=by
 induction pre with
 | nil=>intro i e h;exact h
 | cons a pre ih=>
  intro i e hi
  obtain⟨ai,ae⟩:=a
  have h0:=h (ai,ae) (by simp)
  show(if ai=i then some ae else lk (pre++σ) i)=some e
  grind
theorem Mb{wid b x y:Id}{X:WX}{u:Bool}{st:Aa×Int}{E1 E2:AC}{σo:Ak}(h1:wid≠x)(h2:b≠x)(h3:wid≠y)(h4:b≠y):over (ES wid X u b st) σo ((y,E1)::(x,E2)::ES wid X u b st)=σo++[(y,E1),(x,E2)]:=
 DZ (pre:=[(y,E1),(x,E2)]) (fun p hp q hq=>by
  simp[ES] at hp hq
  rcases hp with rfl|rfl<;>rcases hq with rfl|rfl
  ·exact Ail h3
  ·exact Ail h4
  ·exact Ail h1
  ·exact Ail h2)
theorem KF{wid b x y:Id}{X:WX}{u:Bool}{st:Aa×Int}{E1 E2:AC}(h1:wid≠x)(h2:b≠x)(h3:wid≠y)(h4:b≠y):∀i e,lk (ES wid X u b st) i=some e->lk ((y,E1)::(x,E2)::ES wid X u b st) i=some e:=
 zE (pre:=[(y,E1),(x,E2)]) fun q hq=>by
  simp at hq
  rcases hq with rfl|rfl
  ·exact Jq h3 h4
  ·exact Jq h1 h2
set_option maxHeartbeats 4000000 in
theorem Aab(hM:By W0)(hT:BM W0)(N c:Nat)
  (ih:∀(ps:List Aj) (cnt:Aa) (wid b:Id) (X:WX) (u:Bool) (st:Aa×Int),tB X c->Bd ps<N->cnt.length<=2^24->b≠wid->SS st->Bd ps<=2^24->
   Ei Tryz.prog W0 44 [.ref wid 0,.sl (ps.map Aj.enc),.s cnt] (ES wid X u b st) (Zy wid X b (BA st (C9 X ps cnt))))
  (p:Aj)(cnt:Aa)(wid b:Id)(X:WX)(u:Bool)(l:Aa)(hX:tB X c)(hN:p.wt<=N)(hc:cnt.length<=2^24)(hne:b≠wid)(h:l.length<=20000)(hpwt:p.wt<=2^24) :
  Ei Tryz.prog W0 72 [.ref wid 0,p.enc,.s cnt] (ES wid X u b (l,0)) (Zy wid X b (BA (l,0) (evP X p cnt))):=by
 have hpw:=p.wt_eq
 have hev:=AfB X p cnt
 generalize hE:evP X p cnt=E at *
 generalize hR:Zy wid X b (BA (l,0) E)=R
 refine BP Ajx (by simp) fun n0 hn0=>?_
 have hw:wid.1<n0:=hn0 wid _ (by simp[ES,lk];rfl)
 have hb:b.1<n0:=hn0 b _ (by simp[ES,lk,Ail hne];rfl)
 clear hn0 hE
 obtain⟨x,hx⟩:∃x:Id,x=(n0,4):=⟨_,rfl⟩
 have hx1:x.1=n0:=by rw[hx]
 have hwx:wid≠x:=fun he=>by rw[he] at hw;omega
 have hbx:b≠x:=fun he=>by rw[he] at hb;omega
 have hxw':(x=wid)=False:=eq_false (Ail hwx)
 have hwx':(wid=x)=False:=eq_false hwx
 have hxb':(x=b)=False:=eq_false (Ail hbx)
 have hbx':(b=x)=False:=eq_false hbx
 have hwb':(wid=b)=False:=eq_false (Ail hne)
 have hbw':(b=wid)=False:=eq_false hne
 rw[J4]
 cases e1:(p.kind==1) with
 | true=>
  rw[e1] at hev
  simp only[if_true] at hev
  subst hev
  have hpc:=GE W0 wid b X u l p.text hne (by omega)
  rw[J4] at hpc
  simp only[push_cast,seval,reduceEqDiff,e1,<-hx]
  intros
  refine AV hpc (Co (OT hwx hbx)) (fun n2 v σo hle hR2=>?_)
  obtain⟨rfl,u1,b1,hb1,rfl⟩:=hR2
  rw[KK hwx hbx]
  simp only[push_cast,seval,reduceEqDiff,e1,<-hx]
  intros
  subst hR
  exact⟨_,Al.refl,[],_,trivial,Fl,rfl,u1,b1,Dw hb1 (by omega) (by simp only;omega),rfl⟩
 | false=>
  rw[e1] at hev
  simp only[AcL,if_false] at hev
  cases e2:(p.kind==10) with
  | true=>
   rw[e2] at hev
   simp only[if_true] at hev
   subst hev
   have hnf:=Lr W0 X.L hX.L.sym cnt [] (by omega)
   have hnl:=Gc X.L hX.L.sym cnt [] (by omega)
   have htx:=VY W0 wid b X u l (C4 X.L cnt []) hne h (by omega)
   rw[J4] at htx
   rw[BV.enc_eq] at hnf
   generalize C4 X.L cnt []=NF at *
   simp only[push_cast,seval,reduceEqDiff,e1,e2,<-hx,Bq,hxw']
   have _h:=trivial;repeat' (first|(first|((first|apply Ac|apply Ag|apply Af)<;>intro _h)|refine Ab hnf ?_)<;>simp only[push_cast,seval,reduceEqDiff,_h,e1,e2,<-hx,Bq,hxw']|intro _)
   refine AV htx (Co (OT hwx hbx)) (fun n2 v σo hle hR2=>?_)
   obtain⟨rfl,u1,b1,hb1,rfl⟩:=hR2
   rw[KK hwx hbx]
   simp only[push_cast,seval,reduceEqDiff,e1,e2,<-hx,Bq,hxw']
   intros
   subst hR
   exact⟨_,Al.refl,[],_,trivial,Fl,rfl,u1,b1,Dw hb1 (by omega) (by simp only;omega),rfl⟩
  | false=>
   rw[e2] at hev
   simp only[AcL,if_false] at hev
   cases e3:(p.kind==11) with
   | true=>
    rw[e3] at hev
    simp only[if_true] at hev
    subst hev
    have hel:=Aaz W0 N c ih p cnt wid b X u l hX (by omega) hc hne h hpwt
    rw[Aj.enc_eq,J4] at hel
    simp only[push_cast,seval,reduceEqDiff,e1,e2,e3,<-hx]
    intros
    refine AV hel (Co (OT hwx hbx)) (fun n2 v σo hle hR2=>?_)
    obtain⟨rfl,u1,b1,hb1,rfl⟩:=hR2
    rw[KK hwx hbx]
    simp only[push_cast,seval,reduceEqDiff,e1,e2,e3,<-hx]
    intros
    subst hR
    exact⟨_,Al.refl,[],_,trivial,Fl,rfl,u1,b1,Dw hb1 (by omega) (by simp only;omega),rfl⟩
   | false=>
    rw[e3] at hev
    simp only[AcL,if_false] at hev
    have hgv:=QK W0 X.vs p.name hX.n (fun v hv=>(hX.vals v hv).1.len)
    cases e4:(p.kind==7||(p.kind==8||p.kind==9)) with
    | true=>
     rw[e4] at hev
     simp only[if_true] at hev
     have hch:=rM W0 X.L p X.vs hX.rules hpwt hX.n (fun v hv=>⟨by have:=(hX.vals v hv).2;omega,(hX.vals v hv).1.len⟩)
     have hok:=@Ah0 X.L p X.vs
     rw[BV.enc_eq,Aj.enc_eq] at hch
     generalize Ip X.L p X.vs=CH at *
     obtain⟨ci,ce⟩:=CH
     simp only at *
     have e4c:((p.kind==7)=true/\(p.kind==8)=false/\(p.kind==9)=false)\/((p.kind==7)=false/\(p.kind==8)=true/\(p.kind==9)=false)\/((p.kind==7)=false/\(p.kind==8)=false/\(p.kind==9)=true):=by
      grind
     cases hC:(ce==0) with
     | false=>
      rw[hC] at hev
      simp only[AcL,if_false] at hev
      subst hev
      subst hR
      rcases e4c with⟨h7,h8,h9⟩|⟨h7,h8,h9⟩|⟨h7,h8,h9⟩
      all_goals
       skip
       simp only[push_cast,seval,reduceEqDiff,e1,e2,e3,bne,hC,h7,h8,h9,<-hx,Jw,hxw',hwx',hxb',hbx',hwb',hbw']
       have _h:=trivial;repeat' (first|(first|((first|apply Ac|apply Ag|apply Af)<;>intro _h)|refine Ab hch ?_|refine Aq (by omega) ?_)<;>simp only[push_cast,seval,reduceEqDiff,_h,e1,e2,e3,bne,hC,h7,h8,h9,<-hx,Jw,hxw',hwx',hxb',hbx',hwb',hbw']|intro _)
       exact⟨_,Al.refl,[],ES wid X u b (l,ce),trivial,Co (Jq hwx hbx),rfl,u,b,.inr rfl,rfl⟩
     | true=>
      rw[hC] at hev
      simp only[if_true] at hev
      obtain⟨v,i,cs,hv,rfl,hi⟩:=hok hC
      have hmem:=Ai1 hi
      have hcw:=DO hmem
      have hil:=(AlY.1 hi).1
      have hil':(i<p.cases.length)=True:=eq_true hil
      have hget:(p.cases.map AQ.enc)[i]?=some (.agg [.s cs.1,.sl (cs.2.map Aj.enc)]):=by rw[Aqt,hi];simp[AQ.enc_eq]
      have hat:=fun cn=>Uo X cn p.cases i cs hi
      rw[hv] at hgv
      simp only[Tx,gV,AoA] at hgv
      rw[BE.enc_eq] at hgv
      obtain⟨hv1,hv2⟩:=hX.vals v (GC hv)
      rw[Aun,hat] at hev
      simp only[AoL] at hev
      subst hev
      have hpt:=fun cn (hcn:cn.length<=2^24)=>ih cs.2 cn wid b X u (l,0) hX (by omega) hcn hne (fun _=>h) (by omega)
      simp only[J4] at hpt
      rcases e4c with⟨h7,h8,h9⟩|⟨h7,h8,h9⟩|⟨h7,h8,h9⟩
      ·have hcv:RC X p.kind p.name cnt=v.text:=by unfold RC;rw[h9,hv];rfl
       rw[hcv] at hR
       simp only[push_cast,seval,reduceEqDiff,e1,e2,e3,bne,hC,h7,h8,h9,<-hx,Bq,hxw',hwx',hget,hil',Ae5]
       have _h:=trivial;repeat' (first|(first|((first|apply Ac|apply Ag|apply Af)<;>intro _h)|refine Ab hch ?_|refine Ab hgv ?_|refine Aq (by omega) ?_)<;>simp only[push_cast,seval,reduceEqDiff,_h,e1,e2,e3,bne,hC,h7,h8,h9,<-hx,Bq,hxw',hwx',hget,hil',Ae5]|intro _)
       generalize hy:((_,8):Id)=y
       have hy1:n0<y.1:=by grind
       have hyw:y≠wid:=fun he=>by rw[he] at hy1;omega
       have hyb:y≠b:=fun he=>by rw[he] at hy1;omega
       have hyx:y≠x:=fun he=>by rw[he,hx1] at hy1;omega
       have y1:=eq_false hyw
       have y2:=eq_false (Ail hyw)
       have y5:=eq_false hyx
       have y6:=eq_false (Ail hyx)
       simp only[push_cast,seval,reduceEqDiff,hxw',hwx',y1,y2,y5,y6,Bq,hget,hil',Ae5]
       repeat' (first|(((first|apply Ac|apply Ag|apply Af)<;>intro _h)<;>simp only[push_cast,seval,reduceEqDiff,_h,hxw',hwx',y1,y2,y5,y6,Bq,hget,hil',Ae5])|(refine Aq (by omega) ?_;simp only[push_cast,seval,reduceEqDiff,hxw',hwx',y1,y2,y5,y6,Bq,hget,hil',Ae5])|intro _)
       refine AV (hpt v.text hv2) (KF (st:=(l,0)) hwx hbx (Ail hyw) (Ail hyb)) (fun n2 v σo hle hR2=>?_)
       obtain⟨rfl,u1,b1,hb1,rfl⟩:=hR2
       rw[<-J4,Mb hwx hbx (Ail hyw) (Ail hyb)]
       simp only[push_cast,seval,reduceEqDiff,hxw',hwx',y1,y2,y5,y6,Bq,hget,hil',Ae5]
       intros
       subst hR
       exact⟨_,Al.refl,[],_,trivial,fun i z h=>Bh h,rfl,u1,b1,Dw hb1 (by omega) (by simp only;omega),rfl⟩
      ·have hcv:RC X p.kind p.name cnt=v.text:=by unfold RC;rw[h9,hv];rfl
       rw[hcv] at hR
       simp only[push_cast,seval,reduceEqDiff,e1,e2,e3,bne,hC,h7,h8,h9,<-hx,Bq,hxw',hwx',hget,hil',Ae5]
       have _h:=trivial;repeat' (first|(first|((first|apply Ac|apply Ag|apply Af)<;>intro _h)|refine Ab hch ?_|refine Ab hgv ?_|refine Aq (by omega) ?_)<;>simp only[push_cast,seval,reduceEqDiff,_h,e1,e2,e3,bne,hC,h7,h8,h9,<-hx,Bq,hxw',hwx',hget,hil',Ae5]|intro _)
       generalize hy:((_,8):Id)=y
       have hy1:n0<y.1:=by grind
       have hyw:y≠wid:=fun he=>by rw[he] at hy1;omega
       have hyb:y≠b:=fun he=>by rw[he] at hy1;omega
       have hyx:y≠x:=fun he=>by rw[he,hx1] at hy1;omega
       have y1:=eq_false hyw
       have y2:=eq_false (Ail hyw)
       have y5:=eq_false hyx
       have y6:=eq_false (Ail hyx)
       simp only[push_cast,seval,reduceEqDiff,hxw',hwx',y1,y2,y5,y6,Bq,hget,hil',Ae5]
       repeat' (first|(((first|apply Ac|apply Ag|apply Af)<;>intro _h)<;>simp only[push_cast,seval,reduceEqDiff,_h,hxw',hwx',y1,y2,y5,y6,Bq,hget,hil',Ae5])|(refine Aq (by omega) ?_;simp only[push_cast,seval,reduceEqDiff,hxw',hwx',y1,y2,y5,y6,Bq,hget,hil',Ae5])|intro _)
       refine AV (hpt v.text hv2) (KF (st:=(l,0)) hwx hbx (Ail hyw) (Ail hyb)) (fun n2 v σo hle hR2=>?_)
       obtain⟨rfl,u1,b1,hb1,rfl⟩:=hR2
       rw[<-J4,Mb hwx hbx (Ail hyw) (Ail hyb)]
       simp only[push_cast,seval,reduceEqDiff,hxw',hwx',y1,y2,y5,y6,Bq,hget,hil',Ae5]
       intros
       subst hR
       exact⟨_,Al.refl,[],_,trivial,fun i z h=>Bh h,rfl,u1,b1,Dw hb1 (by omega) (by simp only;omega),rfl⟩
      ·have hcv:RC X p.kind p.name cnt=cnt:=by unfold RC;rw[h9];rfl
       rw[hcv] at hR
       skip
       simp only[push_cast,seval,reduceEqDiff,e1,e2,e3,bne,hC,h7,h8,h9,<-hx,Bq,hxw',hwx',hget,hil',Ae5]
       have _h:=trivial;repeat' (first|(first|((first|apply Ac|apply Ag|apply Af)<;>intro _h)|refine Ab hch ?_|refine Aq (by omega) ?_)<;>simp only[push_cast,seval,reduceEqDiff,_h,e1,e2,e3,bne,hC,h7,h8,h9,<-hx,Bq,hxw',hwx',hget,hil',Ae5]|intro _)
       refine AV (hpt cnt hc) (Co (OT hwx hbx)) (fun n2 v σo hle hR2=>?_)
       obtain⟨rfl,u1,b1,hb1,rfl⟩:=hR2
       rw[KK hwx hbx]
       simp only[push_cast,seval,reduceEqDiff,e1,e2,e3,bne,hC,h7,h8,h9,<-hx,Bq,hxw',hwx',hget,hil',Ae5]
       intros
       subst hR
       exact⟨_,Al.refl,[],_,trivial,Fl,rfl,u1,b1,Dw hb1 (by omega) (by simp only;omega),rfl⟩
    | false=>
     rw[e4] at hev
     simp only[AsK] at e4
     obtain⟨e5,e6,e7⟩:=e4
     simp only[AcL,if_false] at hev
     cases hG:G3 X.vs p.name with
     | none=>
      rw[hG] at hev hgv
      simp only at hev
      subst hev
      simp only[Tx,gV,xO,Ar7] at hgv
      simp only[push_cast,seval,reduceEqDiff,e1,e2,e3,e5,e6,e7,<-hx,Jw,lk,hxw',hwx',hxb',hbx',hwb',hbw']
      have _h:=trivial;repeat' (first|(first|((first|apply Ac|apply Ag|apply Af)<;>intro _h)|refine Ab hgv ?_|refine Aq (by omega) ?_)<;>simp only[push_cast,seval,reduceEqDiff,_h,e1,e2,e3,e5,e6,e7,<-hx,Jw,lk,hxw',hwx',hxb',hbx',hwb',hbw']|intro _)
      generalize hy:((_,10):Id)=y
      have hy1:n0<y.1:=by grind
      have hyw:y≠wid:=fun he=>by rw[he] at hy1;omega
      have hyb:y≠b:=fun he=>by rw[he] at hy1;omega
      have hyx:y≠x:=fun he=>by rw[he,hx1] at hy1;omega
      have y1:=eq_false hyw
      have y2:=eq_false (Ail hyw)
      have y3:=eq_false hyb
      have y4:=eq_false (Ail hyb)
      have y5:=eq_false hyx
      have y6:=eq_false (Ail hyx)
      simp only[push_cast,seval,reduceEqDiff,hxw',hwx',hxb',hbx',hwb',hbw',y1,y2,y3,y4,y5,y6]
      repeat' (first|(((first|apply Ac|apply Ag|apply Af)<;>intro _h)<;>simp only[push_cast,seval,reduceEqDiff,_h,hxw',hwx',hxb',hbx',hwb',hbw',y1,y2,y3,y4,y5,y6])|(refine Aq (by omega) ?_;simp only[push_cast,seval,reduceEqDiff,hxw',hwx',hxb',hbx',hwb',hbw',y1,y2,y3,y4,y5,y6])|intro _)
      subst hR
      exact⟨_,Al.refl,[],ES wid X u b (l,12),trivial,KF hwx hbx (Ail hyw) (Ail hyb),rfl,u,b,.inr rfl,rfl⟩
     | some v=>
      rw[hG] at hev hgv
      simp only at hev
      subst hev
      obtain⟨hv1,hv2⟩:=hX.vals v (GC hG)
      have harg:=SZ W0 hM hT X.L c hX.L p v hv1 (by omega)
      have hal:=eP W0 hT X c hX p.kind p.style v (GC hG)
      have htx:=VY W0 wid b X u l (M1 X.L p.kind p.style v) hne h hal
      rw[J4] at htx
      rw[BV.enc_eq,Aj.enc_eq,BE.enc_eq] at harg
      simp only[Tx,gV,AoA] at hgv
      rw[BE.enc_eq] at hgv
      generalize M1 X.L p.kind p.style v=NF at *
      simp only[push_cast,seval,reduceEqDiff,e1,e2,e3,e5,e6,e7,<-hx,Bq,hxw',hwx']
      have _h:=trivial;repeat' (first|(first|((first|apply Ac|apply Ag|apply Af)<;>intro _h)|refine Ab hgv ?_|refine Ab harg ?_|refine Aq (by omega) ?_)<;>simp only[push_cast,seval,reduceEqDiff,_h,e1,e2,e3,e5,e6,e7,<-hx,Bq,hxw',hwx']|intro _)
      generalize hy:((_,10):Id)=y
      have hy1:n0<y.1:=by grind
      have hyw:y≠wid:=fun he=>by rw[he] at hy1;omega
      have hyb:y≠b:=fun he=>by rw[he] at hy1;omega
      have hyx:y≠x:=fun he=>by rw[he,hx1] at hy1;omega
      have y1:=eq_false hyw
      have y2:=eq_false (Ail hyw)
      have y3:=eq_false hyb
      have y4:=eq_false (Ail hyb)
      have y5:=eq_false hyx
      have y6:=eq_false (Ail hyx)
      simp only[push_cast,seval,reduceEqDiff,hxw',hwx',y1,y2,y5,y6,Bq]
      have _h:=trivial;repeat' (first|(first|((first|apply Ac|apply Ag|apply Af)<;>intro _h)|refine Ab harg ?_|refine Aq (by omega) ?_)<;>simp only[push_cast,seval,reduceEqDiff,_h,hxw',hwx',y1,y2,y5,y6,Bq]|intro _)
      refine AV htx (KF (st:=(l,0)) hwx hbx (Ail hyw) (Ail hyb)) (fun n2 v σo hle hR2=>?_)
      obtain⟨rfl,u1,b1,hb1,rfl⟩:=hR2
      rw[<-J4,Mb hwx hbx (Ail hyw) (Ail hyb)]
      simp only[push_cast,seval,reduceEqDiff,hxw',hwx',y1,y2,y5,y6,Bq]
      intros
      subst hR
      exact⟨_,Al.refl,[],_,trivial,fun i z h=>Bh h,rfl,u1,b1,Dw hb1 (by omega) (by simp only;omega),rfl⟩
set_option maxHeartbeats 4000000 in
theorem r9(hM:By W0)(hT:BM W0)(c:Nat):∀(N:Nat) (ps:List Aj) (cnt:Aa) (wid b:Id) (X:WX) (u:Bool) (st:Aa×Int),tB X c->Bd ps<N->cnt.length<=2^24->b≠wid->SS st->Bd ps<=2^24->
   Ei Tryz.prog W0 44 [.ref wid 0,.sl (ps.map Aj.enc),.s cnt] (ES wid X u b st) (Zy wid X b (BA st (C9 X ps cnt))):=by
 intro N
 induction N with
 | zero=>intro ps cnt wid b X u st _ h;omega
 | succ N ih=>
 intro ps cnt wid b0 X u0 st0 hX hN hc hne0 hI hpwt
 have hlen:=EE ps
 generalize hS:BA st0 (C9 X ps cnt)=S
 generalize hR:Zy wid X b0 S=R
 refine BP AiY (by simp) fun n0 hn0=>?_
 have hw:wid.1<n0:=hn0 wid _ (by simp[ES,lk];rfl)
 have hb0:b0.1<n0:=hn0 b0 _ (by simp[ES,lk,Ail hne0];rfl)
 clear hn0
 simp only[push_cast,seval,reduceEqDiff]
 intros
 refine An ps.length (Inv:=fun m st=>∃done rest n u b w,ps=done++rest/\m=rest.length/\BA w (C9 X rest cnt)=S/\SS w/\Bd rest<=Bd ps/\n0<=n/\(n0<=b.1/\b.1<n\/b=b0)/\st=⟨[(0,.ref wid 0),(2,.s cnt),(8,.sl (ps.map Aj.enc)),(9,.i .i64 ps.length),(10,.i .i64 done.length)],ES wid X u b w,n⟩) ⟨_,Al.refl,[],ps,_,u0,b0,st0,rfl,rfl,hS,hI,AbG _,?_,.inr rfl,rfl⟩ ?_
 ·omega
 clear hS hI
 rintro m _ ⟨done,rest,n,u,b,w,hz,rfl,hd,hI,hwr,hn,hb,rfl⟩
 cases rest with
 | nil=>
  rw[QD] at hd
  simp only[BA] at hd
  subst hd
  simp only[push_cast,seval,reduceEqDiff,hz]
  intros
  subst hR
  exact⟨_,Al.refl,[],_,trivial,fun _ _ h=>h,rfl,u,b,Dw hb (AbG _) (by simp only;omega),rfl⟩
 | cons p rest=>
  have hbd:=AN hz
  rw[J0,Mn] at hd
  rw[Bu] at hwr
  have hpw:=p.wt_eq
  have hne:b≠wid:=fun he=>by grind
  obtain⟨x,hx⟩:∃x:Nat->Id,x=fun k=>(n+1+k,7):=⟨_,rfl⟩
  have hx1:∀k,(n+1+k,7)=x k:=fun k=>by rw[hx]
  have hx2:∀k,(x k).1=n+1+k:=fun k=>by rw[hx]
  have hwx:∀k,wid≠x k:=fun k he=>by grind
  have hbx:∀k,b≠x k:=fun k he=>by grind
  have hl1:∀k,lk (ES wid X u b w) (x k)=none:=fun k=>Jq (hwx k) (hbx k)
  cases he:(w.2==0) with
  | false=>
   rw[CC w he,CC w he] at hd
   subst hd
   simp only[push_cast,seval,reduceEqDiff,hz,Ad p (done:=done) (by omega),hx1,Jc,eq_false (hwx _),eq_false (Ail (hwx _)),he,bne]
   intros
   subst hR
   refine⟨_,Al.refl,[],ES wid X u b w,trivial,?_,rfl,u,b,Dw hb (AbG _) (by simp only;omega),rfl⟩
   first|exact fun _ _ h=>h|exact Co (hl1 _)
  | true=>
   have hw2:w.2=0:=by simpa using he
   obtain⟨l,e⟩:=w
   simp only at hw2
   subst hw2
   have hl:=hI he
   simp only at hl
   have hI2:=IX (evP X p cnt) (l,0) hI
   have hpt:=Aab W0 hM hT N c ih p cnt wid b X u l hX (by omega) hc hne hl (by omega)
   rw[Aj.enc_eq] at hpt
   generalize BA (l,0) (evP X p cnt)=w' at *
   simp only[push_cast,seval,reduceEqDiff,hz,Ad p (done:=done) (by omega),hx1,Jc,eq_false (hwx _),eq_false (Ail (hwx _))]
   intros
   refine AV hpt (Co (hl1 _)) (fun n2 v σo hle hR=>?_)
   obtain⟨rfl,u1,b1,hb1,rfl⟩:=hR
   rw[Qg (hwx _) (hbx _)]
   simp only[push_cast,seval,reduceEqDiff,hz,Ad p (done:=done) (by omega)]
   intros
   exact⟨_,_,Acq _,Al.pre (AbG _),done++[p],rest,_,u1,b1,w',by simp,rfl,hd,hI2,by rw[<-hz];omega,by omega,UD (Dw hb (AbG _) (by omega)) (Dw hb1 (by omega) (by omega)),rfl⟩
def Ej(L:BV)(ps:List Aj)(vs:List BE)(iso:Bool):Aa×Int:=
 if CX ps then(if(BA ([],0) (C9 ⟨L,vs,iso⟩ ps [])).2==0 then BA ([],0) (C9 ⟨L,vs,iso⟩ ps []) else([],(BA ([],0) (C9 ⟨L,vs,iso⟩ ps [])).2)) else([],1)
set_option maxHeartbeats 4000000 in
theorem No(hM:By W0)(hT:BM W0)(c:Nat)(L:BV)(vs:List BE)(iso:Bool)(ps:List Aj)(hX:tB ⟨L,vs,iso⟩ c)(hw:Bd ps<=2^24) :
  Am Tryz.prog W0 26 [L.enc,.sl (ps.map Aj.enc),.sl (vs.map BE.enc),.b iso] [] (.tup [.s (Ej L ps vs iso).1,.i .i64 (Ej L ps vs iso).2]) []:=by
 have hval:=Aa6 W0 ps hw
 have hpts:=fun wid b (hne:b≠wid)=>r9 W0 hM hT c _ ps [] wid b ⟨L,vs,iso⟩ false ([],0) hX (Acq _) (by simp) hne (fun _=>by simp) hw
 have hinv:=IX (C9 ⟨L,vs,iso⟩ ps []) ([],0) (fun _=>by simp)
 generalize hS:Ej L ps vs iso=S
 unfold Ej at hS
 generalize CX ps=VP at *
 generalize BA ([],0) (C9 ⟨L,vs,iso⟩ ps [])=w at *
 refine Ai (vs:=[.s S.1,.i .i64 S.2]) Ai7 (by simp) (by simp) fun n0 hn0=>?_
 clear hn0
 cases VP with
 | false=>
  simp only[AcL,if_false] at hS
  subst hS
  simp only[push_cast,seval,reduceEqDiff]
  have _h:=trivial;repeat' (first|(first|((first|apply Ac|apply Ag|apply Af)<;>intro _h)|refine Ab hval ?_|refine Aq (by omega) ?_)<;>simp only[push_cast,seval,reduceEqDiff,_h]|intro _)
  refine Ae ?_
  simp[push_cast,get]
 | true=>
  simp only[if_true] at hS
  simp only[push_cast,seval,reduceEqDiff]
  have _h:=trivial;repeat' (first|(first|((first|apply Ac|apply Ag|apply Af)<;>intro _h)|refine Ab hval ?_)<;>simp only[push_cast,seval,reduceEqDiff,_h]|intro _)
  rename_i k1 k2 k3
  obtain⟨wid,hwid⟩:∃x:Id,x=(n0+1+k1+1+k2,18):=⟨_,rfl⟩
  have hw1:wid.1<n0+1+k1+1+k2+1+k3:=by rw[hwid];simp only;omega
  rw[<-hwid]
  generalize n0+1+k1+1+k2+1+k3=n1 at hw1⊢
  have hne:((n1,0):Id)≠wid:=fun he=>by grind
  refine LW (((Al.pre (AbG _) (σ:=[_])).trans (Al.ownTbox (A:=[.np]) 5 1 0)).trans (Al.drop (σ':=ES wid ⟨L,vs,iso⟩ false (n1,0) ([],0)) (IS (Ail hne)) (AbG _))) ?_
  simp only[push_cast,seval,reduceEqDiff]
  intros
  refine AV (hpts wid (n1,0) hne) (fun _ _ h=>h) (fun n2 v σo hle hR=>?_)
  obtain⟨rfl,u,b,hb,rfl⟩:=hR
  have hne2:b≠wid:=fun he=>by grind
  rw[Ga]
  cases he:(w.2==0) with
  | false=>
   rw[he] at hS
   simp only[AcL,if_false] at hS
   subst hS
   simp only[push_cast,seval,reduceEqDiff,Jc,he,bne]
   intros
   refine Ae ?_
   simp[push_cast,get]
  | true=>
   rw[he] at hS
   simp only[if_true] at hS
   subst hS
   have hl:=hinv he
   have hw2:w.2=0:=by simpa using he
   obtain⟨l,e⟩:=w
   simp only at hw2 hl
   subst hw2
   simp only[push_cast,seval,reduceEqDiff,Jc]
   intros
   have hstr:=NE (W0:=W0) (T:=TW) (id:=wid) (bid:=b) (l:=l) (a:=wA u wid) (r:=[.s L.tag,.s L.parent,.s L.dir,.sl (L.card.map AH.enc),.sl (L.ord.map AH.enc),.s L.dec,.s L.grp,.s L.minus,.s L.perc,.i .i64 L.prim,.i .i64 L.sec,.sl (L.lists.map Dc.enc),.sl (L.units.map Eb.enc),.sl (L.dates.map Dg.enc),.sl (L.months.map V.s),.sl (L.days.map V.s),.sl (vs.map BE.enc),.b iso,.i .i64 0]) hne2 (by unfold A9;omega)
   refine BF hstr (fun _ _ h=>h) ?_
   simp only[push_cast,seval,reduceEqDiff,Jc]
   intros
   refine Ae ?_
   simp[push_cast,get]
end Go.Ir
end
namespace Go.Ir
theorem YJ(d:Int)(c prev:Bool)(l:List Aa):AY [] d c prev l=(true,l):=by simp only[AY]
theorem yM(b:List Aj)(d:Int)(c:Bool):∀(a:List Aj) (prev:Bool) (l:List Aa),(AY (a++b) d c prev l).1=true->(AY a d c prev l).1=true/\∃prev',AY (a++b) d c prev l=AY b d c prev' (AY a d c prev l).2:=by
 intro a
 induction a with
 | nil=>intro prev l h;rw[YJ];exact⟨rfl,prev,rfl⟩
 | cons p a ih=>
  intro prev l h
  rw[Akk,Dy] at h⊢
  rw[Dy]
  split at h
  ·cases h
  ·rename_i h1
   rw[if_neg h1,if_neg h1]
   generalize hp:p.chk d c l=r1 at h⊢
   grind
theorem nD(b:List Aj)(d:Int)(c prev:Bool)(l l':List Aa)(h:(AY b d c prev l).1=true):(AY b d c false l').1=true:=by
 rw[Fc] at h
 rw[Fc,<-h]
 cases b with
 | nil=>simp only[C6]
 | cons p b=>
  have h2:(AY (p::b) d c prev l).1=true:=by rw[Fc];exact h
  have h3:(AY (p::b) d c false l).1=true:=by
   rw[Dy] at h2⊢
   grind
  rw[Fc] at h3
  rw[h3,h]
theorem uZ(a b:List Aj):DW (a++b)=DW a++DW b:=by
 induction a with
 | nil=>simp only[Aoq,DW]
 | cons p a ih=>rw[Akk,Ic,Ic,ih,Ask]
theorem uE(a b:List Aj):Cq (a++b)=Cq a+Cq b:=by
 induction a with
 | nil=>simp[Cq]
 | cons p a ih=>rw[Akk,Gq,Gq,ih];omega
theorem Ys{a b:List Aj}(h:CX (a++b)=true):CX a=true/\CX b=true:=by
 unfold CX at h⊢
 simp only[Aav,decide_eq_true_eq] at h⊢
 obtain⟨⟨h1,h2⟩,h3⟩:=h
 obtain⟨ha,prev',he⟩:=yM b 0 false a false [] h1
 have hb:(AY b 0 false false []).1=true:=nD b 0 false prev' _ [] (by rw[<-he];exact h1)
 have ga:=LG a 0 false false [] ha
 have gb:=LG b 0 false false [] hb
 have gs:=LG (a++b) 0 false false [] h1
 rw[uZ] at gs
 rw[uE] at h3
 have na:=Kc (ga.2 (by simp)) (b:=(AY (a++b) 0 false false []).2) fun x hx=>by
  rw[gs.1];rw[ga.1] at hx;grind
 have nb:=Kc (gb.2 (by simp)) (b:=(AY (a++b) 0 false false []).2) fun x hx=>by
  rw[gs.1];rw[gb.1] at hx;grind
 grind
theorem iZ(X:WX)(cnt:Aa)(a b:List Aj):C9 X (a++b) cnt=C9 X a cnt++C9 X b cnt:=by
 induction a with
 | nil=>rw[QD];rfl
 | cons p a ih=>rw[Akk,J0,J0,ih,Ask]
theorem Ym(es:List Ev):∀st:Aa×Int,st.1.length<=(BA st es).1.length:=by
 induction es with
 | nil=>intro st;exact AbG _
 | cons ev es ih=>
  intro st
  rw[BA]
  split
  ·refine Aiw ?_ (ih _)
   cases ev with
   | pc s=>unfold Dm;simp
   | er e=>exact AbG _
  ·exact AbG _
theorem nO(l:Aa)(ev:Ev)(es:List Ev):BA (l,0) (ev::es)=BA (Dm (l,0) ev) es:=rfl
theorem Ps(l s:Aa)(h:¬((l++s).length:Int)>20000):Dm (l,0) (.pc s)=(l++s,0):=by unfold Dm;simp only;rw[if_neg h]
theorem Uj(l s:Aa)(h:((l++s).length:Int)>20000):Dm (l,0) (.pc s)=(l++s,6):=by unfold Dm;simp only;rw[if_pos h]
theorem Tc(l0:Aa)(es:List Ev):∀l:Aa,(((BA (l,0) es).2=0)/\(BA (l0++l,0) es)=(l0++(BA (l,0) es).1,0))\/((BA (l,0) es).2=0/\(BA (l0++l,0) es).2=6/\l0.length+(BA (l,0) es).1.length>20000)\/((BA (l,0) es).2≠0/\(BA (l0++l,0) es).2≠0):=by
 induction es with
 | nil=>intro l;left;exact⟨rfl,rfl⟩
 | cons ev es ih=>
  intro l
  rw[nO,nO]
  cases ev with
  | pc s=>
   by_cases h1:((l0++l++s).length:Int)>20000
   ·rw[Uj _ _ h1,CC (l0++l++s,6) rfl]
    by_cases h2:((l++s).length:Int)>20000
    ·rw[Uj _ _ h2,CC (l++s,6) rfl]
     omega
    ·rw[Ps _ _ h2]
     have hg:=Ym es (l++s,0)
     grind
   ·have h2:¬((l++s).length:Int)>20000:=by grind
    rw[Ps _ _ h1,Ps _ _ h2,Ask]
    exact ih _
  | er e=>
   show _\/_
   have e1:∀l:Aa,Dm (l,0) (.er e)=(l,e):=fun _=>rfl
   rw[e1,e1]
   by_cases h:e=0
   ·subst h;exact ih l
   ·have hb:(e==0)=false:=by simp[h]
    rw[CC (l,e) hb,CC (l0++l,e) hb]
    omega
def E7(s a b:Aa)(e f g:Int):Bool:=
 if e==0 then f==0&&g==0&&s==a++b else !(f==0)||!(g==0)||e==1||(e==6&&decide ((a.length:Int)+b.length>20000))
theorem sU(L:BV)(vs:List BE)(iso:Bool)(pa pb:List Aj):E7 (Ej L (pa++pb) vs iso).1 (Ej L pa vs iso).1 (Ej L pb vs iso).1 (Ej L (pa++pb) vs iso).2 (Ej L pa vs iso).2 (Ej L pb vs iso).2=true:=by
 cases hv:CX (pa++pb) with
 | false=>
  have h1:Ej L (pa++pb) vs iso=([],1):=by unfold Ej;rw[hv];rfl
  rw[h1]
  unfold E7
  simp
 | true=>
  obtain⟨va,vb⟩:=Ys hv
  have f1:∀ps,CX ps=true->Ej L ps vs iso=if(BA ([],0) (C9 ⟨L,vs,iso⟩ ps [])).2==0 then BA ([],0) (C9 ⟨L,vs,iso⟩ ps []) else([],(BA ([],0) (C9 ⟨L,vs,iso⟩ ps [])).2):=fun ps h=>by unfold Ej;rw[h];rfl
  rw[f1 _ hv,f1 _ va,f1 _ vb,iZ,Mn]
  generalize C9 ⟨L,vs,iso⟩ pa []=A
  generalize C9 ⟨L,vs,iso⟩ pb []=B
  generalize hw:BA ([],0) A=w
  obtain⟨a,e⟩:=w
  by_cases he:e=0
  ·subst he
   have hsh:=Tc a B []
   rw[Aou] at hsh
   generalize hr:BA ([],0) B=r at *
   obtain⟨b,g⟩:=r
   simp only at hsh
   rcases hsh with⟨h1,h2⟩|⟨h1,h2,h3⟩|⟨h1,h2⟩
   ·subst h1
    rw[h2]
    unfold E7
    simp
   ·subst h1
    generalize BA (a,0) B=R at *
    obtain⟨s,e⟩:=R
    simp only at h2
    subst h2
    unfold E7
    simp
    omega
   ·have hb:(g==0)=false:=by simp[h1]
    generalize BA (a,0) B=R at *
    obtain⟨s,e⟩:=R
    simp only at h2
    have hb2:(e==0)=false:=by simp[h2]
    unfold E7
    simp[h1,h2]
  ·have hb:(e==0)=false:=by simp[he]
   rw[CC (a,e) hb]
   unfold E7
   simp[he]
end Go.Ir

namespace Go.Ir
open Go.Proofs
variable(W0:World)
theorem AaH(c:UInt8):D0 c=AX.contains c:=by
 have h:∀n:_root_.Fin 256,D0 (UInt8.ofNat n.val)=AX.contains (UInt8.ofNat n.val):=by decide +kernel
 have:=h ⟨c.toNat,c.toNat_lt⟩
 simpa using this
theorem XN(p:Aa):Lib.trimLeftS p AX=p.drop (p.takeWhile D0).length/\p.length-(Lib.trimLeftS p AX).length=(p.takeWhile D0).length:=by
 have h1:Lib.trimLeftS p AX=p.dropWhile D0:=by
  unfold Lib.trimLeftS
  congr 1
  funext c;rw[AaH]
 have h2:p.takeWhile D0++p.dropWhile D0=p:=List.takeWhile_append_dropWhile
 grind
theorem dR(hT:BM W0)(x:LB)(c:Nat)(hx:Nq x c):∀(n:Nat) (p:Aa) (out g:List Aa),Cv n p out=some g->out.length<=g.length/\∀(m:Nat) (acc:Aa),(BZ x m p acc).1.length<=acc.length+p.length+(g.length-out.length)*c:=by
 intro n
 induction n with
 | zero=>intro p out g h;simp[Cv] at h
 | succ n ih=>
  intro p out g h
  rw[Cv] at h
  obtain⟨t1,t2⟩:=XN p
  rw[t2,t1] at h
  split at h
  ·rename_i h0
   cases h
   refine⟨AbG _,fun m acc=>?_⟩
   cases m with
   | zero=>rw[BZ];simp only;omega
   | succ m=>rw[BZ,if_pos h0];simp only;omega
  ·rename_i h0
   have hp1:1<=p.length:=by
    grind
   have htl:(p.takeWhile D0).length<=p.length:=(List.takeWhile_sublist _).length_le
   generalize hk:(p.takeWhile D0).length=k at *
   split at h
   ·rename_i h1
    have hk0:k=0:=by
     simp_all
    obtain⟨i1,i2⟩:=ih _ _ _ h
    refine⟨i1,fun m acc=>?_⟩
    cases m with
    | zero=>rw[BZ];simp only;omega
    | succ m=>
     rw[BZ,if_neg h0,hk,if_pos (by simp[hk0])]
     grind
   ·rename_i h1
    have hk0:1<=k:=by
     grind
    split at h
    ·obtain⟨i1,i2⟩:=ih _ _ _ h
     rw[Aik,List.length_singleton] at i1 i2
     refine⟨by omega,fun m acc=>?_⟩
     have hmul:(g.length-out.length)*c=(g.length-(out.length+1))*c+c:=by
      rw[show g.length-out.length=(g.length-(out.length+1))+1 by omega,Nat.succ_mul]
     cases m with
     | zero=>rw[BZ];simp only;omega
     | succ m=>
      have hf:=LK W0 hT x c hx (p.take k)
      rw[BZ,if_neg h0,hk,if_neg (by simp;omega)]
      grind
    ·cases h
theorem Re:∀(n:Nat) (p:Aa) (out g:List Aa),Cv n p out=some g->(∀f∈out,Fw f=true)->∀f∈g,Fw f=true:=by
 intro n
 induction n with
 | zero=>intro p out g h;simp[Cv] at h
 | succ n ih=>
  intro p out g h ho
  rw[Cv] at h
  grind
theorem Su{f:Aa}(h:Fw f=true):f.take 1∈CF:=by
 unfold Fw EF at h
 simp only[Aua,decide_eq_true_eq] at h
 simp only[Ao9,Asm,or_false] at h
 rcases h with rfl|rfl|rfl|rfl|rfl|rfl|rfl<;>decide
theorem OM{Q:List Aa}(hs:Q.Pairwise (fun x y=>x<=y))(hc:(Lib.compact Q).length=Q.length):Q.Nodup:=by
 unfold Lib.compact Lib.compactUpTo at hc
 rw[Ae5] at hc
 have h2:((List.range Q.length).filter (Lib.keeps Q.toArray)).length=(List.range Q.length).length:=by rw[hc,List.length_range]
 rw[List.length_filter_eq_length_iff] at h2
 rw[List.pairwise_iff_getElem] at hs
 unfold List.Nodup
 rw[List.pairwise_iff_getElem]
 intro i j hi hj hij he
 have hk:=h2 j (by simpa using hj)
 unfold Lib.keeps at hk
 grind
theorem bI{p:Aa}(h:YT p=true):∃g,GY p=some g/\g.length<=4:=by
 have:∃sk,Dq sk p=true:=by
  unfold YT at h
  simp only[AsC] at h
  grind
 obtain⟨sk,h⟩:=this
 unfold Dq at h
 split at h
 ·rename_i w g hw hg
  simp only[Aav] at h
  refine⟨g,hg,?_⟩
  have hk:=h.2.1
  unfold FU at hk
  simp only[beq_iff_eq] at hk
  have hl:(Kj (g.map fun f=>f.take 1)).length=g.length:=by unfold Kj;simp_all
  have hn:=OM (Q:=Kj (g.map fun f=>f.take 1)) (by
   unfold Kj
   have:=List.pairwise_mergeSort (le:=fun(x y:Aa)=>decide (x<=y)) (fun a b c h1 h2=>by grind) (fun a b=>by grind) (g.map fun f=>f.take 1)
   simpa using this) (by rw[hk,hl])
  have h4:=Kc hn (b:=CF) fun x hx=>by
   unfold Kj at hx
   rw[List.mem_mergeSort] at hx
   obtain⟨f,hf,rfl⟩:=Apq.1 hx
   unfold GY at hg
   exact Su (Re _ _ _ _ hg (by simp) f hf)
  rw[hl] at h4
  exact h4
 ·cases h
theorem Rn(hT:BM W0)(L:BV)(c:Nat)(hL:sZ L c)(hc:c<=2^20)(sk:Aa)(d:Int):(Es L sk d).1.length<=2^24:=by
 unfold Es
 cases hd:D8 d with
 | false=>simp
 | true=>
  obtain⟨q1,q2,q3,q4,q5,q6⟩:=NK hd
  have hday:Nq (Kr L d) c:=by
   have h7:(d+25567).tmod 7<7:=Int.tmod_lt_of_pos _ (by omega)
   refine⟨?_,q3,q4,?_,?_,hL.c24,hL.ml,hL.dl⟩
   ·show(GH d).1.toNat<_;omega
   ·show((Fp d).2+1).toNat<_;omega
   ·show((d+25567).tmod 7).toNat<_;omega
  simp only[if_true]
  split
  ·simp
  ·split
   ·split
    ·rename_i p hp
     split
     ·rename_i ho
      obtain⟨g,hg,h4⟩:=bI ho
      unfold GY at hg
      have hpl:=(hL.pt p (Ai1 hp)).1
      have:=(dR W0 hT (Kr L d) c hday _ _ _ _ hg).2 (p.pat.length+1) []
      unfold Io
      have hm:(g.length-0)*c<=4*2^20:=Auk (by omega) hc
      grind
     ·simp
    ·simp
   ·simp
theorem D7{α:Type}{f:α->Nat}:∀{l:List α} {x:α},x∈l->f x<=Bz f l
 | [],x,h=>by cases h
 | y::l,x,h=>by
  rw[Bz]
  rcases Ao9.1 h with rfl|h
  ·omega
  ·have:=D7 (f:=f) h;omega
theorem vX(a b:Nat)(h:a+b<=40026):a*b<=2^29:=by
 have key:∀a k:Nat,2*a+k<=40026->a*(a+k)<=2^29:=by
  intro a k h
  have h1:(2*a+k)*(2*a+k)<=40026*40026:=Auk h h
  grind
 rcases Nat.le_total a b with h1|h1
 ·obtain⟨k,rfl⟩:∃k,b=a+k:=⟨b-a,by omega⟩
  exact key a k (by omega)
 ·obtain⟨k,rfl⟩:∃k,a=b+k:=⟨a-b,by omega⟩
  grind
theorem AdT(L:BV)(h:M0 L<=40000)(hp:-9223372036854775808<=L.prim)(hs:L.sec<9223372036854775808)(hw:A7 L.card+A7 L.ord<=2^24):iF L (E4 L.months+E4 L.days+24)/\E4 L.months+E4 L.days+24<=2^20:=by
 have e1:E4 [L.tag,L.parent,L.dir,L.dec,L.grp,L.minus,L.perc]=Ho L.tag+(Ho L.parent+(Ho L.dir+(Ho L.dec+(Ho L.grp+(Ho L.minus+(Ho L.perc+0)))))):=rfl
 unfold M0 at h
 rw[e1] at h
 unfold Ho at h
 have l1:L.lists.length<=Bz Dc.sz L.lists:=EH (fun x=>by unfold Dc.sz E4;simp only[Bz,Ho];omega) _
 have l2:L.units.length<=Bz Eb.sz L.units:=EH (fun x=>by unfold Eb.sz E4;simp only[Bz,Ho];omega) _
 have l3:L.dates.length<=Bz Dg.sz L.dates:=EH (fun x=>by unfold Dg.sz E4;simp only[Bz,Ho];omega) _
 have ml:∀s∈L.months,s.length<=E4 L.months:=fun s hs=>by have:=D7 (f:=Ho) hs;unfold E4;unfold Ho at this⊢;omega
 have dl:∀s∈L.days,s.length<=E4 L.days:=fun s hs=>by have:=D7 (f:=Ho) hs;unfold E4;unfold Ho at this⊢;omega
 refine⟨⟨⟨?_,?_,?_,?_,hp,hs⟩,⟨by omega,fun u hu=>?_⟩,⟨by omega,fun p hp=>?_⟩,⟨by omega,fun s hs=>?_,fun s hs=>?_,by omega,fun p hp=>?_,fun p hp=>?_⟩,by omega⟩,by omega⟩
 ·omega
 ·omega
 ·omega
 ·omega
 ·have:=D7 (f:=Eb.sz) hu
  unfold Eb.sz E4 at this
  simp only[Bz,Ho] at this
  unfold Eb.sz E4 at h
  simp only[Bz,Ho] at h
  omega
 ·have:=D7 (f:=Dc.sz) hp
  have e:Dc.sz p=p.style.length+p.two.length+p.start.length+p.mid.length+p.fin.length+(Dc.sz p-(p.style.length+p.two.length+p.start.length+p.mid.length+p.fin.length)):=by
   unfold Dc.sz E4;simp only[Bz,Ho];omega
  omega
 ·have:=ml s hs;omega
 ·have:=dl s hs;omega
 ·have:=D7 (f:=Dg.sz) hp
  have e:p.skel.length+p.pat.length<=Dg.sz p:=by unfold Dg.sz E4;simp only[Bz,Ho];omega
  omega
 ·have:=D7 (f:=Dg.sz) hp
  have e:p.skel.length+p.pat.length<=Dg.sz p:=by unfold Dg.sz E4;simp only[Bz,Ho];omega
  refine⟨by omega,vX _ _ (by omega)⟩
end Go.Ir

namespace Go.Ir
open Go.Proofs Go.RowKit
variable(W0:World)
def I0(α:Type):V->Option (List α):=Ru fun _=>none
theorem DS{α:Type}(enc:α->V):HN (I0 α) fun l=>.sl (l.map enc):=Hu fun v x h=>by cases h
def iM:V->Option BV
 | .agg [a,b,c,x1,x2,d,e,f,g,p,q,y1,y2,y3,y4,y5]=>(Do a).bind fun a=>(Do b).bind fun b=>(Do c).bind fun c=>(I0 AH x1).bind fun x1=>(I0 AH x2).bind fun x2=>(Do d).bind fun d=>(Do e).bind fun e=>(Do f).bind fun f=>(Do g).bind fun g=>
  (Ij p).bind fun p=>(Ij q).bind fun q=>(I0 Dc y1).bind fun y1=>(I0 Eb y2).bind fun y2=>(I0 Dg y3).bind fun y3=>(I0 Aa y4).bind fun y4=>(I0 Aa y5).bind fun y5=>some ⟨a,b,c,x1,x2,d,e,f,g,p,q,y1,y2,y3,y4,y5⟩
 | _=>none
theorem aX:HN iM BV.enc:=by
 intro v l h
 unfold iM at h
 split at h
 ·obtain⟨a,h0,h⟩:=AcD.1 h
  obtain⟨b,h1,h⟩:=AcD.1 h
  obtain⟨c,h2,h⟩:=AcD.1 h
  obtain⟨x1,h3,h⟩:=AcD.1 h
  obtain⟨x2,h4,h⟩:=AcD.1 h
  obtain⟨d,h5,h⟩:=AcD.1 h
  obtain⟨e,h6,h⟩:=AcD.1 h
  obtain⟨f,h7,h⟩:=AcD.1 h
  obtain⟨g,h8,h⟩:=AcD.1 h
  obtain⟨p,h9,h⟩:=AcD.1 h
  obtain⟨q,h10,h⟩:=AcD.1 h
  obtain⟨y1,h11,h⟩:=AcD.1 h
  obtain⟨y2,h12,h⟩:=AcD.1 h
  obtain⟨y3,h13,h⟩:=AcD.1 h
  obtain⟨y4,h14,h⟩:=AcD.1 h
  obtain⟨y5,h15,h⟩:=AcD.1 h
  cases h
  rw[BV.enc_eq]
  refine⟨.agg _ _ rfl fun j c c' hc hc'=>?_,rfl,rfl,rfl⟩
  match j with
  | 0=>simp at hc hc';subst hc hc';exact(BJ _ _ h0).1
  | 1=>simp at hc hc';subst hc hc';exact(BJ _ _ h1).1
  | 2=>simp at hc hc';subst hc hc';exact(BJ _ _ h2).1
  | 3=>simp at hc hc';subst hc hc';exact(DS _ _ _ h3).1
  | 4=>simp at hc hc';subst hc hc';exact(DS _ _ _ h4).1
  | 5=>simp at hc hc';subst hc hc';exact(BJ _ _ h5).1
  | 6=>simp at hc hc';subst hc hc';exact(BJ _ _ h6).1
  | 7=>simp at hc hc';subst hc hc';exact(BJ _ _ h7).1
  | 8=>simp at hc hc';subst hc hc';exact(BJ _ _ h8).1
  | 9=>simp at hc hc';subst hc hc';exact(F5 _ _ h9).1
  | 10=>simp at hc hc';subst hc hc';exact(F5 _ _ h10).1
  | 11=>simp at hc hc';subst hc hc';exact(DS _ _ _ h11).1
  | 12=>simp at hc hc';subst hc hc';exact(DS _ _ _ h12).1
  | 13=>simp at hc hc';subst hc hc';exact(DS _ _ _ h13).1
  | 14=>simp at hc hc';subst hc hc';exact(DS _ _ _ h14).1
  | 15=>simp at hc hc';subst hc hc';exact(DS _ _ _ h15).1
  | j+16=>simp at hc
 ·cases h
def Tm:V->Option BE
 | .agg [a,b,c,d,e]=>(Do a).bind fun a=>(Ij b).bind fun b=>(Do c).bind fun c=>(Ij d).bind fun d=>(I0 Aa e).bind fun e=>some ⟨a,b,c,d,e⟩
 | _=>none
theorem XG:HN Tm BE.enc:=by
 intro v l h
 unfold Tm at h
 split at h
 ·obtain⟨a,h0,h⟩:=AcD.1 h
  obtain⟨b,h1,h⟩:=AcD.1 h
  obtain⟨c,h2,h⟩:=AcD.1 h
  obtain⟨d,h3,h⟩:=AcD.1 h
  obtain⟨e,h4,h⟩:=AcD.1 h
  cases h
  rw[BE.enc_eq]
  refine⟨.agg _ _ rfl fun j c c' hc hc'=>?_,rfl,rfl,rfl⟩
  match j with
  | 0=>simp at hc hc';subst hc hc';exact(BJ _ _ h0).1
  | 1=>simp at hc hc';subst hc hc';exact(F5 _ _ h1).1
  | 2=>simp at hc hc';subst hc hc';exact(BJ _ _ h2).1
  | 3=>simp at hc hc';subst hc hc';exact(F5 _ _ h3).1
  | 4=>simp at hc hc';subst hc hc';exact(DS _ _ _ h4).1
  | j+5=>simp at hc
 ·cases h
def Afn(L:BV)(ps:List Aj)(vs:List BE):Bool:=
 Nat.ble (M0 L) 40000&&(Nat.ble (A7 L.card+A7 L.ord) 1000000&&(decide (-9223372036854775808<=L.prim)&&(decide (L.sec<9223372036854775808)&&(Nat.ble (Bd ps) 1000000&&(Nat.ble vs.length 1000&&vs.all fun v=>Nat.ble v.text.length 1000000&&v.list.isEmpty)))))
def OP:List V->Option V
 | [l,ps,vs,.b iso]=>(iM l).bind fun L=>(Ru (Yz 40) ps).bind fun ps=>(Ru Tm vs).bind fun vs=>bif Afn L ps vs then some (.tup [.s (Ej L ps vs iso).1,.i .i64 (Ej L ps vs iso).2]) else none
 | _=>none
theorem Zz(hT:BM W0)(L:BV)(vs:List BE)(iso:Bool)(h:M0 L<=40000)(hp:-9223372036854775808<=L.prim)(hs:L.sec<9223372036854775808)(hw:A7 L.card+A7 L.ord<=2^24)(hn:vs.length<=2^40)(hv:∀v∈vs,TZ v/\v.text.length<=2^24):tB ⟨L,vs,iso⟩ (E4 L.months+E4 L.days+24):=by
 obtain⟨h1,h2⟩:=AdT L h hp hs hw
 exact⟨h1,hw,hv,hn,fun sk d=>Rn W0 hT L _ h1.dat h2 sk d⟩
theorem lV(hM:By W0)(hT:BM W0):AU Tryz.prog W0 (onP 26 OP):=Z4 fun args v h=>by
 unfold OP at h
 split at h
 ·rename_i x0 x1 x2 iso
  obtain⟨L,h0,h⟩:=AcD.1 h
  obtain⟨ps,h1,h⟩:=AcD.1 h
  obtain⟨vs,h2,h⟩:=AcD.1 h
  cases hs:Afn L ps vs with
  | false=>rw[hs] at h;cases h
  | true=>
   rw[hs] at h
   cases h
   unfold Afn at hs
   simp only[Aav,decide_eq_true_eq,Aiv,AtH,Atb] at hs
   obtain⟨b1,b2,b3,b4,b5,b6,b7⟩:=hs
   have hX:=Zz W0 hT L vs iso b1 b3 b4 (by omega) (by omega) fun v hv=>by
    obtain⟨q1,q2⟩:=b7 v hv
    exact⟨⟨by omega,by rw[q2];simp,by rw[q2];simp⟩,by omega⟩
   refine⟨H5 (No W0 hM hT _ L vs iso ps hX (by omega)) rfl fun k a a' ha ha'=>?_,rfl⟩
   match k with
   | 0=>simp at ha ha';subst ha ha';exact(aX _ _ h0).1
   | 1=>simp at ha ha';subst ha ha';exact(Hu (ON 40) _ _ h1).1
   | 2=>simp at ha ha';subst ha ha';exact(Hu XG _ _ h2).1
   | 3=>simp at ha ha';subst ha ha';exact .refl _
   | k+4=>simp at ha
 ·cases h
end Go.Ir
section
set_option maxRecDepth 100000
namespace Go.Ir
open Go.Proofs
def AnE:IC:=rS [m1 3 0,bC 4 .geq 3 (.i .u8 97),m1 5 4,BG 6 5 0,gT 7 5 (.bin .leq (.t 6) (.c (.i .u8 122))),pA 8 5 7,m1 9 8,BB 10 9 0,gF 11 9 (.bin .geq (.t 10) (.c (.i .u8 65))),BB 12 9 11,BG 13 12 0,gT 14 12 (.bin .leq (.t 13) (.c (.i .u8 90))),gF 15 9 (.pick (.t 12) (.t 14) (.c (.b false))),pO 16 9 15,m1 17 16,BB 18 17 0,gF 19 17 (.bin .geq (.t 18) (.c (.i .u8 48))),BB 20 17 19,BG 21 20 0,gT 22 20 (.bin .leq (.t 21) (.c (.i .u8 57))),gF 23 17 (.pick (.t 20) (.t 22) (.c (.b false))),pO 24 17 23,m1 2 24] [2] .ret
def Ajv:IC:=rS [mC 2 (.b false)] [0] AnE
def Ake:Ec:=⟨25,Ajv,[.t 2]⟩
theorem Amr:Cl Tryz.prog 97 Ake=true:=by kernel_rfl
def Aac:IC:=rS [m1 9 0,m1 10 3,o1 11 (.idx (.t 9) (.t 10)),q1 12 97 11,nT 13 12,m1 14 13,BG 15 14 0,BG 16 14 3,gT 17 14 (.idx (.t 15) (.t 16)),gT 18 14 (.bin .neq (.t 17) (.c (.i .u8 95))),pA 19 14 18,m1 20 19,BG 21 20 0,BG 22 20 3,gT 23 20 (.idx (.t 21) (.t 22)),gT 24 20 (.bin .neq (.t 23) (.c (.i .u8 45))),pA 25 20 24,m1 26 25,BG 27 26 0,BG 28 26 3,gT 29 26 (.idx (.t 27) (.t 28)),gT 30 26 (.bin .neq (.t 29) (.c (.i .u8 46))),pA 31 26 30,m1 32 31,BG 33 32 0,BG 34 32 3,gT 35 32 (.idx (.t 33) (.t 34)),gT 36 32 (.bin .neq (.t 35) (.c (.i .u8 61))),pA 37 32 36] [0,3,5,6,37] (cD 37 (rS [m1 38 3,m1 2 38] [2] .ret) .skip)
def Aia:IC:=rS [bT 7 .lss 6 5] [0,5,6,7] (sQ (cD 7 .skip (.exit 0)) (sQ (.block 1 (rS [m1 8 6,m1 3 8] [0,3,5,6] Aac)) (.seqr [bZ 39 .add 6 1,m1 6 39] [0,5,6])))
def AeX:IC:=rS [mZ 2 0] [0] (sQ (rS [m1 4 0,nS 5 4,mZ 6 0] [0,5,6] (.block 0 (.loop Aia))) (rS [m1 40 0,nS 41 40,m1 2 41] [2] .ret))
def Abr:Ec:=⟨42,AeX,[.t 2]⟩
theorem AgQ:Cl Tryz.prog 192 Abr=true:=by kernel_rfl
def AdL:IC:=rS [m1 5 0,nS 6 5,m1 7 1,nS 8 7,bT 9 .geq 6 8,m1 10 9,BG 11 10 0,BG 12 10 0,gT 13 10 (.lenS (.t 12)),BG 14 10 1,gT 15 10 (.lenS (.t 14)),gT 16 10 (.bin .sub (.t 13) (.t 15)),gT 17 10 (.slS (.t 11) (some (.t 16)) none),BG 18 10 1,gT 19 10 (.bin .eql (.t 17) (.t 18)),pA 20 10 19,m1 4 20] [4] .ret
def Adp:IC:=rS [mC 4 (.b false)] [0,1] AdL
def Ac5:Ec:=⟨21,Adp,[.t 4]⟩
theorem Adm:Cl Tryz.prog 323 Ac5=true:=by kernel_rfl
def AdB:IC:=sQ (rS [m1 6 0,m1 7 1,q2 8 323 6 7,nT 9 8] [0,1,9] (cD 9 (rS [m1 10 0,m1 4 10,mC 5 (.b false)] [4,5] .ret) .skip)) (rS [m1 11 0,m1 12 0,nS 13 12,m1 14 1,nS 15 14,bT 16 .sub 13 15,o1 17 (.slS (.t 11) none (some (.t 16))),m1 4 17,mC 5 (.b true)] [4,5] .ret)
def AhS:IC:=rS [mC 4 (.s []),mC 5 (.b false)] [0,1] AdB
def Abq:Ec:=⟨18,AhS,[.t 4,.t 5]⟩
theorem AgW:Cl Tryz.prog 295 Abq=true:=by kernel_rfl
def Agh:IC:=rS [mC 4 (.s []),mC 5 (.b false)] [0,1] (rS [m1 6 0,m1 7 1,q2 8 295 6 7,xT 9 8 0,xT 10 8 1,m1 4 9,m1 5 10] [4,5] .ret)
def Acf:Ec:=⟨11,Agh,[.t 4,.t 5]⟩
theorem Ae0:Cl Tryz.prog 253 Acf=true:=by kernel_rfl
def AhO:IC:=rS [m1 26 0,m1 27 3,o1 28 (.idx (.t 26) (.t 27)),q1 29 97 28,nT 30 29,m1 31 30,BG 32 31 0,BG 33 31 3,gT 34 31 (.idx (.t 32) (.t 33)),gT 35 31 (.bin .neq (.t 34) (.c (.i .u8 95))),pA 36 31 35,m1 37 36,BG 38 37 0,BG 39 37 3,gT 40 37 (.idx (.t 38) (.t 39)),gT 41 37 (.bin .neq (.t 40) (.c (.i .u8 45))),pA 42 37 41] [0,22,23,42] (cD 42 (rS [mC 2 (.b false)] [2] .ret) .skip)
def AgE:IC:=rS [bT 24 .lss 23 22] [0,22,23,24] (sQ (cD 24 .skip (.exit 0)) (sQ (.block 1 (rS [m1 25 23,m1 3 25] [0,3,22,23] AhO)) (.seqr [bZ 43 .add 23 1,m1 23 43] [0,22,23])))
def Ams:IC:=sQ (rS [m1 4 0,bC 5 .eql 4 (.s []),m1 6 5,BB 7 6 0,gF 8 6 (.lenS (.t 7)),Er 9 6 .gtr 8 40,pO 10 6 9,m1 11 10,BB 12 11 0,gF 13 11 (.idx (.t 12) (ci 0)),gF 14 11 (.bin .lss (.t 13) (.c (.i .u8 97))),pO 15 11 14,m1 16 15,BB 17 16 0,gF 18 16 (.idx (.t 17) (ci 0)),gF 19 16 (.bin .gtr (.t 18) (.c (.i .u8 122))),pO 20 16 19] [0,20] (cD 20 (rS [mC 2 (.b false)] [2] .ret) .skip)) (sQ (rS [m1 21 0,nS 22 21,mZ 23 0] [0,22,23] (.block 0 (.loop AgE))) (rS [mC 2 (.b true)] [2] .ret))
def Am1:IC:=rS [mC 2 (.b false)] [0] Ams
def Ann:Ec:=⟨44,Am1,[.t 2]⟩
theorem An3:Cl Tryz.prog 62 Ann=true:=by kernel_rfl
def Aae:IC:=rS [m1 25 3,o1 26 (.call 253 [.t 25,.c (.s [47])]),m1 24 26,xT 27 24 0,xT 28 24 1,m1 8 27,m1 9 28] [2,3,5,8,9] (rS [m1 29 9] [2,3,5,8,29] (cD 29 (.seqr [m1 30 8,mZ 2 7,m1 3 30] [2,3,5]) .skip))
def uG:IC:=sQ (rS [m1 31 3,q1 32 62 31,nT 33 32] [2,3,5,33] (cD 33 (rS [mZ 2 0,mC 3 (.s []),mZ 4 0] [2,3,4] .ret) .skip)) (rS [m1 34 2,m1 35 3,m1 36 5,bZ 37 .add 36 1,m1 2 34,m1 3 35,m1 4 37] [2,3,4] .ret)
def vZ:IC:=sQ (rS [m1 18 3,o1 19 (.call 135 [.t 18,.c (.s [47])]),m1 17 19,xT 20 17 0,xT 21 17 1,m1 6 20,m1 7 21] [2,3,5,6,7] (rS [m1 22 7] [2,3,5,6,22] (cD 22 (.seqr [m1 23 6,mZ 2 6,m1 3 23] [2,3,5]) Aae))) uG
def Aht:IC:=rS [m1 10 0,o1 11 (.call 252 [.t 10,.c (.i .u8 62)]),m1 5 11] [0,5] (sQ (rS [m1 12 5,bZ 13 .lss 12 0] [0,5,13] (cD 13 (rS [mZ 2 0,mC 3 (.s []),mZ 4 0] [2,3,4] .ret) .skip)) (sQ (.ops [m1 14 0,m1 15 5,o1 16 (.slS (.t 14) (some (ci 1)) (some (.t 15))),mZ 2 5,m1 3 16] [2,3,5] [[0,2],[1,2],[2,4]]) vZ))
def Agp:IC:=rS [mZ 2 0,mC 3 (.s []),mZ 4 0] [0] Aht
def AbU:Ec:=⟨38,Agp,[.t 2,.t 3,.t 4]⟩
theorem Afl:Cl Tryz.prog 193 AbU=true:=by kernel_rfl
def yZ:IC:=rS [bC 8 .eql 3 (.i .u8 62),m1 4 8] [3,4] (cD 4 .skip (rS [bC 9 .eql 3 (.i .u8 35),m1 4 9] [3,4] (cD 4 .skip (.seqr [bC 10 .eql 3 (.i .u8 92),m1 4 10] [4]))))
def Aey:IC:=.block 0 (sQ (rS [bC 5 .eql 3 (.i .u8 123),m1 4 5] [3,4] (cD 4 .skip (rS [bC 6 .eql 3 (.i .u8 125),m1 4 6] [3,4] (cD 4 .skip (rS [bC 7 .eql 3 (.i .u8 60),m1 4 7] [3,4] (cD 4 .skip yZ)))))) (cD 4 (rS [mC 2 (.b true)] [2] .ret) .skip))
def Af6:IC:=rS [mC 2 (.b false)] [0] (sQ (rS [m1 3 0] [3] Aey) (rS [mC 2 (.b false)] [2] .ret))
def AbK:Ec:=⟨11,Af6,[.t 2]⟩
theorem Agm:Cl Tryz.prog 186 AbK=true:=by kernel_rfl
def vL:IC:=sQ (rS [m1 15 0,m1 16 3,o1 17 (.idx (.t 15) (.t 16)),bC 18 .neq 17 (.i .u8 92),m1 19 18,BB 20 19 3,Er 21 19 .add 20 1,BB 22 19 0,gF 23 19 (.lenS (.t 22)),gF 24 19 (.bin .eql (.t 21) (.t 23)),pO 25 19 24,m1 26 25,BB 27 26 0,BB 28 26 3,Er 29 26 .add 28 1,gF 30 26 (.idx (.t 27) (.t 29)),gF 31 26 (.call 186 [.t 30]),gF 32 26 (.not (.t 31)),pO 33 26 32] [0,3,33] (cD 33 (rS [m1 34 3,m1 2 34] [2] .ret) .skip)) (.seqr [m1 35 3,bZ 36 .add 35 1,m1 3 36] [0,3])
def Aah:IC:=sQ (.block 1 (sQ (rS [m1 10 0,m1 11 3,o1 12 (.idx (.t 10) (.t 11)),q1 13 186 12,nT 14 13] [0,3,14] (cD 14 (.exit 1) .skip)) vL)) (.seqr [m1 8 3,bZ 9 .add 8 1,m1 3 9] [0,3])
def AgV:IC:=sQ (rS [mZ 3 0] [0,3] (.block 0 (.loop (sQ (rS [m1 4 3,m1 5 0,nS 6 5,bT 7 .lss 4 6] [0,3,7] (cD 7 .skip (.exit 0))) Aah)))) (rS [m1 37 0,nS 38 37,m1 2 38] [2] .ret)
def AdF:IC:=rS [mZ 2 0] [0] AgV
def Abb:Ec:=⟨39,AdF,[.t 2]⟩
theorem Ah7:Cl Tryz.prog 194 Abb=true:=by kernel_rfl
def yN:IC:=cD 39 (rS [m1 42 0,q1 43 193 42,xT 44 43 0,xT 45 43 1,xT 46 43 2,m1 4 44,m1 5 45,m1 6 46] [4,5,6] .ret) (.seqr [m1 10 0,q1 11 194 10,mZ 4 1,m1 6 11] [0,4,6])
def Aaq:IC:=cD 34 (sQ (.ops [m1 37 0,o1 38 (.slS (.t 37) none (some (ci 1))),mZ 4 4,m1 5 38,mZ 6 1] [4,5,6] [[0,1],[1,3]]) .ret) (rS [m1 40 7,bC 41 .eql 40 (.i .u8 60),m1 39 41] [0,39] yN)
def AaD:IC:=rS [m1 23 1,m1 24 23,BG 25 24 7,gT 26 24 (.bin .eql (.t 25) (.c (.i .u8 44))),pA 27 24 26,m1 22 27] [0,1,7,22] (cD 22 (sQ (.ops [m1 28 0,o1 29 (.slS (.t 28) none (some (ci 1))),mZ 4 8,m1 5 29,mZ 6 1] [4,5,6] [[0,1],[1,3]]) .ret) (rS [m1 31 1,m1 30 31] [0,7,30] (cD 30 (.seqr [m1 32 0,q1 33 192 32,mZ 4 9,m1 6 33] [0,4,6]) (rS [m1 35 7,bC 36 .eql 35 (.i .u8 35),m1 34 36] [0,7,34] Aaq))))
def xY:IC:=rS [m1 18 7,bC 19 .eql 18 (.i .u8 125),m1 17 19] [0,1,7,17] (cD 17 (sQ (.ops [m1 20 0,o1 21 (.slS (.t 20) none (some (ci 1))),mZ 4 3,m1 5 21,mZ 6 1] [4,5,6] [[0,1],[1,3]]) .ret) AaD)
def Afq:IC:=.block 0 (rS [m1 13 7,bC 14 .eql 13 (.i .u8 123),m1 12 14] [0,1,7,12] (cD 12 (sQ (.ops [m1 15 0,o1 16 (.slS (.t 15) none (some (ci 1))),mZ 4 2,m1 5 16,mZ 6 1] [4,5,6] [[0,1],[1,3]]) .ret) xY))
def xV:IC:=sQ (.ops [m1 49 4,m1 50 0,m1 51 6,o1 52 (.slS (.t 50) none (some (.t 51))),m1 53 6,m1 4 49,m1 5 52,m1 6 53] [4,5,6] [[1,3],[2,3],[0,5],[3,6],[2,7],[4,7]]) .ret
def AhV:IC:=sQ (rS [m1 8 0,o1 9 (.idx (.t 8) (ci 0)),m1 7 9] [0,1,7] Afq) (sQ (rS [m1 47 6,bZ 48 .eql 47 0] [0,4,6,48] (cD 48 (rS [mZ 4 0,mC 5 (.s []),mZ 6 0] [4,5,6] .ret) .skip)) xV)
def Age:IC:=rS [mZ 4 0,mC 5 (.s []),mZ 6 0] [0,1] AhV
def Ab7:Ec:=⟨54,Age,[.t 4,.t 5,.t 6]⟩
theorem AgM:Cl Tryz.prog 139 Ab7=true:=by kernel_rfl
def AeL:IC:=rS [m1 61 5,m1 62 6,o1 63 (.msl true 4 1 [.t 62]),o1 64 (.app (.t 61) (.t 63) 4 1),m1 5 64] [0,2,3,5,6,7,8,9] (.seqr [m1 65 6,nT 66 65,m1 6 66] [0,2,3,5,6,7,8,9])
def Ad0:IC:=rS [m1 70 5,m1 71 5,nL 72 71,bZ 73 .sub 72 1,iA 74 70 73 4 1,l1 75 74,m1 6 75] [0,2,3,5,6,7,8,9] (.seqr [m1 76 5,m1 77 5,nL 78 77,bZ 79 .sub 78 1,o1 80 (.slT (.t 76) (.t 79) 1),m1 5 80] [0,2,3,5,6,7,8,9])
def Ah3:IC:=rS [m1 59 7,bZ 60 .eql 59 2,m1 58 60] [0,2,3,5,6,7,8,9,58] (cD 58 AeL (rS [m1 68 7,bZ 69 .eql 68 3,m1 67 69] [0,2,3,5,6,7,8,9,67] (cD 67 Ad0 .skip)))
def Agf:IC:=rS [m1 81 2,m1 82 7,m1 83 8,m1 84 3,m1 85 3,m1 86 9,bT 87 .add 85 86,o1 88 (.build [.i .i64 0,.s [],.i .i64 0,.i .i64 0] [(0,1,.t 82),(1,1,.t 83),(2,1,.t 84),(3,1,.t 87)]),o1 89 (.msl true 256 4 [.t 88]),o1 90 (.app (.t 81) (.t 89) 256 4),m1 2 90] [0,2,3,5,6,9] (.seqr [m1 91 3,m1 92 9,bT 93 .add 91 92,m1 3 93] [0,2,3,5,6])
def Ahg:IC:=sQ (.block 2 (sQ (rS [m1 48 7,bZ 49 .eql 48 0,m1 47 49] [0,2,3,5,6,7,8,9,47] (cD 47 .skip (.seqr [m1 50 7,bZ 51 .eql 50 3,m1 52 51,BG 53 52 5,gT 54 52 (.lenL (.t 53)),FSz 55 52 .eql 54 0,pA 56 52 55,m1 47 56] [0,2,3,5,6,7,8,9,47]))) (cD 47 (rS [m1 57 3,mC 2 .nil,m1 3 57,mZ 4 3] [2,3,4] .ret) Ah3))) Agf
def Aet:IC:=rS [m1 39 0,m1 40 3,o1 41 (.slS (.t 39) (some (.t 40)) none),m1 42 6,q2 43 139 41 42,m1 38 43,xT 44 38 0,xT 45 38 1,xT 46 38 2,m1 7 44,m1 8 45,m1 9 46] [0,2,3,5,6,7,8,9] Ahg
def Ade:IC:=.block 1 (sQ (rS [m1 17 6,m1 18 17,BG 19 18 0,BG 20 18 3,gT 21 18 (.idx (.t 19) (.t 20)),gT 22 18 (.bin .eql (.t 21) (.c (.i .u8 32))),BG 23 18 22,BB 24 23 0,BB 25 23 3,gF 26 23 (.idx (.t 24) (.t 25)),gF 27 23 (.bin .eql (.t 26) (.c (.i .u8 9))),gT 28 18 (.pick (.t 23) (.c (.b true)) (.t 27)),BG 29 18 28,BB 30 29 0,BB 31 29 3,gF 32 29 (.idx (.t 30) (.t 31)),gF 33 29 (.bin .eql (.t 32) (.c (.i .u8 10))),gT 34 18 (.pick (.t 29) (.c (.b true)) (.t 33)),pA 35 18 34] [0,2,3,5,6,35] (cD 35 (rS [m1 36 3,bZ 37 .add 36 1,m1 3 37] [0,2,3,5,6] (.exit 1)) .skip)) Aet)
def Agx:IC:=sQ (rS [m1 94 5,nL 95 94,bZ 96 .gtr 95 0] [0,2,96] (cD 96 (rS [m1 97 0,nS 98 97,mC 2 .nil,m1 3 98,mZ 4 3] [2,3,4] .ret) .skip)) (rS [m1 99 2,m1 2 99,mZ 3 0,mZ 4 0] [2,3,4] .ret)
def Ahm:IC:=rS [mC 6 (.b false)] [0,2,3,5,6] (sQ (.block 0 (.loop (sQ (rS [m1 13 3,m1 14 0,nS 15 14,bT 16 .lss 13 15] [0,2,3,5,6,16] (cD 16 .skip (.exit 0))) Ade))) Agx)
def Am7:IC:=sQ (rS [m1 10 0,nS 11 10,bZ 12 .gtr 11 4000] [0,2,3,12] (cD 12 (rS [mC 2 .nil,mZ 3 4000,mZ 4 6] [2,3,4] .ret) .skip)) (rS [mC 5 .nil] [0,2,3,5] Ahm)
def Akj:IC:=rS [mC 2 .nil,mZ 3 0,mZ 4 0] [0,2,3] Am7
def AlC:Ec:=⟨100,Akj,[.t 2,.t 3,.t 4]⟩
theorem Ai8:Cl Tryz.prog 99 AlC=true:=by kernel_rfl
def AgN:IC:=sQ (.ops [m1 20 0,nC 21 20,fA 22 21 1,l1 23 22,m1 24 0,nC 25 24,fA 26 25 2,l1 27 26,iA 28 23 27 256 4,fA 29 28 0,l1 30 29,m1 2 30] [2] [[0,1],[1,2],[2,3],[4,5],[5,6],[6,7],[3,8],[7,8],[8,9],[9,10],[10,11]]) .ret
def Afs:IC:=sQ (sQ (.ops [m1 3 0,nC 4 3,fA 5 4 5,l1 6 5,bZ 7 .neq 6 0,m1 8 7,BB 9 8 0,gF 10 8 (.nilck (.t 9)),EP 11 8 10 2,Ew 12 8 11,BB 13 8 0,gF 14 8 (.nilck (.t 13)),EP 15 8 14 1,Ew 16 8 15,gF 17 8 (.lenL (.t 16)),gF 18 8 (.bin .geq (.t 12) (.t 17)),pO 19 8 18] [0,19] [[0,1],[1,2],[2,3],[3,4],[4,5],[5,6],[5,7],[6,7],[5,8],[7,8],[5,9],[8,9],[5,10],[5,11],[10,11],[5,12],[11,12],[5,13],[12,13],[5,14],[13,14],[5,15],[9,15],[14,15],[5,16],[15,16]]) (cD 19 (rS [mZ 2 0] [2] .ret) .skip)) AgN
def Adh:IC:=rS [mZ 2 0] [0] Afs
def AcP:Ec:=⟨31,Adh,[.t 2]⟩
theorem AgY:Cl Tryz.prog 140 AcP=true:=by kernel_rfl
def zA:IC:=sQ (.ops [m1 18 0,nC 19 18,fA 20 19 1,l1 21 20,m1 22 0,nC 23 22,fA 24 23 2,l1 25 24,bZ 26 .sub 25 1,iA 27 21 26 256 4,fA 28 27 1,l1 29 28,m1 4 29] [4] [[0,1],[1,2],[2,3],[4,5],[5,6],[6,7],[7,8],[3,9],[8,9],[9,10],[10,11],[11,12]]) .ret
def AfI:IC:=sQ (rS [m1 5 0,o1 6 (.calls 140 [.t 5]),m1 7 1,bT 8 .neq 6 7] [0,8] (cD 8 (rS [m1 9 0,o1 10 (.calls 101 [.t 9,ci 3])] [] (rS [mC 4 (.s [])] [4] .ret)) .skip)) (rS [m1 11 0,nC 12 11,fA 13 12 2,l1 14 13,bZ 15 .add 14 1,nC 16 11,fA 17 16 2,sT 17 15 1] [0] zA)
def Ad3:IC:=rS [mC 4 (.s [])] [0,1] AfI
def AaK:Ec:=⟨30,Ad3,[.t 4]⟩
theorem AdK:Cl Tryz.prog 142 AaK=true:=by kernel_rfl
def AhC:IC:=rS [m1 7 0,m1 8 0,nC 9 8,fA 10 9 1,l1 11 10,m1 12 1,o1 13 (.msl true 5 1 [.t 12]),o1 14 (.app (.t 11) (.t 13) 5 1),nC 15 7,fA 16 15 1,sT 16 14 1] [] (rS [mC 4 .ni] [4] .ret)
def AfQ:IC:=rS [mC 4 .ni] [0,1] (rS [m1 5 0,o1 6 (.calls 180 [.t 5])] [0,1] AhC)
def AbV:Ec:=⟨17,AfQ,[.t 4]⟩
theorem Afg:Cl Tryz.prog 187 AbV=true:=by kernel_rfl
def wM:IC:=sQ (.block 1 (sQ (rS [m1 21 0,m1 22 7,o1 23 (.idx (.t 21) (.t 22)),bC 24 .eql 23 (.i .u8 92)] [0,6,7,24] (cD 24 (.seqr [m1 25 7,bZ 26 .add 25 1,m1 7 26] [0,6,7]) .skip)) (.seqr [m1 27 0,m1 28 7,o1 29 (.idx (.t 27) (.t 28)),o1 30 (.calls 187 [.t 6,.t 29])] [0,6,7]))) (.seqr [m1 19 7,bZ 20 .add 19 1,m1 7 20] [0,6,7])
def tP:IC:=rS [o1 6 (.mkm (.tnew 98 (.agg [.np,.nil])) [])] [0,6] (sQ (rS [mZ 7 0] [0,6,7] (.block 0 (.loop (sQ (rS [m1 15 7,m1 16 0,nS 17 16,bT 18 .lss 15 17] [0,6,7,18] (cD 18 .skip (.exit 0))) wM)))) (rS [o1 31 (.calls 45 [.t 6]),m1 2 31,mZ 3 0,mZ 4 0] [2,3,4] .ret))
def AfJ:IC:=rS [mC 2 (.s []),mZ 3 0,mZ 4 0] [0] (sQ (rS [m1 8 0,q1 9 194 8,m1 5 9] [0,5] (rS [m1 10 5,m1 11 0,nS 12 11,bT 13 .lss 10 12] [0,5,13] (cD 13 (rS [m1 14 5,mC 2 (.s []),m1 3 14,mZ 4 3] [2,3,4] .ret) .skip))) tP)
def Acz:Ec:=⟨32,AfJ,[.t 2,.t 3,.t 4]⟩
theorem Aeg:Cl Tryz.prog 141 Acz=true:=by kernel_rfl
def AeN:IC:=rS [m1 4 1,bZ 5 .gtr 4 8] [0,5] (cD 5 (.seqr [m1 6 0,o1 7 (.calls 101 [.t 6,ci 6])] []) .skip)
def AbE:Ec:=⟨8,AeN,[]⟩
theorem Aif:Cl Tryz.prog 143 AbE=true:=by kernel_rfl
def Afk:IC:=sQ (sQ (.ops [m1 19 0,o1 20 (.calls 140 [.t 19]),bZ 21 .neq 20 6,m1 22 21,BB 23 22 0,gF 24 22 (.nilck (.t 23)),EP 25 22 24 1,Ew 26 22 25,BB 27 22 0,gF 28 22 (.nilck (.t 27)),EP 29 22 28 2,Ew 30 22 29,gF 31 22 (.iaddr (.t 26) (.t 30) 256 4),EP 32 22 31 1,Ew 33 22 32,EP 34 22 7 2,Ew 35 22 34,gF 36 22 (.bin .neq (.t 33) (.t 35)),pO 37 22 36] [0,6,7,37] [[0,1],[1,2],[2,3],[3,4],[3,5],[4,5],[3,6],[5,6],[1,3,7],[3,7],[6,7],[3,8],[3,9],[8,9],[3,10],[9,10],[1,3,11],[3,11],[10,11],[1,3,12],[3,12],[7,12],[11,12],[3,13],[12,13],[1,3,14],[3,14],[13,14],[3,15],[1,3,16],[3,16],[15,16],[3,17],[14,17],[16,17],[3,18],[17,18]]) (cD 37 (.seqr [m1 38 0,o1 39 (.calls 101 [.t 38,ci 3])] [0,6,7]) .skip)) (rS [m1 40 0,o1 41 (.calls 142 [.t 40,ci 6])] [6,7] (rS [lA 42 7 6,sT 6 42 6] [6] .ret))
def AfT:IC:=rS [m1 11 0,o1 12 (.calls 142 [.t 11,ci 5]),o1 13 (.build [.i .i64 0,.s [],.s [],.s [],.nil,.nil] [(0,1,ci 11),(2,1,.t 12)]),o1 7 (.alloc (.agg [.i .i64 0,.s [],.s [],.s [],.nil,.nil])),sT 7 13 6] [0,1,2,6,7] (rS [m1 14 0,m1 15 1,m1 16 2,o1 17 (.calls 100 [.t 14,.t 15,.t 16]),fA 18 7 5,sT 18 17 1] [0,6,7] Afk)
def AhD:IC:=rS [o1 6 (.alloc (.agg [.i .i64 0,.s [],.s [],.s [],.nil,.nil]))] [0,1,2,6] (rS [m1 8 0,m1 9 1,o1 10 (.calls 143 [.t 8,.t 9])] [0,1,2,6] AfT)
def AaR:Ec:=⟨43,AhD,[.c 6 6 true]⟩
theorem AeZ:Cl Tryz.prog 144 AaR=true:=by kernel_rfl
def Ahf:IC:=sQ (sQ (.ops [m1 5 0,o1 6 (.calls 140 [.t 5]),bZ 7 .neq 6 9,m1 8 7,BB 9 8 1,BB 10 8 0,gF 11 8 (.nilck (.t 10)),EP 12 8 11 1,Ew 13 8 12,BB 14 8 0,gF 15 8 (.nilck (.t 14)),EP 16 8 15 2,Ew 17 8 16,gF 18 8 (.iaddr (.t 13) (.t 17) 256 4),EP 19 8 18 1,Ew 20 8 19,gF 21 8 (.callvs (.t 9) [.t 20]),gF 22 8 (.not (.t 21)),pO 23 8 22] [0,23] [[0,1],[1,2],[2,3],[3,4],[3,5],[3,6],[5,6],[3,7],[6,7],[1,3,8],[3,8],[7,8],[3,9],[3,10],[9,10],[3,11],[10,11],[1,3,12],[3,12],[11,12],[1,3,13],[3,13],[8,13],[12,13],[3,14],[13,14],[1,3,15],[3,15],[14,15],[1,3,16],[3,16],[4,16],[8,13,14,15,16],[12,13,14,15,16],[13,14,15,16],[15,16],[3,17],[16,17],[3,18],[17,18]]) (cD 23 (rS [m1 24 0,o1 25 (.calls 101 [.t 24,ci 3])] [] (rS [mC 4 (.s [])] [4] .ret)) .skip)) (rS [m1 26 0,o1 27 (.calls 142 [.t 26,ci 9]),m1 4 27] [4] .ret)
def Ag8:IC:=rS [mC 4 (.s [])] [0,1] Ahf
def AcN:Ec:=⟨28,Ag8,[.t 4]⟩
theorem Aes:Cl Tryz.prog 197 AcN=true:=by kernel_rfl
def Ahe:IC:=sQ (rS [m1 52 3,bC 53 .neq 52 (.s [])] [0,3,53] (cD 53 (.seqr [m1 54 0,nC 55 54,fA 56 55 3,l1 57 56,m1 58 3,o0 (.wrm (.mput .str) (.t 57) [.t 58,.c (.b true)])] [3]) .skip)) (rS [m1 59 3,m1 2 59] [2] .ret)
def Agr:IC:=sQ (sQ (.ops [m1 4 0,o1 5 (.calls 140 [.t 4]),bZ 6 .eql 5 9,m1 7 6,BG 8 7 0,gT 9 7 (.nilck (.t 8)),F0 10 7 9 1,EQ 11 7 10,BG 12 7 0,gT 13 7 (.nilck (.t 12)),F0 14 7 13 2,EQ 15 7 14,gT 16 7 (.iaddr (.t 11) (.t 15) 256 4),F0 17 7 16 1,EQ 18 7 17,gT 19 7 (.call 62 [.t 18]),pA 20 7 19,m1 21 20,BG 22 21 0,gT 23 21 (.nilck (.t 22)),F0 24 21 23 3,EQ 25 21 24,BG 26 21 0,gT 27 21 (.nilck (.t 26)),F0 28 21 27 1,EQ 29 21 28,BG 30 21 0,gT 31 21 (.nilck (.t 30)),F0 32 21 31 2,EQ 33 21 32,gT 34 21 (.iaddr (.t 29) (.t 33) 256 4),F0 35 21 34 1,EQ 36 21 35,gT 37 21 (.rdm (.mget .str (.b false) false) (.t 25) [.t 36]),gT 38 21 (.not (.t 37)),pA 39 21 38,m1 40 39,BG 41 40 0,gT 42 40 (.nilck (.t 41)),F0 43 40 42 3,EQ 44 40 43,gT 45 40 (.rdm .mlen (.t 44) []),FSz 46 40 .geq 45 20,pA 47 40 46] [0,47] [[0,1],[1,2],[2,3],[3,4],[3,5],[4,5],[3,6],[5,6],[1,3,7],[3,7],[6,7],[3,8],[3,9],[8,9],[3,10],[9,10],[1,3,11],[3,11],[10,11],[1,3,12],[3,12],[7,12],[11,12],[3,13],[12,13],[1,3,14],[3,14],[13,14],[3,15],[14,15],[3,16],[15,16],[16,17],[17,18],[17,19],[18,19],[17,20],[19,20],[1,3,16,17,21],[17,21],[20,21],[17,22],[17,23],[22,23],[17,24],[23,24],[1,3,16,17,25],[17,25],[24,25],[17,26],[17,27],[26,27],[17,28],[27,28],[1,3,16,17,29],[17,29],[28,29],[1,3,16,17,30],[17,30],[25,30],[29,30],[17,31],[30,31],[1,3,16,17,32],[17,32],[31,32],[1,3,16,17,33],[17,33],[21,33],[32,33],[17,34],[33,34],[17,35],[34,35],[35,36],[36,37],[36,38],[37,38],[36,39],[38,39],[1,3,16,17,36,40],[36,40],[39,40],[1,3,16,17,36,41],[36,41],[40,41],[36,42],[41,42],[36,43],[42,43]]) (cD 47 (.seqr [m1 48 0,o1 49 (.calls 101 [.t 48,ci 6])] [0]) .skip)) (rS [m1 50 0,o1 51 (.calls 197 [.t 50,.c (.fn 62 [] [])]),m1 3 51] [0,3] Ahe)
def Adl:IC:=rS [mC 2 (.s [])] [0] Agr
def AcB:Ec:=⟨60,Adl,[.t 2]⟩
theorem Af5:Cl Tryz.prog 195 AcB=true:=by kernel_rfl
def Ah4:IC:=rS [o1 1 (.mkm .mkmap []),o0 (.wrm (.mput .str) (.t 1) [.c (.s [110,117,109,98,101,114]),ci 3]),o0 (.wrm (.mput .str) (.t 1) [.c (.s [117,110,105,116]),ci 4]),o0 (.wrm (.mput .str) (.t 1) [.c (.s [100,97,116,101]),ci 5]),o0 (.wrm (.mput .str) (.t 1) [.c (.s [108,105,115,116]),ci 6]),o0 (.wrm (.mput .str) (.t 1) [.c (.s [112,108,117,114,97,108]),ci 7]),o0 (.wrm (.mput .str) (.t 1) [.c (.s [111,114,100,105,110,97,108]),ci 8]),o0 (.wrm (.mput .str) (.t 1) [.c (.s [115,101,108,101,99,116]),ci 9]),m1 2 1,m1 0 2] [0] .ret
def AeE:IC:=rS [mC 0 .nm] [] Ah4
def AcH:Ec:=⟨3,AeE,[.t 0]⟩
theorem AeB:Cl Tryz.prog 134 AcH=true:=by kernel_rfl
def AhE:IC:=rS [mC 3 (.b false)] [0,1] (rS [l1 4 1,m1 5 0,o1 6 (.rdm (.mget .str (.i .i64 0) false) (.t 4) [.t 5]),bZ 7 .neq 6 0,m1 3 7] [3] .ret)
def Abl:Ec:=⟨8,AhE,[.t 3]⟩
theorem Af7:Cl Tryz.prog 196 Abl=true:=by kernel_rfl
def Am9:IC:=rS [mC 2 (.b false)] [0] (rS [m1 3 0,bZ 4 .geq 3 7,m1 5 4,BG 6 5 0,FSz 7 5 .leq 6 9,pA 8 5 7,m1 2 8] [2] .ret)
def AjX:Ec:=⟨9,Am9,[.t 2]⟩
theorem AiG:Cl Tryz.prog 79 AjX=true:=by kernel_rfl
def Aa5:IC:=cD 4 .skip (rS [bC 8 .eql 3 (.s [102,101,119]),m1 4 8] [3,4] (cD 4 .skip (rS [bC 9 .eql 3 (.s [109,97,110,121]),m1 4 9] [3,4] (cD 4 .skip (.seqr [bC 10 .eql 3 (.s [111,116,104,101,114]),m1 4 10] [4])))))
def AhM:IC:=.block 0 (sQ (rS [bC 5 .eql 3 (.s [122,101,114,111]),m1 4 5] [3,4] (cD 4 .skip (rS [bC 6 .eql 3 (.s [111,110,101]),m1 4 6] [3,4] (cD 4 .skip (rS [bC 7 .eql 3 (.s [116,119,111]),m1 4 7] [3,4] Aa5))))) (cD 4 (rS [mC 2 (.b true)] [2] .ret) .skip))
def Afw:IC:=rS [mC 2 (.b false)] [0] (sQ (rS [m1 3 0] [3] AhM) (rS [mC 2 (.b false)] [2] .ret))
def Acw:Ec:=⟨11,Afw,[.t 2]⟩
theorem AhR:Cl Tryz.prog 242 Acw=true:=by kernel_rfl
def Aen:IC:=sQ (.ops [m1 13 0,m1 14 7,o1 15 (.slS (.t 13) none (some (.t 14))),m1 16 0,m1 17 7,m1 18 1,nS 19 18,bT 20 .add 17 19,o1 21 (.slS (.t 16) (some (.t 20)) none),m1 4 15,m1 5 21,mC 6 (.b true)] [4,5,6] [[0,2],[1,2],[5,6],[4,7],[6,7],[3,8],[7,8],[2,9],[8,10]]) .ret
def Aeq:IC:=sQ (rS [m1 8 0,m1 9 1,q2 10 244 8 9,m1 7 10] [0,1,7] (rS [m1 11 7,bZ 12 .geq 11 0] [0,1,7,12] (cD 12 Aen .skip))) (rS [m1 22 0,m1 4 22,mC 5 (.s []),mC 6 (.b false)] [4,5,6] .ret)
def AhW:IC:=rS [mC 4 (.s []),mC 5 (.s []),mC 6 (.b false)] [0,1] Aeq
def Ac2:Ec:=⟨23,AhW,[.t 4,.t 5,.t 6]⟩
theorem AhG:Cl Tryz.prog 189 Ac2=true:=by kernel_rfl
def Agz:IC:=rS [mC 4 (.s []),mC 5 (.s []),mC 6 (.b false)] [0,1] (rS [m1 7 0,m1 8 1,q2 9 189 7 8,xT 10 9 0,xT 11 9 1,xT 12 9 2,m1 4 10,m1 5 11,m1 6 12] [4,5,6] .ret)
def Ac3:Ec:=⟨13,Agz,[.t 4,.t 5,.t 6]⟩
theorem Afj:Cl Tryz.prog 136 Ac3=true:=by kernel_rfl
def Aed:IC:=rS [mC 2 (.b false)] [0] (rS [m1 3 0,o1 4 (.call 190 [.t 3,.c (.s [48,49,50,51,52,53,54,55,56,57])]),bC 5 .eql 4 (.s []),m1 2 5] [2] .ret)
def AaU:Ec:=⟨6,Aed,[.t 2]⟩
theorem Ah1:Cl Tryz.prog 137 AaU=true:=by kernel_rfl
def Aez:IC:=rS [m1 51 8,m1 52 51,BG 53 52 7,gT 54 52 (.lenS (.t 53)),FSz 55 52 .eql 54 0,pA 56 52 55,m1 57 56,BB 58 57 7,gF 59 57 (.lenS (.t 58)),Er 60 57 .gtr 59 6,pO 61 57 60,m1 62 61,BB 63 62 7,gF 64 62 (.call 137 [.t 63]),gF 65 62 (.not (.t 64)),pO 66 62 65,m1 50 66] [2,5,9,50] (cD 50 (rS [lA 67 9 3,sT 2 67 3,mC 3 (.b false)] [2,3] .ret) .skip)
def Aeh:IC:=sQ (.ops [lA 68 9 3,m1 69 5,nT 70 69,m1 71 70,gF 72 71 (.load (.t 9) 3 true),gF 73 71 (.call 138 [.t 72]),gF 74 71 (.not (.t 73)),pO 75 71 74,sT 2 68 3,m1 3 75] [2,3] [[1,2],[2,3],[3,4],[3,5],[4,5],[3,6],[5,6],[3,7],[6,7],[0,8],[4,5,8],[7,9]]) .ret
def Ak4:IC:=sQ (.block 0 (rS [m1 26 6,nS 27 26,bZ 28 .lss 27 1,m1 29 28,BB 30 29 6,gF 31 29 (.lenS (.t 30)),Er 32 29 .gtr 31 15,pO 33 29 32,m1 34 33,BB 35 34 6,gF 36 34 (.call 137 [.t 35]),gF 37 34 (.not (.t 36)),pO 38 34 37,m1 39 38,BB 40 39 6,gF 41 39 (.lenS (.t 40)),Er 42 39 .gtr 41 1,BB 43 39 42,BG 44 43 6,gT 45 43 (.idx (.t 44) (ci 0)),gT 46 43 (.bin .eql (.t 45) (.c (.i .u8 48))),gF 47 39 (.pick (.t 43) (.t 46) (.c (.b false))),pO 48 39 47,m1 25 48] [2,5,7,8,9,25] (cD 25 (rS [lA 49 9 3,sT 2 49 3,mC 3 (.b false)] [2,3] .ret) Aez))) Aeh
def AjC:IC:=rS [m1 21 5,m1 22 6,m1 23 7,o1 24 (.build [.b false,.s [],.s []] [(0,1,.t 21),(1,1,.t 22),(2,1,.t 23)]),o1 9 (.alloc (.agg [.b false,.s [],.s []])),sT 9 24 3] [2,5,6,7,8,9] Ak4
def Ajg:IC:=rS [m1 11 0,o1 12 (.call 135 [.t 11,.c (.s [45])]),m1 10 12,xT 13 10 0,xT 14 10 1,m1 4 13,m1 5 14] [2,4,5] (rS [m1 16 4,o1 17 (.call 136 [.t 16,.c (.s [46])]),m1 15 17,xT 18 15 0,xT 19 15 1,xT 20 15 2,m1 6 18,m1 7 19,m1 8 20] [2,5,6,7,8] AjC)
def AjK:IC:=rS [o1 2 (.alloc (.agg [.b false,.s [],.s []])),mC 3 (.b false)] [0,2] Ajg
def An8:Ec:=⟨76,AjK,[.c 2 3 true,.t 3]⟩
theorem Amu:Cl Tryz.prog 98 An8=true:=by kernel_rfl
def An6:IC:=rS [m1 6 0,q1 7 98 6,m1 5 7,xT 8 5 0,xT 9 5 1,o1 3 (.alloc (.agg [.b false,.s [],.s []])),sT 3 8 3,m1 4 9] [4] (rS [m1 10 4,m1 2 10] [2] .ret)
def AlF:IC:=rS [mC 2 (.b false)] [0] An6
def Amb:Ec:=⟨11,AlF,[.t 2]⟩
theorem AnK:Cl Tryz.prog 67 Amb=true:=by kernel_rfl
def u9:IC:=rS [m1 16 1,q1 17 242 16,m1 18 17,BB 19 18 6,BB 20 18 19,BG 21 20 5,gT 22 20 (.call 67 [.t 21]),gF 23 18 (.pick (.t 20) (.t 22) (.c (.b false))),pO 24 18 23,m1 4 24] [4] .ret
def AgL:IC:=sQ (rS [m1 7 0,bZ 8 .eql 7 9] [1,8] (cD 8 (rS [m1 9 1,q1 10 62 9,m1 4 10] [4] .ret) .skip)) (rS [m1 12 1,o1 13 (.call 135 [.t 12,.c (.s [61])]),m1 11 13,xT 14 11 0,xT 15 11 1,m1 5 14,m1 6 15] [1,5,6] u9)
def Ae3:IC:=rS [mC 4 (.b false)] [0,1] AgL
def AbT:Ec:=⟨25,Ae3,[.t 4]⟩
theorem Afd:Cl Tryz.prog 185 AbT=true:=by kernel_rfl
def Aic:IC:=rS [mC 3 (.b false)] [0,1] (rS [l1 4 1,m1 5 0,q2 6 185 4 5,m1 3 6] [3] .ret)
def AbB:Ec:=⟨7,Aic,[.t 3]⟩
theorem Ae8:Cl Tryz.prog 254 AbB=true:=by kernel_rfl
def uT:IC:=sQ (.ops [m1 43 10,m1 44 0,nC 45 44,fA 46 45 1,l1 47 46,m1 48 0,nC 49 48,fA 50 49 2,l1 51 50,iA 52 47 51 256 4,fA 53 52 1,l1 54 53,o1 55 (.rdm (.mget .str (.b false) false) (.t 43) [.t 54])] [0,2,3,5,9,10,55] [[1,2],[2,3],[3,4],[5,6],[6,7],[7,8],[4,9],[8,9],[9,10],[10,11],[0,12],[11,12]]) (cD 55 (.seqr [m1 56 0,o1 57 (.calls 101 [.t 56,ci 9])] [0,2,3,5,9,10]) .skip)
def xM:IC:=sQ (rS [m1 38 9,nL 39 38,bZ 40 .geq 39 20] [0,2,3,5,9,10,40] (cD 40 (.seqr [m1 41 0,o1 42 (.calls 101 [.t 41,ci 6])] [0,2,3,5,9,10]) .skip)) uT
def tT:IC:=rS [m1 67 0,m1 68 2,m1 69 3,m1 70 69,Ew 71 70 5,Er 72 70 .neq 71 9,pO 73 70 72,o1 74 (.calls 100 [.t 67,.t 68,.t 73]),fA 75 12 1,sT 75 74 1] [0,2,3,5,9,10,12] (rS [m1 76 0,o1 77 (.calls 142 [.t 76,ci 3])] [0,2,3,5,9,10,12] (.seqr [m1 78 9,lA 79 12 2,o1 80 (.msl true 118 2 [.t 79]),o1 81 (.app (.t 78) (.t 80) 118 2),m1 9 81] [0,2,3,5,9,10]))
def zI:IC:=rS [m1 62 10,fA 63 12 0,l1 64 63,o0 (.wrm (.mput .str) (.t 62) [.t 64,.c (.b true)])] [0,2,3,5,9,10,12] (rS [m1 65 0,o1 66 (.calls 142 [.t 65,ci 2])] [0,2,3,5,9,10,12] tT)
def wV:IC:=rS [m1 58 0,o1 59 (.mkfn 254 [] [.t 5]),o1 60 (.calls 197 [.t 58,.t 59]),o1 61 (.build [.s [],.nil] [(0,1,.t 60)]),o1 12 (.alloc (.agg [.s [],.nil])),sT 12 61 2] [0,2,3,5,9,10,12] zI
def w8:IC:=sQ (.block 1 (sQ (sQ (.ops [m1 20 0,o1 21 (.calls 140 [.t 20]),bZ 22 .eql 21 9,m1 23 22,EQ 24 23 5,BG 25 23 0,gT 26 23 (.nilck (.t 25)),F0 27 23 26 1,EQ 28 23 27,BG 29 23 0,gT 30 23 (.nilck (.t 29)),F0 31 23 30 2,EQ 32 23 31,gT 33 23 (.iaddr (.t 28) (.t 32) 256 4),F0 34 23 33 1,EQ 35 23 34,gT 36 23 (.call 185 [.t 24,.t 35]),pA 37 23 36] [0,2,3,5,9,10,37] [[0,1],[1,2],[2,3],[1,3,4],[3,4],[3,5],[3,6],[5,6],[3,7],[6,7],[1,3,8],[3,8],[7,8],[3,9],[3,10],[9,10],[3,11],[10,11],[1,3,12],[3,12],[11,12],[1,3,13],[3,13],[8,13],[12,13],[3,14],[13,14],[1,3,15],[3,15],[14,15],[3,16],[4,16],[15,16],[3,17],[16,17]]) (cD 37 xM .skip)) wV)) (.seqr [mC 11 (.b false)] [0,2,3,5,9,10,11])
def wF:IC:=sQ (rS [m1 14 11,m1 15 14,BB 16 15 0,gF 17 15 (.calls 140 [.t 16]),Er 18 15 .eql 17 9,pO 19 15 18] [0,2,3,5,9,10,19] (cD 19 .skip (.exit 0))) w8
def xP:IC:=sQ (rS [m1 82 0,o1 83 (.calls 140 [.t 82]),bZ 84 .eql 83 3,m1 85 84,BG 86 85 10,gT 87 85 (.rdm (.mget .str (.b false) false) (.t 86) [.c (.s [111,116,104,101,114])]),gT 88 85 (.not (.t 87)),pA 89 85 88] [0,9,89] (cD 89 (.seqr [m1 90 0,o1 91 (.calls 101 [.t 90,ci 13])] [9]) .skip)) (rS [m1 92 9,m1 8 92] [8] .ret)
def AhZ:IC:=rS [mC 9 .nil] [0,2,3,5,9] (rS [o1 13 (.mkm .mkmap []),m1 10 13] [0,2,3,5,9,10] (sQ (rS [mC 11 (.b true)] [0,2,3,5,9,10,11] (.block 0 (.loop wF))) xP))
def Ae1:IC:=rS [bX 5 1,mC 8 .nil] [0,2,3,5] AhZ
def AcV:Ec:=⟨93,Ae1,[.t 8]⟩
theorem Af8:Cl Tryz.prog 199 AcV=true:=by kernel_rfl
def xU:IC:=cD 77 (rS [m1 78 0,o1 79 (.calls 142 [.t 78,ci 8])] [0,6,7] (.seqr [m1 80 0,o1 81 (.calls 197 [.t 80,.c (.fn 198 [] [])]),fA 82 7 3,sT 82 81 1] [0,6,7])) .skip
def uJ:IC:=rS [fA 56 7 0,l1 57 56,bZ 58 .eql 57 5] [0,6,7,58] (cD 58 (.seqr [m1 59 0,o1 60 (.calls 197 [.t 59,.c (.fn 184 [] [])]),fA 61 7 3,sT 61 60 1] [0,6,7]) (.seqr [m1 62 0,o1 63 (.calls 197 [.t 62,.c (.fn 62 [] [])]),fA 64 7 3,sT 64 63 1] [0,6,7]))
def v6:IC:=cD 83 (rS [m1 87 0,o1 88 (.calls 142 [.t 87,ci 8])] [0,1,2,6,7] (.seqr [m1 89 0,fA 90 7 0,l1 91 90,m1 92 1,bZ 93 .add 92 1,m1 94 2,o1 95 (.calls 199 [.t 89,.t 91,.t 93,.t 94]),fA 96 7 4,sT 96 95 1] [0,6,7])) (rS [m1 54 0,o1 55 (.calls 142 [.t 54,ci 8])] [0,6,7] uJ)
def zW:IC:=rS [fA 72 7 0,l1 73 72,bZ 74 .eql 73 3,m1 71 74] [0,1,2,6,7,71] (cD 71 (rS [m1 75 0,o1 76 (.calls 140 [.t 75]),bZ 77 .eql 76 8] [0,6,7,77] xU) (rS [fA 84 7 0,l1 85 84,q1 86 79 85,m1 83 86] [0,1,2,6,7,83] v6))
def yW:IC:=sQ (.block 0 (rS [m1 66 0,nC 67 66,fA 68 67 5,l1 69 68,bZ 70 .neq 69 0,m1 65 70] [0,1,2,6,7,65] (cD 65 .skip zW))) (rS [m1 97 0,o1 98 (.calls 142 [.t 97,ci 3])] [6,7] (rS [lA 99 7 6,sT 6 99 6] [6] .ret))
def Aa4:IC:=sQ (.ops [l1 48 8,m1 49 0,m1 50 9,⟨some 51,.calls 197 [.t 49,.t 50],none,[.t 8]⟩,o1 52 (.rdm (.mget .str (.i .i64 0) false) (.t 48) [.t 51]),fA 53 7 0,sT 53 52 1] [0,1,2,6,7] [[1,3],[2,3],[0,4],[3,4],[0,6],[3,6],[4,6],[5,6]]) yW
def zG:IC:=sQ (sQ (.ops [m1 25 0,o1 26 (.calls 140 [.t 25]),bZ 27 .eql 26 9,m1 28 27,EQ 29 28 8,BG 30 28 0,gT 31 28 (.nilck (.t 30)),F0 32 28 31 1,EQ 33 28 32,BG 34 28 0,gT 35 28 (.nilck (.t 34)),F0 36 28 35 2,EQ 37 28 36,gT 38 28 (.iaddr (.t 33) (.t 37) 256 4),F0 39 28 38 1,EQ 40 28 39,gT 41 28 (.rdm (.mget .str (.i .i64 0) false) (.t 29) [.t 40]),gT 42 28 (.call 79 [.t 41]),pA 43 28 42] [0,1,2,6,7,8,9,43] [[0,1],[1,2],[2,3],[1,3,4],[3,4],[3,5],[3,6],[5,6],[3,7],[6,7],[1,3,8],[3,8],[7,8],[3,9],[3,10],[9,10],[3,11],[10,11],[1,3,12],[3,12],[11,12],[1,3,13],[3,13],[8,13],[12,13],[3,14],[13,14],[1,3,15],[3,15],[14,15],[1,3,16],[3,16],[4,16],[15,16],[3,17],[16,17],[3,18],[17,18]]) (cD 43 (.seqr [m1 44 0,m1 45 1,bZ 46 .add 45 1,o1 47 (.calls 143 [.t 44,.t 46])] [0,1,2,6,7,8,9]) .skip)) Aa4
def AfK:IC:=sQ (rS [m1 15 0,o1 16 (.calls 140 [.t 15]),bZ 17 .eql 16 3] [0,1,2,6,7,17] (cD 17 (rS [m1 18 0,o1 19 (.calls 142 [.t 18,ci 3])] [6,7] (rS [lA 20 7 6,sT 6 20 6] [6] .ret)) .skip)) (rS [m1 21 0,o1 22 (.calls 142 [.t 21,ci 8])] [0,1,2,6,7] (rS [o1 23 (.call 134 []),o1 8 (.alloc .nm),sT 8 23 1] [0,1,2,6,7,8] (rS [o1 24 (.mkfn 196 [] [.t 8]),m1 9 24] [0,1,2,6,7,8,9] zG)))
def AdP:IC:=rS [m1 12 0,o1 13 (.calls 195 [.t 12]),o1 14 (.build [.i .i64 0,.s [],.s [],.s [],.nil,.nil] [(0,1,ci 2),(2,1,.t 13)]),o1 7 (.alloc (.agg [.i .i64 0,.s [],.s [],.s [],.nil,.nil])),sT 7 14 6] [0,1,2,6,7] AfK
def AgF:IC:=rS [o1 6 (.alloc (.agg [.i .i64 0,.s [],.s [],.s [],.nil,.nil]))] [0,1,2,6] (rS [m1 10 0,o1 11 (.calls 142 [.t 10,ci 2])] [0,1,2,6] AdP)
def AbD:Ec:=⟨100,AgF,[.c 6 6 true]⟩
theorem Ah5:Cl Tryz.prog 145 AbD=true:=by kernel_rfl
def xS:IC:=.seqr [m1 28 7,m1 29 8,o1 30 (.build [.i .i64 0,.s [],.s [],.s [],.nil,.nil] [(0,1,ci 1),(1,1,.t 29)]),o1 31 (.msl true 116 6 [.t 30]),o1 32 (.app (.t 28) (.t 31) 116 6),m1 7 32] [0,1,2,7]
def uA:IC:=rS [m1 22 0,o1 23 (.calls 142 [.t 22,ci 1]),q1 24 141 23,m1 21 24,xT 25 21 0,xT 26 21 1,xT 27 21 2,m1 8 25,m1 9 26,m1 10 27] [0,1,2,7,8] xS
def uP:IC:=.seqr [m1 41 7,o1 42 (.build [.i .i64 0,.s [],.s [],.s [],.nil,.nil] [(0,1,ci 10)]),o1 43 (.msl true 116 6 [.t 42]),o1 44 (.app (.t 41) (.t 43) 116 6),m1 7 44] [0,1,2,7]
def uN:IC:=sQ (rS [m1 35 2,nT 36 35] [0,1,2,7,36] (cD 36 (.seqr [m1 37 0,o1 38 (.calls 101 [.t 37,ci 3])] [0,1,2,7]) .skip)) (rS [m1 39 0,o1 40 (.calls 142 [.t 39,ci 4])] [0,1,2,7] uP)
def zJ:IC:=.seqr [m1 51 7,m1 52 0,o1 53 (.calls 142 [.t 52,ci 7]),o1 54 (.build [.i .i64 0,.s [],.s [],.s [],.nil,.nil] [(0,1,ci 11),(2,1,.t 53)]),o1 55 (.msl true 116 6 [.t 54]),o1 56 (.app (.t 51) (.t 55) 116 6),m1 7 56] [0,1,2,7]
def xB:IC:=.seqr [m1 59 7,m1 60 0,m1 61 1,bZ 62 .add 61 1,m1 63 2,o1 64 (.calls 144 [.t 60,.t 62,.t 63]),o1 65 (.msl true 116 6 [.t 64]),o1 66 (.app (.t 59) (.t 65) 116 6),m1 7 66] [0,1,2,7]
def uK:IC:=.seqr [m1 69 7,m1 70 0,m1 71 1,m1 72 2,o1 73 (.calls 145 [.t 70,.t 71,.t 72]),o1 74 (.msl true 116 6 [.t 73]),o1 75 (.app (.t 69) (.t 74) 116 6),m1 7 75] [0,1,2,7]
def xF:IC:=rS [bZ 58 .eql 17 5,m1 57 58] [0,1,2,7,17,57] (cD 57 xB (rS [bZ 68 .eql 17 2,m1 67 68] [0,1,2,7,67] (cD 67 uK (rS [m1 18 7,m1 6 18] [6] .ret))))
def yJ:IC:=rS [bZ 46 .eql 17 7,m1 45 46] [0,1,2,7,17,45] (cD 45 (rS [m1 47 0,m1 48 1,bZ 49 .add 48 1,o1 50 (.calls 143 [.t 47,.t 49])] [0,1,2,7] zJ) xF)
def Aa2:IC:=.block 2 (rS [bZ 20 .eql 17 1,m1 19 20] [0,1,2,7,17,19] (cD 19 uA (rS [bZ 34 .eql 17 4,m1 33 34] [0,1,2,7,17,33] (cD 33 uN yJ))))
def Afb:IC:=sQ (rS [m1 11 0,nC 12 11,fA 13 12 5,l1 14 13,bZ 15 .eql 14 0] [0,1,2,7,15] (cD 15 .skip (.exit 0))) (.block 1 (rS [m1 16 0,o1 17 (.calls 140 [.t 16])] [0,1,2,7,17] Aa2))
def Ads:IC:=rS [mC 6 .nil] [0,1,2] (rS [mC 7 .nil] [0,1,2,7] (sQ (.block 0 (.loop Afb)) (rS [m1 76 7,m1 6 76] [6] .ret)))
def Acj:Ec:=⟨77,Ads,[.t 6]⟩
theorem AfV:Cl Tryz.prog 100 Acj=true:=by kernel_rfl
def AgH:IC:=.ops [m1 43 11,nC 44 43,fA 45 44 4,l1 46 45,m1 47 11,nC 48 47,fA 49 48 5,l1 50 49,m1 8 46,m1 9 50] [0,5,8,9,10] [[0,1],[1,2],[2,3],[4,5],[5,6],[6,7],[3,8],[7,9]]
def AgB:IC:=sQ (rS [m1 34 11,nC 35 34,fA 36 35 2,l1 37 36,m1 38 7,nL 39 38,bT 40 .lss 37 39] [0,5,10,11,40] (cD 40 (.seqr [m1 41 11,o1 42 (.calls 101 [.t 41,ci 3])] [0,5,10,11]) .skip)) AgH
def Afe:IC:=rS [m1 26 0,m1 27 7,o1 28 (.mkm .mkmap []),o1 29 (.build [.s [],.nil,.i .i64 0,.nm,.i .i64 0,.i .i64 0] [(0,1,.t 26),(1,1,.t 27),(3,1,.t 28)]),bX 30 29,m1 11 30] [0,1,5,7,11] (rS [m1 31 11,m1 32 1,o1 33 (.calls 100 [.t 31,ci 0,.t 32]),m1 10 33] [0,5,7,10,11] AgB)
def AfZ:IC:=rS [m1 54 0,m1 55 8,q2 56 102 54 55,m1 53 56,xT 57 53 0,xT 58 53 1,o1 12 (.alloc (.agg [.i .i64 0,.i .i64 0,.i .i64 0])),sT 12 57 3,m1 13 58] [5,9,12] (sQ (.ops [lA 59 12 3,m1 60 9,mC 4 .nil,sT 5 59 3,m1 6 60] [4,5,6] [[0,3],[1,4]]) .ret)
def Ahk:IC:=sQ (rS [m1 61 10,o1 62 (.callr 96 [.t 61]),bZ 63 .gtr 62 4000] [5,10,63] (cD 63 (rS [o1 64 (.build [.i .i64 0,.i .i64 0,.i .i64 0] []),mC 4 .nil,sT 5 64 3,mZ 6 6] [4,5,6] .ret) .skip)) (rS [m1 65 10,o1 66 (.build [.i .i64 0,.i .i64 0,.i .i64 0] []),m1 4 65,sT 5 66 3,mZ 6 0] [4,5,6] .ret)
def AeM:IC:=sQ (rS [m1 24 9,bZ 25 .eql 24 0] [0,1,5,7,8,9,10,25] (cD 25 Afe .skip)) (sQ (rS [m1 51 9,bZ 52 .neq 51 0] [0,5,8,9,10,52] (cD 52 AfZ .skip)) Ahk)
def AmU:IC:=sQ (rS [m1 20 9,bZ 21 .eql 20 6] [0,1,5,7,8,9,21] (cD 21 (rS [o1 22 (.build [.i .i64 0,.i .i64 0,.i .i64 0] [(0,1,ci 4000)]),m1 23 9,mC 4 .nil,sT 5 22 3,m1 6 23] [4,5,6] .ret) .skip)) (rS [mC 10 .nil] [0,1,5,7,8,9,10] AeM)
def AkI:IC:=rS [mC 4 .nil,o1 5 (.alloc (.agg [.i .i64 0,.i .i64 0,.i .i64 0])),mZ 6 0] [0,1,5] (rS [m1 15 0,q1 16 99 15,m1 14 16,xT 17 14 0,xT 18 14 1,xT 19 14 2,m1 7 17,m1 8 18,m1 9 19] [0,1,5,7,8,9] AmU)
def Aks:Ec:=⟨67,AkI,[.t 4,.c 5 3 true,.t 6]⟩
theorem AkP:Cl Tryz.prog 68 Aks=true:=by kernel_rfl
def AkB:IC:=rS [mC 2 .nil,o1 3 (.alloc (.agg [.i .i64 0,.i .i64 0,.i .i64 0])),mZ 4 0] [0,3] (rS [m1 5 0,o1 6 (.call 68 [.t 5,.c (.b false)]),xT 7 6 0,xT 8 6 1,xT 9 6 2,m1 2 7,sT 3 8 3,m1 4 9] [2,3,4] .ret)
def Ak6:Ec:=⟨10,AkB,[.t 2,.c 3 3 true,.t 4]⟩
theorem Ana:Cl Tryz.prog 42 Ak6=true:=by kernel_rfl
def AmV:IC:=sQ (rS [m1 19 12,bZ 20 .neq 19 0] [2,3,4,10,20] (cD 20 (rS [mC 8 (.s []),mZ 9 3] [8,9] .ret) .skip)) (rS [lA 21 4 16,m1 22 10,m1 23 2,m1 24 3,o1 25 (.callr 26 [.t 21,.t 22,.t 23,.t 24]),xT 26 25 0,xT 27 25 1,m1 8 26,m1 9 27] [8,9] .ret)
def AkY:IC:=rS [m1 14 1,q1 15 42 14,m1 13 15,xT 16 13 0,xT 17 13 1,xT 18 13 2,o1 11 (.alloc (.agg [.i .i64 0,.i .i64 0,.i .i64 0])),m1 10 16,sT 11 17 3,m1 12 18] [2,3,4,10,12] AmV
def AlM:IC:=rS [bX 4 0,mC 8 (.s []),mZ 9 0] [1,2,3,4] AkY
def AjP:Ec:=⟨28,AlM,[.t 8,.t 9]⟩
theorem Ang:Cl Tryz.prog 24 AjP=true:=by kernel_rfl
def AoW:IC:=rS [m1 23 3,bZ 24 .eql 23 0,m1 25 24,BG 26 25 2,gT 27 25 (.bin .eql (.t 26) (.c (.s [49,44,48,48,48,32,102,105,108,101,115]))),pA 28 25 27,m1 29 28,BG 30 29 5,FSz 31 29 .eql 30 0,pA 32 29 31,m1 33 32,BG 34 33 4,gT 35 33 (.bin .eql (.t 34) (.c (.s [226,129,168,97,226,129,169]))),pA 36 33 35,m1 0 36] [0] .ret
def Aqd:IC:=rS [lA 17 1 16,o1 18 (.build [.s [],.i .i64 0,.s [],.i .i64 0,.nil] [(0,1,.c (.s [120])),(1,1,ci 1),(2,1,.c (.s [97]))]),o1 19 (.msl true 62 5 [.t 18]),o1 20 (.callr 24 [.t 17,.c (.s [123,120,125]),.t 19,.c (.b true)]),m1 16 20,xT 21 16 0,xT 22 16 1,m1 4 21,m1 5 22] [2,3,4,5] AoW
def Aoy:IC:=rS [lA 9 1 16,o1 10 (.build [.s [],.i .i64 0,.s [],.i .i64 0,.nil] [(0,1,.c (.s [110])),(1,1,ci 2),(2,1,.c (.s [49,48,48,48]))]),o1 11 (.build [.s [],.i .i64 0,.s [],.i .i64 0,.nil] [(0,1,.c (.s [120])),(1,1,ci 1),(2,1,.c (.s [102,105,108,101,115]))]),o1 12 (.msl true 62 5 [.t 10,.t 11]),o1 13 (.callr 24 [.t 9,.c (.s [123,110,44,32,112,108,117,114,97,108,44,32,61,49,32,123,60,98,62,35,60,47,98,62,125,32,111,116,104,101,114,32,123,35,32,123,120,125,125,125]),.t 12,.c (.b false)]),m1 8 13,xT 14 8 0,xT 15 8 1,m1 2 14,m1 3 15] [1,2,3] Aqd
def Aq5:IC:=rS [o1 6 (.build [.s [],.s [],.s [],.s [],.i .i64 0,.i .i64 0] [(0,1,.c (.s [46])),(1,1,.c (.s [44])),(2,1,.c (.s [45])),(4,1,ci 3)]),o1 7 (.build [.s [],.s [],.s [],.nil,.nil,.s [],.s [],.s [],.s [],.i .i64 0,.i .i64 0,.nil,.nil,.nil,.nil,.nil] [(5,6,.t 6)]),o1 1 (.alloc (.agg [.s [],.s [],.s [],.nil,.nil,.s [],.s [],.s [],.s [],.i .i64 0,.i .i64 0,.nil,.nil,.nil,.nil,.nil])),sT 1 7 16] [1] Aoy
def Apj:IC:=rS [mC 0 (.b false)] [] Aq5
def e8T:Ec:=⟨37,Apj,[.t 0]⟩
theorem ApQ:Cl Tryz.prog 8 e8T=true:=by kernel_rfl
noncomputable def evA:FuncId->Option Ec:=(Bw 143 (Bw 99 (Bw 67 (Bw 42 (Bw 24 (Br 8 e8T) (Br 24 AjP)) (Bw 62 (Br 42 Ak6) (Br 62 Ann))) (Bw 79 (Bw 68 (Br 67 Amb) (Br 68 Aks)) (Bw 97 (Br 79 AjX) (Bw 98 (Br 97 Ake) (Br 98 An8))))) (Bw 137 (Bw 134 (Bw 100 (Br 99 AlC) (Br 100 Acj)) (Bw 136 (Br 134 AcH) (Br 136 Ac3))) (Bw 140 (Bw 139 (Br 137 AaU) (Br 139 Ab7)) (Bw 141 (Br 140 AcP) (Bw 142 (Br 141 Acz) (Br 142 AaK)))))) (Bw 194 (Bw 186 (Bw 145 (Bw 144 (Br 143 AbE) (Br 144 AaR)) (Bw 185 (Br 145 AbD) (Br 185 AbT))) (Bw 189 (Bw 187 (Br 186 AbK) (Br 187 AbV)) (Bw 192 (Br 189 Ac2) (Bw 193 (Br 192 Abr) (Br 193 AbU))))) (Bw 242 (Bw 196 (Bw 195 (Br 194 Abb) (Br 195 AcB)) (Bw 197 (Br 196 Abl) (Bw 199 (Br 197 AcN) (Br 199 AcV)))) (Bw 254 (Bw 253 (Br 242 Acw) (Br 253 Acf)) (Bw 295 (Br 254 AbB) (Bw 323 (Br 295 Abq) (Br 323 Ac5)))))))
theorem Aho:HM Tryz.prog evA:=(.node (.node (.node (.node (.node (.leaf ApQ) (.leaf Ang)) (.node (.leaf Ana) (.leaf An3))) (.node (.node (.leaf AnK) (.leaf AkP)) (.node (.leaf AiG) (.node (.leaf Amr) (.leaf Amu))))) (.node (.node (.node (.leaf Ai8) (.leaf AfV)) (.node (.leaf AeB) (.leaf Afj))) (.node (.node (.leaf Ah1) (.leaf AgM)) (.node (.leaf AgY) (.node (.leaf Aeg) (.leaf AdK)))))) (.node (.node (.node (.node (.leaf Aif) (.leaf AeZ)) (.node (.leaf Ah5) (.leaf Afd))) (.node (.node (.leaf Agm) (.leaf Afg)) (.node (.leaf AhG) (.node (.leaf AgQ) (.leaf Afl))))) (.node (.node (.node (.leaf Ah7) (.leaf Af5)) (.node (.leaf Af7) (.node (.leaf Aes) (.leaf Af8)))) (.node (.node (.leaf AhR) (.leaf Ae0)) (.node (.leaf Ae8) (.node (.leaf AgW) (.leaf Adm)))))))
end Go.Ir
end
section
set_option maxRecDepth 1000000
namespace Go.Ir
open Go.Proofs
def Z7:List (TypeId×Nat×Nat):=[(98,2,0)]
theorem Aql:∀p∈Z7,liesAt Tryz.prog Tryz.prog.depth p.1 (p.2.1 / Tryz.prog.cellsOf p.1) p.2.2 98 1=true:=by
 intro p hp
 simp only[Z7,Ao9,Asm,or_false] at hp
 subst hp
 kernel_rfl
noncomputable def Aku:AO:=vS (s7 135 HX) (vS (s7 244 NW) (vS (s7 190 mT) (vS (s7 252 It) (vS (onP 26 OP) (vS (onP 96 O6) (vS (xN 180 Z7) (vQ 45 5)))))))
theorem AaB(W0:World)(hM:By W0)(hT:BM W0):AU Tryz.prog W0 Aku:=
 HR (P4 W0) (HR (kR W0) (HR (AfY W0) (HR (QF W0) (HR (lV W0 hM hT) (HR (fX W0) (HR (Yx W0 _ Aql) (X6 W0)))))))
theorem Sk:AiH (LI evA Aku 100000 100 8 [] [] 0)=some (.b true):=by kernel_rfl
theorem qL(W0:World)(hM:By W0)(hT:BM W0):Am Tryz.prog W0 8 [] [] (.b true) []:=RF Aho (AaB W0 hM hT) bV Sk rfl rfl
end Go.Ir
end
namespace Go.Ir
open Go.Proofs
variable{P:Program}{W0:World}{nt n:Nat}{Q:Exit→St→Prop}{env:AD}{σ:Ak}
def Abc:IC:=oR [m1 51 9,bZ 52 .eql 51 0,m1 53 52,BG 54 53 11,FSz 55 53 .eql 54 0,pA 56 53 55,m1 57 56,BG 58 57 6,BG 59 57 8,BG 60 57 10,gT 61 57 (.bin .add (.t 59) (.t 60)),gT 62 57 (.bin .eql (.t 58) (.t 61)),pA 63 57 62,m1 4 63] [4]
def AbZ:IC:=oR [m1 64 9,bZ 65 .neq 64 0,m1 66 65,BB 67 66 11,Er 68 66 .neq 67 0,pO 69 66 68,m1 70 69,BB 71 70 7,Er 72 70 .eql 71 1,pO 73 70 72,m1 74 73,BB 75 74 7,Er 76 74 .eql 75 6,BB 77 74 76,BG 78 77 8,gT 79 77 (.lenS (.t 78)),BG 80 77 10,gT 81 77 (.lenS (.t 80)),gT 82 77 (.bin .add (.t 79) (.t 81)),FSz 83 77 .gtr 82 20000,gF 84 74 (.pick (.t 77) (.t 83) (.c (.b false))),pO 85 74 84,m1 4 85] [4]
def Abx:IC:=sQ (.ops [lA 41 2 19,fA 42 2 16,l1 43 42,m1 44 5,o1 45 (.slL (.t 43) (some (.t 44)) none 6),q2 46 10 41 45,m1 40 46,xT 47 40 0,xT 48 40 1,m1 10 47,m1 11 48] [6,7,8,9,10,11] [[1,2],[2,4],[3,4],[0,5],[4,5],[5,6],[6,7],[6,8],[7,9],[8,10]]) (sQ (oS [m1 49 7,bZ 50 .eql 49 0] [6,7,8,9,10,11,50] (cD 50 Abc .skip)) AbZ)
def AcA:IC:=sQ (.ops [lA 32 2 19,fA 33 2 16,l1 34 33,m1 35 5,o1 36 (.slL (.t 34) none (some (.t 35)) 6),q2 37 10 32 36,m1 31 37,xT 38 31 0,xT 39 31 1,m1 8 38,m1 9 39] [2,5,6,7,8,9] [[1,2],[2,4],[3,4],[0,5],[4,5],[5,6],[6,7],[6,8],[7,9],[8,10]]) Abx
def Ac8:IC:=oS [m1 17 1,o1 18 (.cvi .i64 (.t 17)),fA 19 2 16,l1 20 19,nL 21 20,bZ 22 .add 21 1,bT 23 .rem 18 22,m1 5 23] [2,5] (oS [lA 25 2 19,fA 26 2 16,l1 27 26,q2 28 10 25 27,m1 24 28,xT 29 24 0,xT 30 24 1,m1 6 29,m1 7 30] [2,5,6,7] AcA)
def Ajb:IC:=sQ (oS [o1 12 (.call 8 []),nT 13 12] [1,2,13] (cD 13 (oR [mC 4 (.b false)] [4]) .skip)) (sQ (oS [lA 14 2 19,q1 15 9 14,nT 16 15] [1,2,16] (cD 16 (oR [mC 4 (.b true)] [4]) .skip)) Ac8)
def Amw:IC:=oS [bX 2 0,mC 4 (.b false)] [1,2] Ajb
@[push_cast]def f3R:List R:=[.t 4]
@[push_cast]def f3e:=As Abc.eq_1<|As AbZ.eq_1<|As Abx.eq_1<|As AcA.eq_1<|As Ac8.eq_1<|As Ajb.eq_1<|AL Amw.eq_1
theorem XD:Aw Tryz.prog 3 86 Amw f3R=true:=by kernel_rfl
end Go.Ir

namespace Go.Ir
open Go.Proofs
variable(W0:World)
theorem TJ:∀(l:List Aa) (n:Int),Qf l n<=200->n<=200/\∀s∈l,s.length<=200
 | [],n,h=>⟨h,fun s hs=>by cases hs⟩
 | x::r,n,h=>by
  rw[Qf] at h
  obtain⟨h1,h2⟩:=TJ r _ h
  refine⟨by omega,fun s hs=>?_⟩
  rcases Ao9.1 hs with rfl|hs
  ·omega
  ·exact h2 s hs
theorem Ma{e:Bool}:∀{vs:List BE},Cx e vs=true->e=true/\∀v∈vs,TZ v/\v.text.length<=2^24
 | [],h=>⟨h,fun v hv=>by cases hv⟩
 | v::r,h=>by
  rw[Cx,Aav,AmN,AsK,AsK,decide_eq_false_iff_not,decide_eq_false_iff_not] at h
  obtain⟨⟨⟨h1,h2⟩,_⟩,h3⟩:=h
  obtain⟨h4,h5⟩:=Ma h3
  obtain⟨h6,h7⟩:=TJ v.list (v.text.length:Int) (by omega)
  refine⟨h4,fun x hx=>?_⟩
  rcases Ao9.1 hx with rfl|hx
  ·exact⟨⟨by omega,by omega,fun s hs=>by have:=h7 s hs;omega⟩,by omega⟩
  ·exact h5 x hx
theorem zZ(hT:BM W0)(L:BV)(vs:List BE)(iso:Bool)(hp:-9223372036854775808<=L.prim)(hs:L.sec<9223372036854775808)(hw:A7 L.card+A7 L.ord<=2^24)(hn:vs.length<=2^40)(h1:HK L=true)(h2:Cx (decide ((vs.length:Int)<=30)) vs=true):tB ⟨L,vs,iso⟩ (E4 L.months+E4 L.days+24):=by
 unfold HK at h1
 simp only[Aav,decide_eq_true_eq] at h1
 exact Zz W0 hT L vs iso (by omega) hp hs hw hn (Ma h2).2
theorem Iw(hM:By W0)(hT:BM W0)(c:Nat)(L:BV)(ps:List Aj)(vs:List BE)(iso:Bool)(qs:List Aj)(hX:tB ⟨L,vs,iso⟩ c)(hw:Bd qs<=2^24) :
  Am Tryz.prog W0 10 [PI L ps vs iso,.sl (qs.map Aj.enc)] [] (.tup [.s (Ej L qs vs iso).1,.i .i64 (Ej L qs vs iso).2]) []:=by
 have c1:=No W0 hM hT c L vs iso qs hX hw
 generalize Ej L qs vs iso=S at *
 rw[BV.enc_eq] at c1
 rw[GD]
 refine Ai (vs:=[.s S.1,.i .i64 S.2]) Amx (by simp) (by simp) fun n0 hn0=>?_
 clear hn0
 simp only[push_cast,seval,reduceEqDiff]
 repeat' (first|(((first|apply Ac|apply Ag|apply Af)<;>intro _h)<;>simp only[push_cast,seval,reduceEqDiff,_h])|(refine Ab (by exact c1) ?_;simp only[push_cast,seval,reduceEqDiff])|intro _)
 refine Ae ?_
 simp[push_cast,get]
theorem Rp(L:BV)(vs:List BE)(iso:Bool)(ps:List Aj):(Ej L ps vs iso).1.length<=20000:=by
 unfold Ej
 split
 ·split
  ·rename_i h
   exact IX (C9 ⟨L,vs,iso⟩ ps []) ([],0) (fun _=>by simp) h
  ·simp
 ·simp
set_option maxHeartbeats 4000000 in
theorem PK(hM:By W0)(hT:BM W0)(L:BV)(ps:List Aj)(vs:List BE)(iso:Bool)(z:Int)(hz:0<=z/\z<256)(hp:-9223372036854775808<=L.prim)(hs:L.sec<9223372036854775808)(h1:M0 L<=2^40)(h2:A7 L.card+A7 L.ord<=2^24)(h3:Bd ps<=2^24)(h4:vs.length<=2^40)(h5:∀v∈vs,v.list.length<=2^40) :
  Am Tryz.prog W0 3 [PI L ps vs iso,.i .u8 z] [] (.b true) []:=by
 have haw:=qL W0 hM hT
 have hfew:=Zg W0 L ps vs iso h1 h2 h3 h4 h5
 have hlen:=EE ps
 cases hF:(HK L&&Jv ps&&Cx (decide ((vs.length:Int)<=30)) vs) with
 | false=>
  rw[hF] at hfew
  rw[GD] at hfew⊢
  refine Ai (vs:=[.b true]) XD (by simp) (by simp) fun n0 hn0=>?_
  clear hn0
  simp only[push_cast,seval,reduceEqDiff]
  repeat' (first|(((first|apply Ac|apply Ag|apply Af)<;>intro _h)<;>simp only[push_cast,seval,reduceEqDiff,_h])|((first|refine Ab (by exact haw) ?_|refine Ab (by exact hfew) ?_);simp only[push_cast,seval,reduceEqDiff])|intro _)
  exact Ah (by simp[get])
 | true=>
  rw[hF] at hfew
  rw[Aav,Aav] at hF
  have hX:=zZ W0 hT L vs iso hp hs h2 h4 hF.1.1 hF.2
  obtain⟨k,hk,hkl⟩:∃k:Nat,z.tmod ((ps.length:Int)+1)=k/\k<=ps.length:=by
   rw[Int.tmod_eq_emod_of_nonneg hz.1]
   have h6:=Int.emod_nonneg z (show(ps.length:Int)+1≠0 by omega)
   have h7:=Int.emod_lt_of_pos z (show(0:Int)<(ps.length:Int)+1 by omega)
   exact⟨(z % ((ps.length:Int)+1)).toNat,by omega,by omega⟩
  have hsp:ps.take k++ps.drop k=ps:=AtD k ps
  have hwa:Bd (ps.take k)+Bd (ps.drop k)=Bd ps:=by rw[<-oO,hsp]
  have c1:=Iw W0 hM hT _ L ps vs iso ps hX h3
  have c2:=Iw W0 hM hT _ L ps vs iso (ps.take k) hX (by omega)
  have c3:=Iw W0 hM hT _ L ps vs iso (ps.drop k) hX (by omega)
  have hpl:=sU L vs iso (ps.take k) (ps.drop k)
  rw[hsp] at hpl
  have la:=Rp L vs iso (ps.take k)
  have lb:=Rp L vs iso (ps.drop k)
  generalize Ej L ps vs iso=S at *
  generalize Ej L (ps.take k) vs iso=A at *
  generalize Ej L (ps.drop k) vs iso=B at *
  obtain⟨s,e⟩:=S
  obtain⟨a,f⟩:=A
  obtain⟨b,g⟩:=B
  simp only at *
  have hta:(ps.map Aj.enc).take k=(ps.take k).map Aj.enc:=by simp
  have htb:(ps.map Aj.enc).drop k=(ps.drop k).map Aj.enc:=by simp
  have hlm:(ps.map Aj.enc).length=ps.length:=by simp
  have w1:IntKind.i64.wrap z=z:=wrap64 (by omega) (by omega)
  have w2:IntKind.i64.wrap ((ps.length:Int)+1)=(ps.length:Int)+1:=wrap64 (by omega) (by omega)
  have hne:((ps.length:Int)+1≠0)=True:=eq_true (by omega)
  have hcl:(∀y∈ps.map Aj.enc,(cells y).length=6)=True:=eq_true (by intro y hy;simp at hy;obtain⟨p,_,rfl⟩:=hy;rw[Aj.enc_eq];rfl)
  have hb1:(0<=k/\k<=ps.length)=True:=eq_true ⟨Ajt _,hkl⟩
  have hb2:(k<=ps.length/\ps.length<=ps.length)=True:=eq_true ⟨hkl,AbG _⟩
  have htl:(ps.map Aj.enc).take ps.length=ps.map Aj.enc:=by rw[<-hlm,Aip]
  rw[GD] at hfew c1 c2 c3⊢
  unfold E7 at hpl
  cases he:(e==0) with
  | true=>
   rw[he,if_pos rfl] at hpl
   simp only[Aav] at hpl
   obtain⟨⟨e1,e2⟩,e3⟩:=hpl
   have hsl:(a.length+b.length<=A9)=True:=eq_true (by unfold A9;omega)
   refine Ai (vs:=[.b true]) XD (by simp) (by simp) fun n0 hn0=>?_
   clear hn0
   simp only[push_cast,seval,reduceEqDiff,hta,htb,hlm,w1,w2,hk,hne,hcl,hb1,hb2,htl,he,e1,e2,e3,hsl]
   repeat' (first|(((first|apply Ac|apply Ag|apply Af)<;>intro _h)<;>simp only[push_cast,seval,reduceEqDiff,_h,hta,htb,hlm,w1,w2,hk,hne,hcl,hb1,hb2,htl,he,e1,e2,e3,hsl])|((first|refine Ab (by exact haw) ?_|refine Ab (by exact hfew) ?_|refine Ab (by exact c1) ?_|refine Ab (by exact c2) ?_|refine Ab (by exact c3) ?_);simp only[push_cast,seval,reduceEqDiff,hta,htb,hlm,w1,w2,hk,hne,hcl,hb1,hb2,htl,he,e1,e2,e3,hsl])|intro _)
   all_goals exact Ah (by simp[get])
  | false=>
   rw[he,if_neg (by simp)] at hpl
   have hpl':((f !=0)||(g !=0)||e==1||(e==6&&decide ((a.length:Int)+b.length>20000)))=true:=hpl
   have w3:IntKind.i64.wrap ((a.length:Int)+b.length)=(a.length:Int)+b.length:=wrap64 (by omega) (by omega)
   clear hpl
   cases hq1:(f !=0) with
   | true=>
    refine Ai (vs:=[.b true]) XD (by simp) (by simp) fun n0 hn0=>?_
    clear hn0
    simp only[push_cast,seval,reduceEqDiff,hta,htb,hlm,w1,w2,hk,hne,hcl,hb1,hb2,htl,he,hq1]
    repeat' (first|(((first|apply Ac|apply Ag|apply Af)<;>intro _h)<;>simp only[push_cast,seval,reduceEqDiff,_h,hta,htb,hlm,w1,w2,hk,hne,hcl,hb1,hb2,htl,he,hq1])|((first|refine Ab (by exact haw) ?_|refine Ab (by exact hfew) ?_|refine Ab (by exact c1) ?_|refine Ab (by exact c2) ?_|refine Ab (by exact c3) ?_);simp only[push_cast,seval,reduceEqDiff,hta,htb,hlm,w1,w2,hk,hne,hcl,hb1,hb2,htl,he,hq1])|intro _)
    all_goals exact Ah (by simp[get])
   | false=>
   cases hq2:(g !=0) with
   | true=>
    refine Ai (vs:=[.b true]) XD (by simp) (by simp) fun n0 hn0=>?_
    clear hn0
    simp only[push_cast,seval,reduceEqDiff,hta,htb,hlm,w1,w2,hk,hne,hcl,hb1,hb2,htl,he,hq1,hq2]
    repeat' (first|(((first|apply Ac|apply Ag|apply Af)<;>intro _h)<;>simp only[push_cast,seval,reduceEqDiff,_h,hta,htb,hlm,w1,w2,hk,hne,hcl,hb1,hb2,htl,he,hq1,hq2])|((first|refine Ab (by exact haw) ?_|refine Ab (by exact hfew) ?_|refine Ab (by exact c1) ?_|refine Ab (by exact c2) ?_|refine Ab (by exact c3) ?_);simp only[push_cast,seval,reduceEqDiff,hta,htb,hlm,w1,w2,hk,hne,hcl,hb1,hb2,htl,he,hq1,hq2])|intro _)
    all_goals exact Ah (by simp[get])
   | false=>
   cases hq3:(e==1) with
   | true=>
    refine Ai (vs:=[.b true]) XD (by simp) (by simp) fun n0 hn0=>?_
    clear hn0
    simp only[push_cast,seval,reduceEqDiff,hta,htb,hlm,w1,w2,hk,hne,hcl,hb1,hb2,htl,he,hq1,hq2,hq3]
    repeat' (first|(((first|apply Ac|apply Ag|apply Af)<;>intro _h)<;>simp only[push_cast,seval,reduceEqDiff,_h,hta,htb,hlm,w1,w2,hk,hne,hcl,hb1,hb2,htl,he,hq1,hq2,hq3])|((first|refine Ab (by exact haw) ?_|refine Ab (by exact hfew) ?_|refine Ab (by exact c1) ?_|refine Ab (by exact c2) ?_|refine Ab (by exact c3) ?_);simp only[push_cast,seval,reduceEqDiff,hta,htb,hlm,w1,w2,hk,hne,hcl,hb1,hb2,htl,he,hq1,hq2,hq3])|intro _)
    all_goals exact Ah (by simp[get])
   | false=>
    rw[hq1,hq2,hq3] at hpl'
    simp only[AsV,Aav] at hpl'
    obtain⟨hq4,hq5⟩:=hpl'
    refine Ai (vs:=[.b true]) XD (by simp) (by simp) fun n0 hn0=>?_
    clear hn0
    simp only[push_cast,seval,reduceEqDiff,hta,htb,hlm,w1,w2,w3,hk,hne,hcl,hb1,hb2,htl,he,hq1,hq2,hq3,hq4,hq5]
    repeat' (first|(((first|apply Ac|apply Ag|apply Af)<;>intro _h)<;>simp only[push_cast,seval,reduceEqDiff,_h,hta,htb,hlm,w1,w2,w3,hk,hne,hcl,hb1,hb2,htl,he,hq1,hq2,hq3,hq4,hq5])|((first|refine Ab (by exact haw) ?_|refine Ab (by exact hfew) ?_|refine Ab (by exact c1) ?_|refine Ab (by exact c2) ?_|refine Ab (by exact c3) ?_);simp only[push_cast,seval,reduceEqDiff,hta,htb,hlm,w1,w2,w3,hk,hne,hcl,hb1,hb2,htl,he,hq1,hq2,hq3,hq4,hq5])|intro _)
    all_goals exact Ah (by simp[get])
end Go.Ir
section
namespace Go.Ir
open Go.RowKit Go.Proofs.YtalbicndcfmbnaaGreatDoor
def FM(ag:Bool)(c:List V):V:=if ag then .agg c else c.headD .any
inductive Ek (P:Program):TypeId->List V->Prop where
 | bool (t:TypeId) (b:Bool) (h:P.underlying t=some .bool):Ek P t [.b b]
 | int (t:TypeId) (k:IntKind) (n:Int) (h:P.underlying t=some (.int k)) (hw:(Lit.int k n).wf=true):Ek P t [.i k n]
 | str (t:TypeId) (l:List UInt8) (h:P.underlying t=some .string):Ek P t [.s l]
 | sl (t e:TypeId) (es:List V) (h:P.underlying t=some (.slice e)) (he:∀el∈es,∃c,el=FM ((CN P e).getD false) c/\cells el=c) (hc:∀el∈es,(cells el).length=P.cellsOf e) (hw:∀el∈es,Ek P e (cells el)):Ek P t [.sl es]
 | st (t:TypeId) (fs:Array Field) (vs:List V) (h:P.underlying t=some (.struct fs)) (hl:vs.length=P.cellsOf t) (hf:∀f∈fs.toList,Ek P f.type ((vs.drop f.offset).take (P.cellsOf f.type))):Ek P t vs
mutual
def Bf:V->Nat
 | .s l=>l.length+1
 | .sl es=>A6 es+1
 | .agg cs=>A6 cs
 | _=>1
def A6:List V->Nat
 | []=>0
 | v::vs=>Bf v+A6 vs
end
theorem Fu(a b:List V):A6 (a++b)=A6 a+A6 b:=by
 induction a with
 | nil=>simp[A6]
 | cons x a ih=>simp[A6,ih];omega
def fT(P:Program):List Field->Nat->Option Nat
 | [],off=>some off
 | f::fs,off=>if f.offset=off then fT P fs (off+P.cellsOf f.type) else none
def AkM(P:Program)(T:List TypeId):Bool:=T.all fun t=>match P.underlying t with
 | some .bool|some (.int _)|some .string=>P.cellsOf t==1
 | some (.slice e)=>P.cellsOf t==1&&T.contains e&&decide (0<P.cellsOf e)
 | some (.struct fs)=>fs.toList.all (fun f=>T.contains f.type)&&fT P fs.toList 0==some (P.cellsOf t)
 | _=>false
section
variable{H:Type}{enc:TypeId×Value→H}{P:Program}{w:World}{base:Nat}{spare:Nat→Bool}{held:Bool}{T:List TypeId}
theorem Kw{d:DataW H}{ds:List (DataW H)}(h:d∈ds):Rows.uptoBulk d<=Rows.uptoBulkAll ds:=by
 induction ds with
 | nil=>cases h
 | cons x ds ih=>
  simp only[Rows.uptoBulkAll]
  grind
theorem Ks{μ:Id->Option Value}{Hc:Addr->Option Value}{cs:List Value} :
  ∀(fs:List Field) (off tot:Nat) (ds:List (DataW H)),fT P fs off=some tot->cs.length=tot->ds.length=fs.length->
   (∀(i:Nat) (f:Field) (d:DataW H),fs[i]?=some f->ds[i]?=some d->∃vs,AG μ Hc vs ((cs.drop f.offset).take (P.cellsOf f.type))/\Ek P f.type vs/\A6 vs<=Rows.uptoBulk d)->
   off<=tot/\∃vs,AG μ Hc vs (cs.drop off)/\(∀pre:List V,pre.length=off->∀f∈fs,Ek P f.type (((pre++vs).drop f.offset).take (P.cellsOf f.type)))/\A6 vs<=Rows.uptoBulkAll ds
 | [],off,tot,ds,hlay,hcs,hds,h=>by
  simp only[fT,Aiq] at hlay
  subst hlay
  refine⟨AbG _,[],?_,fun _ _ f hf=>(by cases hf),by simp[A6]⟩
  rw[List.drop_of_length_le (by omega)]
  exact AG.nil_
 | f::fs,off,tot,ds,hlay,hcs,hds,h=>by
  simp only[fT] at hlay
  split at hlay
  ·rename_i ho
   cases ds with
   | nil=>simp at hds
   | cons d ds=>
    obtain⟨hle,vs,h1,h2,h3⟩:=Ks fs _ tot ds hlay hcs (by simpa using hds) (fun i f' d' hf hd=>h (i+1) f' d' (by simpa using hf) (by simpa using hd))
    obtain⟨us,g1,g2,g3⟩:=h 0 f d rfl rfl
    rw[ho] at g1
    have hul:us.length=P.cellsOf f.type:=by
     have:=g1.len
     grind
    refine⟨by omega,us++vs,?_,?_,?_⟩
    ·have:=g1.append h1
     rw[<-AtC,AtD] at this
     exact this
    ·intro pre hpre f' hf'
     rcases Ao9.1 hf' with rfl|hf'
     ·grind
     grind
    ·rw[Fu]
     simp only[Rows.uptoBulkAll]
     omega
  ·cases hlay
theorem Te{t:TypeId}{vs:List V}{ag:Bool}(hag:CN P t=some ag)(h:Ek P t vs):cells (FM ag vs)=vs:=by
 cases ag with
 | true=>rfl
 | false=>
  cases h with
  | st t fs vs h hl hf=>simp[CN,h,rA] at hag
  | _=>rfl
theorem XC{t:TypeId}{vs:List V}{ag:Bool}(hag:CN P t=some ag)(h:Ek P t vs):Bf (FM ag vs)=A6 vs:=by
 cases ag with
 | true=>simp[FM,Bf]
 | false=>
  cases h with
  | st t fs vs h hl hf=>simp[CN,h,rA] at hag
  | _=>simp[FM,A6]
theorem L0{μ:Id->Option Value}(hT:AkM P T=true):∀(n:Nat) (t:TypeId) (cs:List Value) (x:DataW H×List MemPlace),t∈T->DataW.trod enc P w base spare held n t cs=some x->Rows.uptoBulk x.1<=1048576->
  ∃vs,AG μ (fun ad=>w.cell? ad) vs cs/\Ek P t vs/\A6 vs<=Rows.uptoBulk x.1:=by
 intro n
 induction n with
 | zero=>intro t cs x _ h;simp[DataW.trod] at h
 | succ n ih=>
  intro t cs x ht h hb
  have hpl:=Aiv.1 hT t ht
  have one:∀{c:V} {v:Value},Ap μ (fun ad=>w.cell? ad) c v->v.oneCell'=true->AG μ (fun ad=>w.cell? ad) [c] [v]:=fun hv h1=>
   ⟨VRels.cons hv VRels.nil_,fun v' hv'=>by grind⟩
  cases hu:P.underlying t with
  | none=>simp[hu] at hpl
  | some d=>
   cases d<;>simp only[hu] at hpl<;>(try (cases hpl;done))
   case bool=>
    unfold DataW.trod at h
    rw[hu] at h
    match cs,h with
    | [.bool b],h=>cases h;exact⟨[.b b],one (.b b) rfl,.bool t b hu,by simp[A6,Bf,Rows.uptoBulk]⟩
   case int k=>
    unfold DataW.trod at h
    rw[hu] at h
    match cs,h with
    | [.int k' m],h=>
     simp only at h
     split at h
     ·rename_i hk
      obtain⟨rfl,hw⟩:=hk
      cases h
      exact⟨[.i k' m],one (.i k' m) rfl,.int t k' m hu hw,by simp[A6,Bf,Rows.uptoBulk]⟩
     ·cases h
   case string=>
    unfold DataW.trod at h
    rw[hu] at h
    match cs,h with
    | [.string s],h=>
     simp only at h
     split at h
     ·rename_i hs
      cases h
      simp only[Rows.uptoBulk] at hb
      refine⟨[.s s.data.toList],one ?_ rfl,.str t _ hu,by simp[A6,Bf,Rows.uptoBulk]⟩
      have:=Ap.s (μ:=μ) (H:=fun ad=>w.cell? ad) s.data.toList (by unfold A9;omega)
      simpa using this
     ·cases h
   case slice e=>
    simp only[Aav,beq_iff_eq,Aua,decide_eq_true_eq] at hpl
    obtain⟨⟨hc1,heT⟩,hpos⟩:=hpl
    rcases DataW.trod_slice hu h with⟨rfl,rfl⟩|⟨a,len,cap,elems,rest,m,hm,rfl,rfl,hbase,hlc,hcm,hel,helem,_,_⟩
    ·exact⟨[.sl []],one (.slE none 0) rfl,.sl t e [] hu (fun _ h=>by cases h) (fun _ h=>by cases h) (fun _ h=>by cases h),by simp[A6,Bf,Rows.uptoBulk]⟩
    ·cases hm
     simp only[Rows.uptoBulk] at hb
     have hepl:=Aiv.1 hT e heT
     obtain⟨ag,hag⟩:∃ag,CN P e=some ag:=by
      unfold CN
      cases hue:P.underlying e with
      | none=>simp[hue] at hepl
      | some d=>exact⟨_,rfl⟩
     have each:∀i,i<len->∃(vs:List V) (seg:List Value) (y:DataW H×List MemPlace),elems[i]?=some y/\seg.length=P.cellsOf e/\(∀k,k<P.cellsOf e->w.cell? (a.add (i*P.cellsOf e+k))=seg[k]?)/\AG μ (fun ad=>w.cell? ad) vs seg/\Ek P e vs/\A6 vs<=Rows.uptoBulk y.1:=by
      intro i hi
      have h1:=helem i hi
      have hlt:i<elems.length:=by omega
      rw[Ain hlt] at h1
      cases hcs:w.cells? base (a.add (i*P.cellsOf e)) (P.cellsOf e) with
      | none=>rw[hcs] at h1;cases h1
      | some seg=>
       rw[hcs] at h1
       obtain⟨_,hl,hcell⟩:=World.cells?_some hcs
       have hmem:elems[i].1∈elems.map (·.1):=Apq.2 ⟨_,AtT hlt,rfl⟩
       have:=Kw hmem
       obtain⟨vs,r1,r2,r3⟩:=ih e seg elems[i] heT h1 (by omega)
       refine⟨vs,seg,elems[i],Ain hlt,hl,fun k hk=>?_,r1,r2,r3⟩
       have:=hcell k hk
       rwa [show(a.add (i*P.cellsOf e)).add k=a.add (i*P.cellsOf e+k) from by
        unfold Addr.add
        by_cases hi:i*P.cellsOf e=0<;>by_cases hj:k=0<;>simp[hi,hj,Atm]] at this
     have all:∀j,j<=len->∃(es:List V) (vals:List Value),es.length=j/\vals.length=j*P.cellsOf e/\(∀el∈es,(∃c,el=FM ag c/\cells el=c)/\(cells el).length=P.cellsOf e/\Ek P e (cells el))/\AG μ (fun ad=>w.cell? ad) (AF es) vals/\
       (∀(k:Nat) (v:Value),vals[k]?=some v->w.cell? (a.add k)=some v)/\A6 es<=Rows.uptoBulkAll ((elems.map (·.1)).take j):=by
      intro j
      induction j with
      | zero=>intro _;exact⟨[],[],rfl,by simp,fun _ h=>(by cases h),AG.nil_,fun k v h=>(by simp at h),by simp[A6]⟩
      | succ j ihj=>
       intro hj
       obtain⟨es,vals,g1,g2,g3,g4,g5,g6⟩:=ihj (by omega)
       obtain⟨vs,seg,y,e1,e2,e3,e4,e5,e6⟩:=each j (by omega)
       have hcl:cells (FM ag vs)=vs:=Te hag e5
       refine⟨es++[FM ag vs],vals++seg,by simp[g1],by grind,?_,?_,?_,?_⟩
       ·intro el hel'
        rcases Aio.1 hel' with h'|h'
        ·exact g3 el h'
        ·rw[AsB.1 h',hcl]
         exact⟨⟨vs,rfl,rfl⟩,by rw[e4.len,e2],e5⟩
       ·rw[Fh]
        refine g4.append ?_
        have:AF [FM ag vs]=vs:=by simp[AF,hcl]
        rw[this];exact e4
       ·intro k v hk
        rcases Ar9 k vals.length with hlt|hge
        ·grind
        ·rw[ApR hge] at hk
         have hklt:k-vals.length<seg.length:=(AlY.1 hk).1
         have:=e3 (k-vals.length) (by omega)
         rw[hk,g2,show j*P.cellsOf e+(k-j*P.cellsOf e)=k by omega] at this
         exact this
       ·rw[Fu]
        have ht:(elems.map (·.1)).take (j+1)=(elems.map (·.1)).take j++[y.1]:=by
         rw[List.take_add_one,Aqt,e1];rfl
        have hba:∀(a b:List (DataW H)),Rows.uptoBulkAll (a++b)=Rows.uptoBulkAll a+Rows.uptoBulkAll b:=by
         intro a b
         induction a with
         | nil=>simp[Rows.uptoBulkAll]
         | cons x a ih=>simp[Rows.uptoBulkAll,ih];omega
        rw[ht,hba]
        have:=XC hag e5
        simp only[A6,Rows.uptoBulkAll]
        omega
     obtain⟨es,vals,g1,g2,g3,g4,g5,g6⟩:=all len (AbG _)
     have hlen:∀(ds:List (DataW H)),ds.length<=Rows.uptoBulkAll ds:=by
      intro ds
      induction ds with
      | nil=>simp[Rows.uptoBulkAll]
      | cons d ds ih=>
       have:1<=Rows.uptoBulk d:=by
        cases d<;>(try simp only[Rows.uptoBulk])<;>(try omega)
        rename_i l;cases l<;>simp[Rows.uptoBulk]
       simp only[Rows.uptoBulkAll,AhU]
       omega
     have hl1:=hlen (elems.map (·.1))
     rw[Ae5,hel] at hl1
     refine⟨[.sl es],one ?_ rfl,.sl t e es hu (by rw[hag];exact fun el h=>(g3 el h).1) (fun el h=>(g3 el h).2.1) (fun el h=>(g3 el h).2.2),?_⟩
     ·have:=Ap.slC (μ:=μ) (H:=fun ad=>w.cell? ad) es a cap (P.cellsOf e) vals (by omega) (by unfold AM;omega) (fun el hel'=>(g3 el hel').2.1) g4.len g4.one g5 g4.at_
      grind
     ·rw[AtA (by simp;omega)] at g6
      simp only[A6,Bf,Rows.uptoBulk]
      omega
   case struct fs=>
    simp only[Aav,beq_iff_eq] at hpl
    obtain⟨hfT,hlay⟩:=hpl
    obtain⟨xs,m,hm,rfl,hcs,hxl,hf⟩:=DataW.trod_struct hu h
    cases hm
    simp only[Rows.uptoBulk] at hb
    obtain⟨_,vs,r1,r2,r3⟩:=Ks (P:=P) (μ:=μ) (Hc:=fun ad=>w.cell? ad) (cs:=cs) fs.toList 0 (P.cellsOf t) (xs.map (·.1)) hlay hcs (by simp[hxl]) (fun i f d hfi hdi=>by
     have hfi':fs[i]?=some f:=by grind
     have h1:=hf i f hfi'
     rw[Aqt] at hdi
     cases hx:xs[i]? with
     | none=>rw[hx] at hdi;cases hdi
     | some y=>
      rw[hx] at hdi h1
      cases hdi
      have hmem:y.1∈xs.map (·.1):=Apq.2 ⟨y,Ai1 hx,rfl⟩
      have:=Kw hmem
      grind
)
    rw[Are] at r1
    refine⟨vs,r1,.st t fs vs hu (by rw[r1.len,hcs]) (fun f hf'=>by simpa using r2 [] rfl f hf'),?_⟩
    simp only[Rows.uptoBulk]
    omega
end
end Go.Ir
end
section
namespace Go.Ir
open Go.RowKit Go.ChangeShapes Go.WideShapes
variable[F1]
section
variable{H:Type}{enc:TypeId×Value→H}{P:Program}{W W':World}
theorem HH(hl:laidOutB P=true)(hb:Below W.heap.size W W'){sp:Nat->Bool}:∀(ts:List TypeId) (vs:List Value) (ds:List (DataW H)) (ps:List MemPlace),(∀t∈ts,P.readableRec t=true/\t<P.types.size)->
  DataW.TrodAll enc P W 0 (fun _=>true) true ts vs ds ps->(∀x∈ps,x.block<W.heap.size)->(∀x∈ps,sp x.block=true)->DataW.TrodAll enc P W' 0 sp true ts vs ds ps
 | [],vs,ds,ps,_,h,_,_=>by
  obtain⟨rfl,rfl,rfl⟩:=trodAll_nil h
  exact trodAll_mk0
 | t::ts,vs,ds,ps,hts,h,hlt,hsp=>by
  obtain⟨v,vs',d,ds',p,q,rfl,rfl,rfl,h1,h2⟩:=trodAll_cons h
  obtain⟨hr,hrow⟩:=hts t (by simp)
  refine trodAll_cons_mk (WideElems.Trod_stays hl hr hrow h1 (fun x hx=>hb.same (hlt x (by simp[hx]))) (fun x hx=>hsp x (by simp[hx]))) (HH hl hb ts vs' ds' q (fun t' ht'=>hts t' (by simp[ht'])) h2 (fun x hx=>hlt x (by simp[hx])) (fun x hx=>hsp x (by simp[hx])))
theorem XY{f:Func}{s:ChangeSpec}{apart fresh handsOn again:Bool}{args:Array Value}{ds gs:List (DataW H)}{before:List MemPlace}{tb:TypeId}
  (hl:laidOutB P=true)(hts:∀t∈f.params.toList,P.readableRec t=true/\t<P.types.size)(hrt:f.resultTypes=#[tb])(htb:P.underlying tb=some .bool)(hv:s.vars=[])
  (hfn:s.fn H (ds++gs)={ results:=[.lit (.bool true)],args:=ds })
  (hW:DataW.Whole enc P f.params.toList s.vars apart W args.toList ds gs before)(hb:Below W.heap.size W W'):s.post enc P f apart fresh handsOn again W args (.bool true) W':=by
 have hlt:∀p∈before,p.block<W.heap.size:=fun p hp=>hW.lt p hp
 have hW':=hW
 obtain⟨p,q,hA,hV,rfl,hz,hn⟩:=hW
 rw[hv] at hV
 obtain⟨rfl,rfl⟩:=trodVars_none hV
 simp only[Aou] at *
 have hold:∀x∈p,(fun b=>decide (b<W.heap.size)) x.block=true:=fun x hx=>by simpa using hlt x hx
 have hargs:∀sp:Nat->Bool,(∀x∈p,sp x.block=true)->DataW.TrodAll enc P W' 0 sp true f.params.toList args.toList ds p:=fun sp hsp=>HH hl hb _ _ _ _ hts hA hlt hsp
 have hres:∀(b:Nat) (sp:Nat->Bool) (hd:Bool),DataW.TrodAll enc P W' b sp hd f.resultTypes.toList ((Value.bool true).resultList f.resultTypes.size) [.lit (.bool true)] []:=by
  intro b sp hd
  rw[hrt]
  exact trodAll_cons_mk (p:=[]) (p':=[]) (shut_bool htb _) trodAll_mk0
 refine⟨ds,[],p,[],p,[],hW',?_,?_,?_,World.keptBut_mono (fun x hx=>⟨hx,.inr (.inl hx)⟩) (hb.frame _),fun _=>?_⟩
 ·grind
 ·grind
 ·rw[hv,Aou,hfn];rfl
 ·refine⟨ok_one hrt rfl (okWide_bool_mk htb _),.lit (.bool true)::ds,[],p,⟨p,[],?_,by rw[hv];rfl,by simp,?_,?_⟩,fun x hx _=>hx⟩
  ·rw[hrt]
   exact trodAll_cons_mk (p:=[]) (shut_bool htb _) (hargs _ (fun _ _=>rfl))
  ·intro b off hp
   have:=hlt _ hp
   have hfz:=hb.frozen (p:=⟨b,off,none⟩) this
   rw[hfz]
   exact hz b off (by simpa using hp)
  ·intro ha;exact hn ha
theorem Hp.start(W:World)(n:Nat):Hp W [] n (fun _=>none) (fun ad=>W.cell? ad) W where
 base:=AqT _ _
 pins _ _ h:=h
 ents _ _ h:=by simp[lk] at h
 unp bk ho:=by obtain⟨id,e,h,_⟩:=ho;simp[lk] at h
 sep _ _ _ _ _ h:=by simp[lk] at h
 bd _ _:=rfl
theorem Sl{f:FuncId}{args:List V}{vals:List Value}(h:Am P W f args [] (.b true) [])(hv:VRels (fun _=>none) (fun ad=>W.cell? ad) args vals) :
  Calls P f vals.toArray W fun e W'=>e=.returned (.bool true)/\Below W.heap.size W W':=
 (h.run 0 W _ _ vals (Hp.start W 0) hv).mono fun e W' ⟨val,μ',H',n',he,hr,hp,_⟩=>⟨by rw[he,hr.b_inv],hp.base⟩
end
end Go.Ir
end
section
namespace Go.Ir
open Go.Proofs
section
variable{P:Program}
theorem Ek.int_inv{t:TypeId}{k:IntKind}{v:V}(h:Ek P t [v])(ht:P.underlying t=some (.int k)):∃n,v=.i k n/\(Lit.int k n).wf=true:=by
 cases h with
 | int _ k' n h hw=>grind
 | bool _ b h=>rw[ht] at h;cases h
 | str _ l h=>rw[ht] at h;cases h
 | sl _ e es h _ _ _=>rw[ht] at h;cases h
 | st _ fs vs h _ _=>rw[ht] at h;cases h
theorem Ek.str_inv{t:TypeId}{v:V}(h:Ek P t [v])(ht:P.underlying t=some .string):∃l,v=.s l:=by
 cases h with
 | int _ k' n h hw=>rw[ht] at h;cases h
 | bool _ b h=>rw[ht] at h;cases h
 | str _ l h=>exact⟨l,rfl⟩
 | sl _ e es h _ _ _=>rw[ht] at h;cases h
 | st _ fs vs h _ _=>rw[ht] at h;cases h
theorem Ek.sl_inv{t e:TypeId}{v:V}(h:Ek P t [v])(ht:P.underlying t=some (.slice e)):∃es,v=.sl es/\(∀el∈es,∃c,el=FM ((CN P e).getD false) c/\cells el=c)/\(∀el∈es,(cells el).length=P.cellsOf e)/\(∀el∈es,Ek P e (cells el)):=by
 cases h with
 | int _ k' n h hw=>rw[ht] at h;cases h
 | bool _ b h=>rw[ht] at h;cases h
 | str _ l h=>rw[ht] at h;cases h
 | sl _ e' es h h1 h2 h3=>grind
 | st _ fs vs h _ _=>rw[ht] at h;cases h
theorem Ek.st_inv{t:TypeId}{fs:Array Field}{vs:List V}(h:Ek P t vs)(ht:P.underlying t=some (.struct fs)):vs.length=P.cellsOf t/\∀f∈fs.toList,Ek P f.type ((vs.drop f.offset).take (P.cellsOf f.type)):=by
 cases h with
 | int _ k' n h hw=>rw[ht] at h;cases h
 | bool _ b h=>rw[ht] at h;cases h
 | str _ l h=>rw[ht] at h;cases h
 | sl _ e' es h h1 h2 h3=>rw[ht] at h;cases h
 | st _ fs' vs h h1 h2=>grind
end
theorem Aax{l:List V}(h:l.length=2):∃a b,l=[a,b]:=by
 match l,h with
 | [a,b],_=>exact⟨a,b,rfl⟩
theorem Apf{l:List V}(h:l.length=6):∃a b c d e f,l=[a,b,c,d,e,f]:=by
 match l,h with
 | [a,b,c,d,e,f],_=>grind
theorem c9:Tryz.prog.cellsOf 9=1:=by kernel_rfl
theorem c3:Tryz.prog.cellsOf 3=1:=by kernel_rfl
theorem c31:Tryz.prog.cellsOf 31=1:=by kernel_rfl
theorem c50:Tryz.prog.cellsOf 114=1:=by kernel_rfl
theorem c52:Tryz.prog.cellsOf 116=6:=by kernel_rfl
theorem c54:Tryz.prog.cellsOf 118=2:=by kernel_rfl
theorem a52:CN Tryz.prog 116=some true:=by kernel_rfl
theorem a54:CN Tryz.prog 118=some true:=by kernel_rfl
theorem pY:∀(N:Nat) (v:V),Bf v<=N->Ek Tryz.prog 31 [v]->∃ps,v=.sl (GN ps)/\Bd ps<=Bf v:=by
 intro N
 induction N with
 | zero=>intro v h;cases v<;>simp[Bf] at h<;>intro hw<;>obtain⟨es,he,_⟩:=hw.sl_inv Tryz.underlying31<;>cases he
 | succ N ih=>
  intro v hN hw
  obtain⟨es,rfl,h1,h2,h3⟩:=hw.sl_inv Tryz.underlying31
  rw[a52] at h1
  simp only[Option.getD_some] at h1
  simp only[Bf] at hN⊢
  have hcs:∀v:V,Bf v<=N->Ek Tryz.prog 114 [v]->∃cs,v=.sl (Je cs)/\EB cs<=Bf v:=by
   intro v hv hw
   obtain⟨es,rfl,h1,h2,h3⟩:=hw.sl_inv Tryz.underlying114
   rw[a54] at h1
   simp only[Option.getD_some] at h1
   simp only[Bf] at hv⊢
   have:∃cs,es=Je cs/\EB cs<=A6 es:=by
    clear hw
    induction es with
    | nil=>exact⟨[],by simp[Je],by simp[EB]⟩
    | cons el es ihe=>
     simp only[A6] at hv⊢
     obtain⟨cs,hcs,hcw⟩:=ihe (by omega) (fun x hx=>h1 x (Abt _ hx)) (fun x hx=>h2 x (Abt _ hx)) (fun x hx=>h3 x (Abt _ hx))
     obtain⟨c,rfl,_⟩:=h1 el (by simp)
     have hst:=h3 (FM true c) (by simp)
     have hc:cells (FM true c)=c:=rfl
     rw[hc] at hst
     obtain⟨hl,hf⟩:=hst.st_inv Tryz.underlying118
     rw[c54] at hl
     obtain⟨x0,x1,rfl⟩:=Aax hl
     have f0:=hf _ (by exact Afi)
     have f1:=hf _ (by exact Abt _ Afi)
     simp only[c9,c31,Are,ApP,ApB,AqF] at f0 f1
     obtain⟨k,rfl⟩:=f0.str_inv Tryz.underlying9
     have hb:Bf (FM true [.s k,x1])=k.length+1+Bf x1:=by simp[FM,Bf,A6]
     rw[hb] at hv⊢
     obtain⟨ps,rfl,hpw⟩:=ih x1 (by omega) f1
     refine⟨(k,ps)::cs,by rw[hcs];simp[Je,FM],?_⟩
     rw[BX]
     simp only
     omega
   obtain⟨cs,rfl,hw⟩:=this
   exact⟨cs,rfl,by omega⟩
  have:∃ps,es=GN ps/\Bd ps<=A6 es:=by
   clear hw
   induction es with
   | nil=>exact⟨[],by simp[GN],by simp[Bd]⟩
   | cons el es ihe=>
    simp only[A6] at hN⊢
    obtain⟨ps,hps,hpw⟩:=ihe (by omega) (fun x hx=>h1 x (Abt _ hx)) (fun x hx=>h2 x (Abt _ hx)) (fun x hx=>h3 x (Abt _ hx))
    obtain⟨c,rfl,_⟩:=h1 el (by simp)
    have hst:=h3 (FM true c) (by simp)
    have hc:cells (FM true c)=c:=rfl
    rw[hc] at hst
    obtain⟨hl,hf⟩:=hst.st_inv Tryz.underlying116
    rw[c52] at hl
    obtain⟨x0,x1,x2,x3,x4,x5,rfl⟩:=Apf hl
    have f0:=hf _ (by exact Afi)
    have f1:=hf _ (by exact Abt _ Afi)
    have f2:=hf _ (by exact Abt _ (Abt _ Afi))
    have f3:=hf _ (by exact Abt _ (Abt _ (Abt _ Afi)))
    have f4:=hf _ (by exact Abt _ (Abt _ (Abt _ (Abt _ Afi))))
    have f5:=hf _ (by exact Abt _ (Abt _ (Abt _ (Abt _ (Abt _ Afi)))))
    simp only[c9,c31,c3,c50,Are,ApP,ApB,AqF] at f0 f1 f2 f3 f4 f5
    obtain⟨k,rfl,hk⟩:=f0.int_inv Tryz.underlying3
    obtain⟨t,rfl⟩:=f1.str_inv Tryz.underlying9
    obtain⟨n,rfl⟩:=f2.str_inv Tryz.underlying9
    obtain⟨s,rfl⟩:=f3.str_inv Tryz.underlying9
    have hb:Bf (FM true [.i .i64 k,.s t,.s n,.s s,x4,x5])=1+(t.length+1)+(n.length+1)+(s.length+1)+Bf x4+Bf x5:=by simp[FM,Bf,A6];omega
    rw[hb] at hN⊢
    obtain⟨cs,rfl,hcw⟩:=hcs x4 (by omega) f4
    obtain⟨qs,rfl,hqw⟩:=ih x5 (by omega) f5
    refine⟨⟨k,t,n,s,cs,qs⟩::ps,by rw[hps];simp[GN,Aj.enc,FM],?_⟩
    rw[Bu,Aj.wt_eq]
    simp only
    omega
  obtain⟨ps,rfl,hw'⟩:=this
  exact⟨ps,rfl,by omega⟩
end Go.Ir
end
section
namespace Go.Ir
open Go.Proofs
def Df{α:Type}(w:α->Nat):List α->Nat
 | []=>0
 | x::xs=>w x+Df w xs
theorem Py{α:Type}{G:V->Prop}(enc:α->V)(w:α->Nat)(hel:∀el,G el->∃x,el=enc x/\w x<=Bf el):∀es,(∀el∈es,G el)->∃xs,es=xs.map enc/\Df w xs<=A6 es:=by
 intro es
 induction es with
 | nil=>intro _;exact⟨[],rfl,by simp[Df]⟩
 | cons e es ih=>
  intro h
  obtain⟨xs,h1,h2⟩:=ih fun x hx=>h x (by simp[hx])
  obtain⟨x,h3,h4⟩:=hel e (h e (by simp))
  exact⟨x::xs,by rw[h1,h3];rfl,by simp only[Df,A6];omega⟩
section
variable{P:Program}
theorem DR{α:Type}{t e:TypeId}{v:V}(h:Ek P t [v])(ht:P.underlying t=some (.slice e))(ha:CN P e=some true)(enc:α->V)(w:α->Nat)(hel:∀c,Ek P e c->∃x,V.agg c=enc x/\w x<=A6 c) :
  ∃xs:List α,v=.sl (xs.map enc)/\Df w xs+1<=Bf v:=by
 obtain⟨es,rfl,h1,h2,h3⟩:=h.sl_inv ht
 rw[ha] at h1
 obtain⟨xs,hx,hw⟩:=Py (G:=fun el=>∃c,el=V.agg c/\Ek P e c) enc w (fun el ⟨c,hc,hwt⟩=>by
  subst hc
  obtain⟨x,hx,hwx⟩:=hel c hwt
  exact⟨x,hx,by simpa[Bf] using hwx⟩) es fun el hm=>by
  obtain⟨c,hc,hcc⟩:=h1 el hm
  have:=h3 el hm
  rw[hcc] at this
  exact⟨c,hc,this⟩
 exact⟨xs,by rw[hx],by simp only[Bf];omega⟩
theorem Ya{α:Type}{t e e2:TypeId}{v:V}(h:Ek P t [v])(ht:P.underlying t=some (.slice e))(he:P.underlying e=some (.slice e2))(ha:CN P e=some false)(hc1:P.cellsOf e=1)(enc:α->V)(w:α->Nat)(hel:∀v,Ek P e [v]->∃x,v=enc x/\w x<=Bf v) :
  ∃xs:List α,v=.sl (xs.map enc)/\Df w xs+1<=Bf v:=by
 obtain⟨es,rfl,h1,h2,h3⟩:=h.sl_inv ht
 rw[ha] at h1
 obtain⟨xs,hx,hw⟩:=Py (G:=fun el=>Ek P e [el]) enc w hel es fun el hm=>by
  obtain⟨c,hc,hcc⟩:=h1 el hm
  have h4:=h3 el hm
  have h5:=h2 el hm
  rw[hcc] at h4 h5
  rw[hc1] at h5
  match c,h5 with
  | [x],_=>
   have:el=x:=hc
   rw[this];exact h4
 exact⟨xs,by rw[hx],by simp only[Bf];omega⟩
theorem Ek.bool_inv{t:TypeId}{v:V}(h:Ek P t [v])(ht:P.underlying t=some .bool):∃b,v=.b b:=by
 cases h with
 | int _ k' n h hw=>rw[ht] at h;cases h
 | bool _ b h=>exact⟨b,rfl⟩
 | str _ l h=>rw[ht] at h;cases h
 | sl _ e es h _ _ _=>rw[ht] at h;cases h
 | st _ fs vs h _ _=>rw[ht] at h;cases h
end
theorem Ap0{l:List V}(h:l.length=4):∃a b c d,l=[a,b,c,d]:=by
 match l,h with
 | [a,b,c,d],_=>exact⟨a,b,c,d,rfl⟩
theorem ApN{α:Type}(xs:List α):Df (fun _=>1) xs=xs.length:=by
 induction xs with
 | nil=>rfl
 | cons x xs ih=>simp only[Df,ih,AhU];omega
theorem Amv:Tryz.prog.cellsOf 337=2:=by kernel_rfl
theorem AoX:Tryz.prog.cellsOf 175=4:=by kernel_rfl
theorem Ak8:Tryz.prog.cellsOf 139=2:=by kernel_rfl
theorem Amk:Tryz.prog.cellsOf 172=1:=by kernel_rfl
theorem Agc:Tryz.prog.cellsOf 173=1:=by kernel_rfl
theorem AnG:Tryz.prog.cellsOf 137=1:=by kernel_rfl
theorem Ag4:Tryz.prog.cellsOf 22=1:=by kernel_rfl
theorem Ab5:Tryz.prog.cellsOf 4=1:=by kernel_rfl
theorem An5:Tryz.prog.cellsOf 30=16:=by kernel_rfl
theorem Al9:CN Tryz.prog 337=some true:=by kernel_rfl
theorem AoD:CN Tryz.prog 175=some true:=by kernel_rfl
theorem AjS:CN Tryz.prog 172=some false:=by kernel_rfl
theorem Ac1:CN Tryz.prog 139=some true:=by kernel_rfl
theorem zT(c:List V)(h:Ek Tryz.prog 337 c):∃x:FT,V.agg c=x.enc/\1<=A6 c:=by
 obtain⟨hl,hf⟩:=h.st_inv Tryz.underlying337
 rw[Amv] at hl
 obtain⟨x0,x1,rfl⟩:=Aax hl
 have f0:=hf _ (by exact Afi)
 have f1:=hf _ (by exact Abt _ Afi)
 simp only[c3,Are,ApP,ApB,AqF] at f0 f1
 obtain⟨a,rfl,_⟩:=f0.int_inv Tryz.underlying3
 obtain⟨b,rfl,_⟩:=f1.int_inv Tryz.underlying3
 exact⟨⟨a,b⟩,rfl,by simp[A6,Bf]⟩
theorem Ad1(c:List V)(h:Ek Tryz.prog 175 c):∃x:CM,V.agg c=x.enc/\x.wt<=A6 c:=by
 obtain⟨hl,hf⟩:=h.st_inv Tryz.underlying175
 rw[AoX] at hl
 obtain⟨x0,x1,x2,x3,rfl⟩:=Ap0 hl
 have f0:=hf _ (by exact Afi)
 have f1:=hf _ (by exact Abt _ Afi)
 have f2:=hf _ (by exact Abt _ (Abt _ Afi))
 have f3:=hf _ (by exact Abt _ (Abt _ (Abt _ Afi)))
 simp only[c3,Ab5,Agc,Are,ApP,ApB,AqF] at f0 f1 f2 f3
 obtain⟨a,rfl,_⟩:=f0.int_inv Tryz.underlying3
 obtain⟨b,rfl,_⟩:=f1.int_inv Tryz.underlying3
 obtain⟨n,rfl⟩:=f2.bool_inv Tryz.underlying4
 obtain⟨xs,rfl,hw⟩:=DR f3 Tryz.underlying173 Al9 FT.enc (fun _=>1) zT
 rw[ApN] at hw
 refine⟨⟨a,b,n,xs⟩,rfl,?_⟩
 simp only[A6,Bf] at hw⊢
 unfold CM.wt
 simp only;omega
theorem kZ(xs:List CM):C8 xs=Df CM.wt xs+1:=by
 induction xs with
 | nil=>rfl
 | cons x xs ih=>simp only[Df,C8,ih];omega
theorem fN(xs:List (List CM)):CY xs=Df C8 xs:=by
 induction xs with
 | nil=>rfl
 | cons x xs ih=>simp only[Df,CY,ih]
theorem XH(xs:List AH):A7 xs=Df AH.wt xs:=by
 induction xs with
 | nil=>rfl
 | cons x xs ih=>simp only[Df,A7,ih]
theorem wH(v:V)(h:Ek Tryz.prog 172 [v]):∃x:List CM,v=EN x/\C8 x<=Bf v:=by
 obtain⟨xs,rfl,hw⟩:=DR h Tryz.underlying172 AoD CM.enc CM.wt Ad1
 exact⟨xs,rfl,by rw[kZ];exact hw⟩
theorem TH(c:List V)(h:Ek Tryz.prog 139 c):∃x:AH,V.agg c=x.enc/\x.wt<=A6 c:=by
 obtain⟨hl,hf⟩:=h.st_inv Tryz.underlying139
 rw[Ak8] at hl
 obtain⟨x0,x1,rfl⟩:=Aax hl
 have f0:=hf _ (by exact Afi)
 have f1:=hf _ (by exact Abt _ Afi)
 simp only[c9,AnG,Are,ApP,ApB,AqF] at f0 f1
 obtain⟨a,rfl⟩:=f0.str_inv Tryz.underlying9
 obtain⟨xs,rfl,hw⟩:=Ya f1 Tryz.underlying137 Tryz.underlying172 AjS Amk EN C8 wH
 refine⟨⟨a,xs⟩,rfl,?_⟩
 unfold AH.wt
 rw[fN]
 simp only[A6,Bf] at hw⊢
 omega
end Go.Ir
end
namespace Go.Ir
open Go.Proofs
def bw(s:Aa):Nat:=s.length+1
theorem Ap4:CN Tryz.prog 9=some false:=by kernel_rfl
theorem Pn(v:V)(h:Ek Tryz.prog 28 [v]):∃l:List Aa,v=.sl (l.map V.s)/\Df bw l+1<=Bf v:=by
 obtain⟨es,rfl,h1,h2,h3⟩:=h.sl_inv Tryz.underlying28
 rw[Ap4] at h1
 obtain⟨xs,hx,hw⟩:=Py (G:=fun el=>Ek Tryz.prog 9 [el]) V.s bw (fun el h=>by
  obtain⟨s,rfl⟩:=h.str_inv Tryz.underlying9
  exact⟨s,rfl,by unfold bw;simp[Bf]⟩) es fun el hm=>by
  obtain⟨c,hc,hcc⟩:=h1 el hm
  have h4:=h3 el hm
  have h5:=h2 el hm
  rw[hcc] at h4 h5
  rw[c9] at h5
  match c,h5 with
  | [x],_=>
   have:el=x:=hc
   rw[this];exact h4
 exact⟨xs,by rw[hx],by simp only[Bf];omega⟩
theorem mG{α:Type}{w:α->Nat}{l:List α}{x:α}(h:x∈l):w x<=Df w l:=by
 induction l with
 | nil=>cases h
 | cons y l ih=>
  simp only[Df]
  rcases Ao9.1 h with rfl|h
  ·omega
  ·have:=ih h;omega
theorem Jt{α:Type}{w:α->Nat}{l:List α}(h:∀x,1<=w x):l.length<=Df w l:=by
 induction l with
 | nil=>simp[Df]
 | cons y l ih=>
  simp only[Df,AhU]
  have:=h y;omega
theorem AlT{l:List V}(h:l.length=3):∃a b c,l=[a,b,c]:=by
 match l,h with
 | [a,b,c],_=>exact⟨a,b,c,rfl⟩
theorem Am8{l:List V}(h:l.length=5):∃a b c d e,l=[a,b,c,d,e]:=by
 match l,h with
 | [a,b,c,d,e],_=>exact⟨a,b,c,d,e,rfl⟩
theorem AcO:Tryz.prog.cellsOf 28=1:=by kernel_rfl
theorem Apr:Tryz.prog.cellsOf 62=5:=by kernel_rfl
theorem Aqf:CN Tryz.prog 62=some true:=by kernel_rfl
theorem Ae6(c:List V)(h:Ek Tryz.prog 62 c):∃x:BE,V.agg c=x.enc/\x.wt<=A6 c:=by
 obtain⟨hl,hf⟩:=h.st_inv Tryz.underlying62
 rw[Apr] at hl
 obtain⟨x0,x1,x2,x3,x4,rfl⟩:=Am8 hl
 have f0:=hf _ (by exact Afi)
 have f1:=hf _ (by exact Abt _ Afi)
 have f2:=hf _ (by exact Abt _ (Abt _ Afi))
 have f3:=hf _ (by exact Abt _ (Abt _ (Abt _ Afi)))
 have f4:=hf _ (by exact Abt _ (Abt _ (Abt _ (Abt _ Afi))))
 simp only[c9,c3,AcO,Are,ApP,ApB,AqF] at f0 f1 f2 f3 f4
 obtain⟨n,rfl⟩:=f0.str_inv Tryz.underlying9
 obtain⟨t,rfl,_⟩:=f1.int_inv Tryz.underlying3
 obtain⟨x,rfl⟩:=f2.str_inv Tryz.underlying9
 obtain⟨d,rfl,_⟩:=f3.int_inv Tryz.underlying3
 obtain⟨xs,rfl,hw⟩:=Pn x4 f4
 refine⟨⟨n,t,x,d,xs⟩,rfl,?_⟩
 have:=Jt (w:=bw) (l:=xs) (fun _=>by unfold bw;omega)
 simp only[A6,Bf] at hw⊢
 unfold BE.wt
 simp only;omega
theorem Aa7(v:V)(h:Ek Tryz.prog 32 [v]):∃l:List BE,v=.sl (l.map BE.enc)/\Df BE.wt l<=Bf v:=by
 obtain⟨xs,rfl,hw⟩:=DR h Tryz.underlying32 Aqf BE.enc BE.wt Ae6
 exact⟨xs,rfl,by omega⟩
theorem AaC{l:List BE}{n:Nat}(h:Df BE.wt l<=n):l.length<=n/\∀v∈l,v.text.length<=n/\v.list.length<=n:=by
 have:=Jt (w:=BE.wt) (l:=l) (fun x=>by unfold BE.wt;omega)
 refine⟨by omega,fun v hv=>?_⟩
 have h2:=mG (w:=BE.wt) hv
 have h3:v.wt=1+v.name.length+v.text.length+v.list.length:=rfl
 exact⟨by omega,by omega⟩
end Go.Ir
