/-
  THE IR CALCULUS, part J: a region of operations, in the ..
  THE IR CALCULUS, part K: a region, in the text's order and ..
  THE IR CALCULUS, part L: code, and what may be forgotten.
  THE IR CALCULUS, part M: what may be forgotten
  THE IR CALCULUS, part N: the II of a function from ..
  THE IR CALCULUS, part P: a step of an iteration over a map, ..
  THE IR CALCULUS, part Q: a call that hands back what it ..
  THE IR CALCULUS, part Y: ranges over functions: the ..
  The check of this program, for the entries of loops.
  THE EVALUATOR, part 0: what is asked of the text of a code: ..
  THE EVALUATOR, part A: the names in a value
  THE EVALUATOR, part B: contracts at one number
  THE EVALUATOR, part C: operations as functions.
  THE EVALUATOR, part D: a region in the order of its ..
  THE EVALUATOR, part E: a II at one number is a ..
-/
import Derived.Test.YtalbicndcfmbnaaGreatDoorPaa
import Derived.RangeFuncLeaves
import Derived.RangeFuncRecord
import Derived.Laws.NewFold
import Derived.Test.YtalbicndcfmbnaaGreatDoorProg
set_option linter.all false
set_option linter.unusedSectionVars false
set_option linter.unusedSimpArgs false
set_option linter.unusedVariables false
section
namespace Go.Ir
open Go.RowKit
variable[F1]
def Ht:X->List Nat
 | .t s=>[s]
 | .c _=>[]
def rdO:Option X->List Nat
 | some x=>Ht x
 | none=>[]
def IY(xs:List X):List Nat:=xs.flatMap Ht
def AE.rd:AE->List Nat
 | .mv x|.not x|.neg x|.cvi _ x|.cvs x|.fld x _ _ _|.faddr x _|.load x _ _|.box x|.lenS x|.lenL x|.ext x _|.nilck x|.btos x=>Ht x
 | .pick c a b=>Ht c++Ht a++Ht b
 | .bin _ x y|.eqb _ x y|.eqr _ x y|.iaddr x y _ _|.idx x y|.store x y _|.app x y _ _|.apps x y _|.slT x y _|.mksl x y _ _ _=>Ht x++Ht y
 | .alloc _=>[]
 | .build _ ps=>ps.flatMap fun p=>Ht p.2.2
 | .msl _ _ _ xs=>IY xs
 | .slS x lo hi|.slL x lo hi _=>Ht x++rdO lo++rdO hi
 | .call _ xs|.calls _ xs|.calln _ xs|.callr _ xs=>IY xs
 | .callv g xs|.callvs g xs|.callw g xs=>Ht g++IY xs
 | .mkfn _ xs ys=>IY xs++IY ys
 | .mx _ x xs=>Ht x++IY xs
 | .pu _ xs|.mkm _ xs=>IY xs
 | .rdm _ m xs|.wrm _ m xs=>Ht m++IY xs
 | .frz m _|.mrange m|.mentry m=>Ht m
def AE.sw:AE->Bool
 | .store ..|.box ..|.alloc ..|.app ..|.apps ..|.slT ..|.calls ..|.calln ..|.callvs ..|.callw ..|.mksl ..|.wrm ..|.mkm ..|.frz ..|.mrange ..|.mentry ..=>true
 | .msl own _ _ _=>own
 | _=>false
def AE.sr:AE->Bool
 | .load ..|.iaddr ..|.lenL ..|.rdm ..|.callr ..|.eqr ..|.btos ..=>true
 | _=>false
def AE.mk:AE->Bool
 | .box ..|.alloc ..|.mksl ..|.mkm ..=>true
 | .msl own _ _ _=>own
 | _=>false
def AE.ct:AE->List X
 | .store x _ _|.app x _ _ _|.apps x _ _|.slT x _ _|.wrm _ x _=>[x]
 | _=>[]
def AE.wr:AE->Bool
 | .store ..|.app ..|.apps ..|.slT ..|.wrm ..=>true
 | _=>false
def X.same:X->X->Bool
 | .t s,.t s'=>s==s'
 | _,_=>false
def X.isT:X->Bool
 | .t _=>true
 | .c _=>false
def I.rd0(i:I):List Nat:=i.op.rd++(match i.gd with|some (s,_)=>[s]|none=>[])
def I.rd(i:I):List Nat:=i.rd0++IY i.ap
def X.notIn(l:List I):X->Bool
 | .t s=>!(l.any fun i=>i.dst==some s)
 | .c _=>false
def I.dropd(i:I)(l:List I):I:={ i with ap:=i.ap.filter (X.notIn l) }
def AE.isR:AE->Bool
 | .callr ..=>true
 | _=>false
def K0(i j:I):Bool:=
 (match i.dst with
  | some d=>!j.rd0.contains d&&j.dst !=some d
  | none=>true) &&
 (match j.dst with
  | some d=>!i.rd.contains d
  | none=>true) &&
 ((!(i.op.sw&&(j.op.sw||j.op.sr))&&!(j.op.sw&&i.op.sr))||(i.op.mk&&!j.op.cl&&j.op.cs.all X.isT)||(j.op.mk&&!i.op.cl)||(i.op.sr&&!i.op.cl&&j.op.wr&&i.op.cs.all fun x=>j.ap.any x.same)||(i.op.wr&&j.op.sr&&!j.op.cl&&j.op.cs.all X.isT&&i.op.ct.all fun x=>j.ap.any x.same)||(i.op.sr&&!i.op.cl&&j.op.cl&&i.op.cs.all fun x=>j.ap.any x.same)||(j.op.mk&&i.op.isR))
theorem Au{g g':Nat->V}{x:X}(h:∀s∈Ht x,g s=g' s):ev g x=ev g' x:=by
 cases x with
 | t s=>exact h s (by simp[Ht])
 | c v=>rfl
theorem B7{g g':Nat->V}{xs:List X}(h:∀s∈IY xs,g s=g' s):xs.map (ev g)=xs.map (ev g'):=
 As6 fun x hx=>Au fun s hs=>h s (Aty.2 ⟨x,hx,hs⟩)
theorem FO{g g':Nat->V}{dflt:Nat}{x:Option X}(h:∀s∈rdO x,g s=g' s):Fs g dflt x=Fs g' dflt x:=by
 cases x with
 | none=>rfl
 | some x=>simp only[Fs];rw[Au (x:=x) h]
section
variable{P:Program}{W0:World}{ep:Nat}
theorem tL{d:Option Nat}{op:AE}{g g':Nat->V}{σ σ':Ak}{v:V}(h:∀s∈op.rd,g s=g' s)(he:E P W0 ep d op g σ v σ'):E P W0 ep d op g' σ v σ':=by
 cases op with
 | mv x=>simp only[E,AE.rd] at *;rwa [<-Au h]
 | not x=>simp only[E,AE.rd] at *;rwa [<-Au h]
 | neg x=>simp only[E,AE.rd] at *;rwa [<-Au h]
 | cvi k x=>simp only[E,AE.rd] at *;rwa [<-Au h]
 | cvs x=>simp only[E,AE.rd] at *;rwa [<-Au h]
 | fld x off n ag=>simp only[E,AE.rd] at *;rwa [<-Au h]
 | faddr x off=>simp only[E,AE.rd] at *;rwa [<-Au h]
 | load x n ag=>simp only[E,AE.rd] at *;rwa [<-Au h]
 | box x=>simp only[E,AE.rd] at *;rwa [<-Au h]
 | lenS x=>simp only[E,AE.rd] at *;rwa [<-Au h]
 | lenL x=>simp only[E,AE.rd] at *;rwa [<-Au h]
 | btos x=>simp only[E,AE.rd] at *;rwa [<-Au h]
 | callw g xs=>exact False.elim he
 | ext x k=>simp only[E,AE.rd] at *;rwa [<-Au h]
 | nilck x=>simp only[E,AE.rd] at *;rwa [<-Au h]
 | alloc z=>exact he
 | pick c x y=>
  simp only[E,AE.rd,Aio] at *
  rwa [<-Au (x:=c) fun s hs=>h s (.inl (.inl hs)),<-Au (x:=x) fun s hs=>h s (.inl (.inr hs)),<-Au (x:=y) fun s hs=>h s (.inr hs)]
 | bin op x y=>
  simp only[E,AE.rd,Aio] at *
  rwa [<-Au (x:=x) fun s hs=>h s (.inl hs),<-Au (x:=y) fun s hs=>h s (.inr hs)]
 | eqb op x y=>
  simp only[E,AE.rd,Aio] at *
  rwa [<-Au (x:=x) fun s hs=>h s (.inl hs),<-Au (x:=y) fun s hs=>h s (.inr hs)]
 | eqr op x y=>
  simp only[E,AE.rd,Aio] at *
  rwa [<-Au (x:=x) fun s hs=>h s (.inl hs),<-Au (x:=y) fun s hs=>h s (.inr hs)]
 | iaddr x y e sz=>
  simp only[E,AE.rd,Aio] at *
  rwa [<-Au (x:=x) fun s hs=>h s (.inl hs),<-Au (x:=y) fun s hs=>h s (.inr hs)]
 | idx x y=>
  simp only[E,AE.rd,Aio] at *
  rwa [<-Au (x:=x) fun s hs=>h s (.inl hs),<-Au (x:=y) fun s hs=>h s (.inr hs)]
 | store x y n=>
  simp only[E,AE.rd,Aio] at *
  rwa [<-Au (x:=x) fun s hs=>h s (.inl hs),<-Au (x:=y) fun s hs=>h s (.inr hs)]
 | app x y e sz=>
  simp only[E,AE.rd,Aio] at *
  rwa [<-Au (x:=x) fun s hs=>h s (.inl hs),<-Au (x:=y) fun s hs=>h s (.inr hs)]
 | apps x y e=>
  simp only[E,AE.rd,Aio] at *
  rwa [<-Au (x:=x) fun s hs=>h s (.inl hs),<-Au (x:=y) fun s hs=>h s (.inr hs)]
 | mksl x y z e sz=>
  simp only[E,AE.rd,Aio] at *
  rwa [<-Au (x:=x) fun s hs=>h s (.inl hs),<-Au (x:=y) fun s hs=>h s (.inr hs)]
 | build z ps=>
  simp only[E,AE.rd] at *
  have hp:∀p∈ps,ev g p.2.2=ev g' p.2.2:=fun p hp=>Au fun s hs=>h s (Aty.2 ⟨p,hp,hs⟩)
  obtain⟨h1,⟨cs,h2,h3⟩,h4⟩:=he
  refine⟨fun p hm=>by grind,⟨cs,?_,h3⟩,h4⟩
  rw[<-h2]
  congr 1
  exact As6 fun p hm=>by rw[hp p hm]
 | msl own e sz xs=>simp only[E,AE.rd] at *;rwa [<-B7 h]
 | slS x lo hi=>
  simp only[E,AE.rd,Aio] at *
  obtain⟨l,a,b,h1,h2,h3,r⟩:=he
  exact⟨l,a,b,by rw[<-Au fun s hs=>h s (.inl (.inl hs))];exact h1,by rw[<-FO fun s hs=>h s (.inl (.inr hs))];exact h2,by rw[<-FO fun s hs=>h s (.inr hs)];exact h3,r⟩
 | slL x lo hi sz=>
  simp only[E,AE.rd,Aio] at *
  obtain⟨l,a,b,h1,h2,h3,r⟩:=he
  exact⟨l,a,b,by rw[<-Au fun s hs=>h s (.inl (.inl hs))];exact h1,by rw[<-FO fun s hs=>h s (.inl (.inr hs))];exact h2,by rw[<-FO fun s hs=>h s (.inr hs)];exact h3,r⟩
 | slT x hi sz=>
  simp only[E,AE.rd,Aio] at *
  obtain⟨dd,id,e,es,q,h1,h2,h3,h4,r⟩:=he
  exact⟨dd,id,e,es,q,h1,by rw[<-Au fun s hs=>h s (.inl hs)];exact h2,h3,by rw[<-FO (x:=some hi) fun s hs=>h s (.inr hs)];exact h4,r⟩
 | call f xs=>simp only[E,AE.rd] at *;rwa [<-B7 h]
 | calls f xs=>simp only[E,AE.rd] at *;rwa [<-B7 h]
 | callr f xs=>simp only[E,AE.rd] at *;rwa [<-B7 h]
 | calln f xs=>simp only[E,AE.rd] at *;rwa [<-B7 h]
 | callv k xs=>
  simp only[E,AE.rd,Aio] at *
  rwa [<-Au (x:=k) fun s hs=>h s (.inl hs),<-B7 (xs:=xs) fun s hs=>h s (.inr hs)]
 | callvs k xs=>
  simp only[E,AE.rd,Aio] at *
  rwa [<-Au (x:=k) fun s hs=>h s (.inl hs),<-B7 (xs:=xs) fun s hs=>h s (.inr hs)]
 | mkfn f xs ys=>
  simp only[E,AE.rd,Aio] at *
  rwa [<-B7 (xs:=xs) fun s hs=>h s (.inl hs),<-B7 (xs:=ys) fun s hs=>h s (.inr hs)]
 | mx lo x xs=>
  simp only[E,AE.rd,Aio] at *
  rwa [<-Au (x:=x) fun s hs=>h s (.inl hs),<-B7 (xs:=xs) fun s hs=>h s (.inr hs)]
 | pu k xs=>simp only[E,AE.rd] at *;rwa [<-B7 h]
 | frz m k=>simp only[E,AE.rd] at *;rwa [<-Au h]
 | mrange m=>simp only[E,AE.rd] at *;rwa [<-Au h]
 | mentry m=>simp only[E,AE.rd] at *;rwa [<-Au h]
 | mkm k xs=>simp only[E,AE.rd] at *;rwa [<-B7 h]
 | rdm k x xs=>
  simp only[E,AE.rd,Aio] at *
  rwa [<-Au (x:=x) fun s hs=>h s (.inl hs),<-B7 (xs:=xs) fun s hs=>h s (.inr hs)]
 | wrm k x xs=>
  simp only[E,AE.rd,Aio] at *
  rwa [<-Au (x:=x) fun s hs=>h s (.inl hs),<-B7 (xs:=xs) fun s hs=>h s (.inr hs)]
theorem Eq{d:Option Nat}{op:AE}{g:Nat->V}{σ σ':Ak}{v:V}(hw:op.sw=false)(he:E P W0 ep d op g σ v σ'):σ'=σ:=by
 cases op<;>simp only[AE.sw] at hw<;>try (cases hw;done)
 case pick=>obtain⟨_,_,_,h⟩:=he;exact h
 case eqb=>obtain⟨_,_,_,_,_,h⟩:=he;exact h
 case not=>obtain⟨_,_,_,h⟩:=he;exact h
 case neg=>obtain⟨_,_,_,_,h⟩:=he;exact h
 case cvi=>obtain⟨_,_,_,_,h⟩:=he;exact h
 case cvs=>obtain⟨_,_,_,h⟩:=he;exact h
 case fld=>exact he.2.2
 case idx=>obtain⟨_,_,_,_,_,_,_,_,_,h⟩:=he;exact h
 case build=>exact he.2.2
 case msl=>
  subst hw
  simp only[E,AcL,if_false] at he
  exact he.2.2
 case slS=>obtain⟨_,_,_,_,_,_,_,_,_,h⟩:=he;exact h
 case slL=>obtain⟨_,_,_,_,_,_,_,_,_,_,h⟩:=he;exact h
 case lenS=>obtain⟨_,_,_,h⟩:=he;exact h
 case lenL=>obtain⟨_,_,_,h⟩:=he;exact h
 case btos=>obtain⟨_,_,_,h⟩:=he;exact h
 case ext=>obtain⟨_,_,_,h⟩:=he;exact h
 case callv=>obtain⟨_,_,_,_,_,h⟩:=he;exact h
 case nilck=>exact he.2.2
 all_goals exact he.2
theorem QX{d:Option Nat}{op:AE}{g:Nat->V}{σ τ:Ak}{v:V}(hw:op.sw=false)(hr:op.sr=false)(he:E P W0 ep d op g σ v σ):E P W0 ep d op g τ v τ:=by
 cases op<;>simp only[AE.sw,AE.sr] at hw hr<;>(try (cases hw;done))<;>(try (cases hr;done))
 case pick=>obtain⟨a,b,c,_⟩:=he;exact⟨a,b,c,rfl⟩
 case eqb=>obtain⟨a,b,c,d,e,_⟩:=he;exact⟨a,b,c,d,e,rfl⟩
 case not=>obtain⟨a,b,c,_⟩:=he;exact⟨a,b,c,rfl⟩
 case neg=>obtain⟨a,b,c,d,_⟩:=he;exact⟨a,b,c,d,rfl⟩
 case cvi=>obtain⟨a,b,c,d,_⟩:=he;exact⟨a,b,c,d,rfl⟩
 case cvs=>obtain⟨a,b,c,_⟩:=he;exact⟨a,b,c,rfl⟩
 case fld=>exact⟨he.1,he.2.1,rfl⟩
 case idx=>obtain⟨a,b,c,d,e,f,g,h,i,_⟩:=he;exact⟨a,b,c,d,e,f,g,h,i,rfl⟩
 case build=>exact⟨he.1,he.2.1,rfl⟩
 case msl=>
  subst hw
  simp only[E,AcL,if_false] at he⊢
  grind
 case slS=>obtain⟨a,b,c,d,e,f,g,h,i,_⟩:=he;exact⟨a,b,c,d,e,f,g,h,i,rfl⟩
 case slL=>obtain⟨a,b,c,d,e,f,g,h,i,j,_⟩:=he;exact⟨a,b,c,d,e,f,g,h,i,j,rfl⟩
 case lenS=>obtain⟨a,b,c,_⟩:=he;exact⟨a,b,c,rfl⟩
 case ext=>obtain⟨a,b,c,_⟩:=he;exact⟨a,b,c,rfl⟩
 case callv=>obtain⟨a,b,c,d,e,_⟩:=he;exact⟨a,b,c,d,e,rfl⟩
 case nilck=>exact⟨he.1,he.2.1,rfl⟩
 all_goals exact⟨he.1,rfl⟩
theorem AaL{op:AE}{s:Nat}(h:X.t s∈op.cs):s∈op.rd:=by
 cases op<;>simp only[AE.cs,Ao9,Asm,or_false] at h<;>(try (exact h.elim))<;>simp only[AE.rd,Aio]
 case load=>subst h;simp[Ht]
 case lenL=>subst h;simp[Ht]
 case btos=>subst h;simp[Ht]
 case iaddr=>subst h;simp[Ht]
 case store=>subst h;simp[Ht]
 case app=>rcases h with h|h<;>subst h<;>simp[Ht]
 case apps=>subst h;simp[Ht]
 case slT=>subst h;simp[Ht]
 case rdm=>subst h;simp[Ht]
 case wrm=>subst h;simp[Ht]
 case frz=>subst h;simp[Ht]
 case mrange=>subst h;simp[Ht]
 case mentry=>subst h;simp[Ht]
def C3(P:Program)(W0:World)(ep:Nat)(i:I)(g:Nat->V)(σ:Ak)(v:V)(σ':Ak):Prop:=
 match i.gd with
 | none=>EA P W0 ep i g σ v σ'
 | some (s,want)=>
  match g s with
  | .b t=>if t=want then EA P W0 ep i g σ v σ' else v=.tup []/\σ'=σ
  | .tup []=>v=.tup []/\σ'=σ
  | _=>False
theorem Cf{i:I}{env:AD}{σ:Ak}{K:AD->Ak->Prop}:Cp P W0 ep i env σ K↔∃v σ',C3 P W0 ep i (get env) σ v σ'/\K (put env i.dst v) σ':=by
 unfold Cp C3
 cases i.gd with
 | none=>exact Iff.rfl
 | some sw=>
  grind
theorem Qr{i:I}{g g':Nat->V}{σ σ':Ak}{v:V}(h:∀s∈i.op.rd,g s=g' s)(h2:∀s∈IY i.ap,g s=g' s)(he:EA P W0 ep i g σ v σ'):EA P W0 ep i g' σ v σ':=by
 refine⟨tL h he.1,fun x hx y hy id h3=>?_,fun hc x hx id h3=>?_⟩
 rotate_left
 ·have ex:ev g x=ev g' x:=Au fun s hs=>h2 s (Aty.2 ⟨x,hx,hs⟩)
  exact he.2.2 hc x hx id (by rw[ex];exact h3)
 have ex:ev g x=ev g' x:=Au fun s hs=>h2 s (Aty.2 ⟨x,hx,hs⟩)
 have ey:ev g y=ev g' y:=Au fun s hs=>h s (by
  cases y with
  | c v=>simp[Ht] at hs
  | t k=>simp only[Ht,AsB] at hs;subst hs;exact AaL hy)
 rw[<-ey]
 exact he.2.1 x hx y hy id (by rw[ex];exact h3)
theorem GJ{i:I}{g g':Nat->V}{σ σ':Ak}{v:V}(h:∀s∈i.rd,g s=g' s)(he:C3 P W0 ep i g σ v σ'):C3 P W0 ep i g' σ v σ':=by
 unfold C3 at *
 unfold I.rd I.rd0 at h
 cases hg:i.gd with
 | none=>simp only[hg,Aou,Aio] at *;exact Qr (fun s hs=>h s (.inl hs)) (fun s hs=>h s (.inr hs)) he
 | some sw=>
  obtain⟨s,want⟩:=sw
  simp only[hg,Aio,AsB] at *
  have hE:∀{v σ'},EA P W0 ep i g σ v σ'->EA P W0 ep i g' σ v σ':=fun he=>Qr (fun s hs=>h s (.inl (.inl hs))) (fun s hs=>h s (.inr hs)) he
  grind
theorem G8{i:I}{g:Nat->V}{σ σ':Ak}{v:V}(hw:i.op.sw=false)(he:C3 P W0 ep i g σ v σ'):σ'=σ:=by
 unfold C3 at he
 split at he
 ·exact Eq hw he.1
 ·split at he
  ·split at he
   ·exact Eq hw he.1
   ·exact he.2
  ·exact he.2
  ·exact he.elim
theorem bR{op:AE}(hw:op.sw=false)(hr:op.sr=false):op.cl=false:=by
 cases op<;>simp only[AE.sw,AE.sr] at hw hr<;>(try (cases hw;done))<;>(try (cases hr;done))<;>rfl
theorem CE{i:I}{g:Nat->V}{σ σ':Ak}(h:i.op.cl=false):Jy i g σ σ':=fun hc=>by grind
theorem NC{i:I}{g:Nat->V}{σ τ:Ak}{v:V}(hw:i.op.sw=false)(hr:i.op.sr=false)(he:C3 P W0 ep i g σ v σ):C3 P W0 ep i g τ v τ:=by
 unfold C3 at *
 split at he
 ·exact⟨QX hw hr he.1,he.2.1,CE (bR hw hr)⟩
 ·split at he
  ·split at he
   ·rename_i hs ht;simp only[if_pos ht];exact⟨QX hw hr he.1,he.2.1,CE (bR hw hr)⟩
   grind
  ·exact⟨he.1,rfl⟩
  ·exact he
def CQ(σ τ:Ak):Prop:=∀id,lk σ id=lk τ id
theorem CQ.refl(σ:Ak):CQ σ σ:=fun _=>rfl
theorem CQ.symm{σ τ:Ak}(h:CQ σ τ):CQ τ σ:=fun id=>(h id).symm
theorem CQ.trans{σ τ ρ:Ak}(h:CQ σ τ)(k:CQ τ ρ):CQ σ ρ:=fun id=>(h id).trans (k id)
theorem CQ.cons{σ τ:Ak}(h:CQ σ τ)(p:Id×AC):CQ (p::σ) (p::τ):=by
 intro id
 obtain⟨k,e⟩:=p
 simp only[lk,h id]
theorem CQ.upd{σ τ:Ak}(h:CQ σ τ){id:Id}{x:AC}(hl:lk σ id=some x)(e:AC):CQ (upd σ id e) (upd τ id e):=by
 intro k
 rw[Eh hl,Eh (by rw[<-h id];exact hl),h k]
theorem CQ.del{σ τ:Ak}(h:CQ σ τ)(id:Id):CQ (del σ id) (del τ id):=by
 intro k
 rw[C7,C7,h k]
theorem CQ.over{σi σo σ τ:Ak}(h:CQ σ τ):CQ (over σi σo σ) (over σi σo τ):=by
 intro k
 rw[FW,FW,h k]
theorem CQ.elems{σ τ:Ak}(h:CQ σ τ)(v:V):Az σ v=Az τ v:=by
 cases v<;>simp only[Az,h _]
theorem Be{σ:Ak}{p q:Id×AC}(h:p.1≠q.1):CQ (p::q::σ) (q::p::σ):=by
 intro id
 grind[lk]
theorem H7{σ:Ak}{p:Id×AC}{id:Id}{x e:AC}(hl:lk σ id=some x)(h:p.1≠id):CQ (upd (p::σ) id e) (p::upd σ id e):=by
 intro k
 obtain⟨k0,e0⟩:=p
 simp only[upd,if_neg h,lk]
theorem Fd{σ:Ak}{p:Id×AC}{id:Id}(h:p.1≠id):CQ (del (p::σ) id) (p::del σ id):=by
 intro k
 obtain⟨k0,e0⟩:=p
 simp only[del,if_neg h,lk]
theorem Is{σ:Ak}{p:Id×AC}{id:Id}(h:p.1≠id):lk (p::σ) id=lk σ id:=by
 grind[lk]
theorem Ako{d:Option Nat}{op:AE}{g:Nat->V}{σ σ' τ:Ak}{v:V}(hs:CQ σ τ)(he:E P W0 ep d op g σ v σ'):∃τ',E P W0 ep d op g τ v τ'/\CQ σ' τ':=by
 by_cases hw:op.sw=false
 ·have h0:=Eq hw he
  subst h0
  by_cases hr:op.sr=false
  ·exact⟨τ,QX hw hr he,hs⟩
  ·refine⟨τ,?_,hs⟩
   replace hr:op.sr=true:=by simpa using hr
   cases op<;>simp only[AE.sr] at hr<;>(try (cases hr;done))
   case iaddr x i e sz=>
    simp only[E] at he⊢
    refine⟨?_,by trivial⟩
    have h1:=he.1
    split at h1
    ·rename_i k n hk
     refine⟨h1.1,?_⟩
     have h2:=h1.2
     split at h2
     ·omega
     ·rename_i hx;(try simp only[hx]);obtain⟨a,b,c,r⟩:=h2;exact⟨a,b,by rw[<-hs];exact c,r⟩
     ·exact h2.elim
    ·exact h1.elim
   case load x n ag=>
    simp only[E] at he⊢
    refine⟨?_,by trivial⟩
    have h1:=he.1
    split at h1
    ·rename_i hx;(try simp only[hx]);obtain⟨a,b,r⟩:=h1;exact⟨a,by rw[<-hs];exact b,r⟩
    ·rename_i hx;(try simp only[hx]);obtain⟨a,b,c,e,r⟩:=h1;exact⟨a,b,c,by rw[<-hs];exact e,r⟩
    ·omega
    ·exact h1.elim
   case lenL x=>
    simp only[E] at he⊢
    obtain⟨es,h1,h2,_⟩:=he
    exact⟨es,by rw[<-hs.elems];exact h1,h2,by trivial⟩
   case btos x=>
    simp only[E] at he⊢
    obtain⟨es,h1,h2,_⟩:=he
    exact⟨es,by rw[<-hs.elems];exact h1,h2,by trivial⟩
   case rdm k m xs=>
    simp only[E] at he⊢
    obtain⟨⟨id,e,h1,h2,h3⟩,_⟩:=he
    exact⟨⟨id,e,h1,by rw[<-hs];exact h2,h3⟩,by trivial⟩
   case callr f args=>
    simp only[E] at he⊢
    obtain⟨⟨σi,h1,h2⟩,_⟩:=he
    exact⟨⟨σi,h1,fun id e h=>by rw[<-hs];exact h2 id e h⟩,by trivial⟩
   case eqr ne x y=>
    simp only[E] at he⊢
    have hq:QA τ (ev g x) (ev g y)=QA σ' (ev g x) (ev g y):=by unfold QA;split<;>first|rfl|(rw[hs,hs])
    grind
 ·replace hw:op.sw=true:=by simpa using hw
  cases op<;>simp only[AE.sw] at hw<;>(try (cases hw;done))
  case callw g xs=>exact False.elim he
  case store a x n=>
   simp only[E] at he⊢
   obtain⟨h1,h2,h3⟩:=he
   split at h3
   ·rename_i id off hx
    obtain⟨u,u',a1,a2,rfl⟩:=h3
    exact⟨_,⟨h1,h2,by(try simp only[hx]);exact⟨u,u',by rw[<-hs];exact a1,a2,rfl⟩⟩,hs.upd a1 _⟩
   ·rename_i id ix sz off hx
    obtain⟨e,es,el,el',a1,a2,a3,rfl⟩:=h3
    exact⟨_,⟨h1,h2,by(try simp only[hx]);exact⟨e,es,el,el',by rw[<-hs];exact a1,a2,a3,rfl⟩⟩,hs.upd a1 _⟩
   ·exact h3.elim
  case box x=>obtain⟨dd,h1,h2,h3,rfl⟩:=he;exact⟨_,⟨dd,h1,h2,h3,rfl⟩,hs.cons _⟩
  case alloc z=>obtain⟨dd,h1,h2,rfl⟩:=he;exact⟨_,⟨dd,h1,h2,rfl⟩,hs.cons _⟩
  case msl own e sz xs=>
   cases own with
   | false=>cases hw
   | true=>
    simp only[E,if_true] at he⊢
    obtain⟨h1,dd,h2,h3,rfl⟩:=he
    exact⟨_,⟨h1,dd,h2,h3,rfl⟩,hs.cons _⟩
  case app s x e sz=>
   simp only[E] at he⊢
   obtain⟨dd,xs,h1,h2,h3,h4,h5⟩:=he
   split at h5
   ·rename_i hx
    obtain⟨a1,rfl⟩:=h5
    exact⟨_,⟨dd,xs,h1,by rw[<-hs.elems];exact h2,h3,h4,by grind⟩,hs.cons _⟩
   ·rename_i id hx
    obtain⟨es,a1,a2,rfl⟩:=h5
    exact⟨_,⟨dd,xs,h1,by rw[<-hs.elems];exact h2,h3,h4,by(try simp only[hx]);exact⟨es,by rw[<-hs];exact a1,a2,rfl⟩⟩,(hs.del id).cons _⟩
   ·exact h5.elim
  case slT x hi sz=>obtain⟨dd,id,e,es,q,h1,h2,h3,h4,h5,h6,rfl⟩:=he;exact⟨_,⟨dd,id,e,es,q,h1,h2,by rw[<-hs];exact h3,h4,h5,h6,rfl⟩,(hs.del id).cons _⟩
  case apps s x e=>
   simp only[E] at he⊢
   obtain⟨dd,l,h1,h2,h4,h5⟩:=he
   split at h5
   ·rename_i hx
    obtain⟨a1,rfl⟩:=h5
    exact⟨_,⟨dd,l,h1,h2,h4,by grind⟩,hs.cons _⟩
   ·rename_i id hx
    obtain⟨es,a1,a2,rfl⟩:=h5
    exact⟨_,⟨dd,l,h1,h2,h4,by(try simp only[hx]);exact⟨es,by rw[<-hs];exact a1,a2,rfl⟩⟩,(hs.del id).cons _⟩
   ·exact h5.elim
  case calls f args=>obtain⟨σi,σo,h1,h2,rfl⟩:=he;exact⟨_,⟨σi,σo,h1,fun id e h=>by rw[<-hs];exact h2 id e h,rfl⟩,hs.over⟩
  case calln f args=>obtain⟨dd,σi,σo,x,h0,h1,h2,h3,rfl⟩:=he;exact⟨_,⟨dd,σi,σo,x,h0,h1,fun id e h=>by rw[<-hs];exact h2 id e h,h3,rfl⟩,hs.over.cons _⟩
  case callvs k args=>obtain⟨f,first,caps,σi,σo,h0,h1,h2,rfl⟩:=he;exact⟨_,⟨f,first,caps,σi,σo,h0,h1,fun id e h=>by rw[<-hs];exact h2 id e h,rfl⟩,hs.over⟩
  case mksl l c z e sz=>obtain⟨dd,k,k',n,m,h1,h2,h3,h4,h5,h6,rfl⟩:=he;exact⟨_,⟨dd,k,k',n,m,h1,h2,h3,h4,h5,h6,rfl⟩,hs.cons _⟩
  case wrm k m xs=>obtain⟨id,e,e',h1,h2,h3,rfl⟩:=he;exact⟨_,⟨id,e,e',h1,by rw[<-hs];exact h2,h3,rfl⟩,hs.upd h2 _⟩
  case mkm k xs=>obtain⟨dd,e,h1,h2,h3,rfl⟩:=he;exact⟨_,⟨dd,e,h1,h2,h3,rfl⟩,hs.cons _⟩
  case frz m k=>obtain⟨id,cs,h1,h2,h3,h4,h5,rfl⟩:=he;exact⟨_,⟨id,cs,h1,by rw[<-hs];exact h2,h3,h4,h5,rfl⟩,hs.del id⟩
  case mrange m=>obtain⟨dd,mid,es,h1,h2,h3,h4,rfl⟩:=he;exact⟨_,⟨dd,mid,es,h1,h2,by rw[<-hs];exact h3,h4,rfl⟩,hs.cons _⟩
  case mentry m=>obtain⟨id,mid,since,seen,i,es,kv,h1,h2,h3,h4,h5,h6,rfl⟩:=he;exact⟨_,⟨id,mid,since,seen,i,es,kv,h1,by rw[<-hs];exact h2,h3,by rw[<-hs];exact h4,h5,h6,rfl⟩,hs⟩
theorem Anp{d:Option Nat}{op:AE}{g:Nat->V}{σ σ':Ak}{v:V}{id0:Id}{e0:AC}(hcl:op.cl=false)(hf:lk σ id0=none)(hne:∀dd,d=some dd->id0≠(ep,dd))(he:E P W0 ep d op g σ v σ') :
  ∃τ',E P W0 ep d op g ((id0,e0)::σ) v τ'/\CQ τ' ((id0,e0)::σ'):=by
 have up:∀{id x},lk σ id=some x->lk ((id0,e0)::σ) id=some x:=by
  grind[lk]
 have el:∀{w es},Az σ w=some es->Az ((id0,e0)::σ) w=some es:=by
  intro w es h
  cases w<;>simp only[Az] at h⊢<;>try exact h
  grind
 by_cases hw:op.sw=false
 ·have h0:=Eq hw he
  subst h0
  by_cases hr:op.sr=false
  ·exact⟨_,QX hw hr he,CQ.refl _⟩
  ·refine⟨_,?_,CQ.refl _⟩
   replace hr:op.sr=true:=by simpa using hr
   cases op<;>simp only[AE.sr] at hr<;>(try (cases hr;done))
   case iaddr x i e sz=>
    simp only[E] at he⊢
    refine⟨?_,by trivial⟩
    have h1:=he.1
    split at h1
    ·grind
    ·exact h1.elim
   case load x n ag=>
    simp only[E] at he⊢
    refine⟨?_,by trivial⟩
    have h1:=he.1
    split at h1
    ·grind
    ·grind
    ·omega
    ·exact h1.elim
   case lenL x=>
    simp only[E] at he⊢
    grind
   case btos x=>
    simp only[E] at he⊢
    grind
   case rdm k m xs=>
    simp only[E] at he⊢
    grind
   case callr f args=>simp[AE.cl] at hcl
   case eqr ne x y=>simp[AE.cl] at hcl
 ·replace hw:op.sw=true:=by simpa using hw
  cases op<;>simp only[AE.sw] at hw<;>(try (cases hw;done))<;>simp only[AE.cl] at hcl<;>(try (cases hcl;done))
  case callw g xs=>exact False.elim he
  case store a x n=>
   simp only[E] at he⊢
   obtain⟨h1,h2,h3⟩:=he
   split at h3
   ·rename_i id off hx
    obtain⟨u,u',a1,a2,rfl⟩:=h3
    exact⟨_,⟨h1,h2,by grind⟩,H7 a1 (by grind)⟩
   ·rename_i id ix sz off hx
    obtain⟨e,es,el,el',a1,a2,a3,rfl⟩:=h3
    exact⟨_,⟨h1,h2,by grind⟩,H7 a1 (by grind)⟩
   ·exact h3.elim
  case box x=>obtain⟨dd,h1,h2,h3,rfl⟩:=he;exact⟨_,⟨dd,h1,h2,h3,rfl⟩,Be (fun h=>hne dd h1 h.symm)⟩
  case alloc z=>obtain⟨dd,h1,h2,rfl⟩:=he;exact⟨_,⟨dd,h1,h2,rfl⟩,Be (fun h=>hne dd h1 h.symm)⟩
  case msl own e sz xs=>
   cases own with
   | false=>cases hw
   | true=>
    simp only[E,if_true] at he⊢
    obtain⟨h1,dd,h2,h3,rfl⟩:=he
    exact⟨_,⟨h1,dd,h2,h3,rfl⟩,Be (fun h=>hne dd h2 h.symm)⟩
  case app s x e sz=>
   simp only[E] at he⊢
   obtain⟨dd,xs,h1,h2,h3,h4,h5⟩:=he
   split at h5
   ·rename_i hx
    obtain⟨a1,rfl⟩:=h5
    exact⟨_,⟨dd,xs,h1,el h2,h3,h4,by grind⟩,Be (fun h=>hne dd h1 h.symm)⟩
   ·rename_i id hx
    obtain⟨es,a1,a2,rfl⟩:=h5
    refine⟨_,⟨dd,xs,h1,el h2,h3,h4,by(try simp only[hx]);exact⟨es,up a1,a2,rfl⟩⟩,?_⟩
    exact((Fd (by grind)).cons _).trans (Be (fun h=>hne dd h1 h.symm))
   ·exact h5.elim
  case slT x hi sz=>obtain⟨dd,id,e,es,q,h1,h2,h3,h4,h5,h6,rfl⟩:=he;exact⟨_,⟨dd,id,e,es,q,h1,h2,up h3,h4,h5,h6,rfl⟩,((Fd (by grind)).cons _).trans (Be (fun h=>hne dd h1 h.symm))⟩
  case apps s x e=>
   simp only[E] at he⊢
   obtain⟨dd,l,h1,h2,h4,h5⟩:=he
   split at h5
   ·rename_i hx
    obtain⟨a1,rfl⟩:=h5
    exact⟨_,⟨dd,l,h1,h2,h4,by grind⟩,Be (fun h=>hne dd h1 h.symm)⟩
   ·rename_i id hx
    obtain⟨es,a1,a2,rfl⟩:=h5
    refine⟨_,⟨dd,l,h1,h2,h4,by(try simp only[hx]);exact⟨es,up a1,a2,rfl⟩⟩,?_⟩
    exact((Fd (by grind)).cons _).trans (Be (fun h=>hne dd h1 h.symm))
   ·exact h5.elim
  case mksl l c z e sz=>obtain⟨dd,k,k',n,m,h1,h2,h3,h4,h5,h6,rfl⟩:=he;exact⟨_,⟨dd,k,k',n,m,h1,h2,h3,h4,h5,h6,rfl⟩,Be (fun h=>hne dd h1 h.symm)⟩
  case wrm k m xs=>obtain⟨id,e,e',h1,h2,h3,rfl⟩:=he;exact⟨_,⟨id,e,e',h1,up h2,h3,rfl⟩,H7 h2 (by grind)⟩
  case frz m k=>obtain⟨id,cs,h1,h2,h3,h4,h5,rfl⟩:=he;exact⟨_,⟨id,cs,h1,up h2,h3,h4,h5,rfl⟩,Fd (by grind)⟩
  case mrange m=>obtain⟨dd,mid,es,h1,h2,h3,h4,rfl⟩:=he;exact⟨_,⟨dd,mid,es,h1,h2,up h3,h4,rfl⟩,Be (fun h=>hne dd h1 h.symm)⟩
  case mkm k xs=>obtain⟨dd,e,h1,h2,h3,rfl⟩:=he;exact⟨_,⟨dd,e,h1,h2,h3,rfl⟩,Be (fun h=>hne dd h1 h.symm)⟩
theorem Al6{d:Option Nat}{op:AE}{g:Nat->V}{σ τ':Ak}{v:V}{id0:Id}{e0:AC}(hcl:op.cl=false)(hf:lk σ id0=none)(hav:∀x∈op.cs,BU (ev g x)≠some id0)(hne:∀dd,d=some dd->id0≠(ep,dd))(he:E P W0 ep d op g ((id0,e0)::σ) v τ') :
  ∃σ',E P W0 ep d op g σ v σ'/\CQ τ' ((id0,e0)::σ'):=by
 have dn:∀{id x},id≠id0->lk ((id0,e0)::σ) id=some x->lk σ id=some x:=by
  grind[lk]
 have el:∀{w es},BU w≠some id0->Az ((id0,e0)::σ) w=some es->Az σ w=some es:=by
  intro w es hn h
  cases w<;>simp only[Az] at h⊢<;>try exact h
  rename_i id
  split at h
  ·rename_i hl;rw[dn (by rintro rfl;exact hn rfl) hl];exact h
  ·cases h
 by_cases hw:op.sw=false
 ·have h0:=Eq hw he
  subst h0
  by_cases hr:op.sr=false
  ·exact⟨_,QX hw hr he,CQ.refl _⟩
  ·refine⟨_,?_,CQ.refl _⟩
   replace hr:op.sr=true:=by simpa using hr
   cases op<;>simp only[AE.sr] at hr<;>(try (cases hr;done))
   case iaddr x i e sz=>
    simp only[E] at he⊢
    have hx0:=hav x (by simp[AE.cs])
    refine⟨?_,by trivial⟩
    have h1:=he.1
    split at h1
    ·rename_i k n hk
     refine⟨h1.1,?_⟩
     have h2:=h1.2
     split at h2
     ·omega
     ·rename_i hx
      simp only[hx] at hx0
      obtain⟨a,b,c,r⟩:=h2
      exact⟨a,b,dn (by rintro rfl;exact hx0 rfl) c,r⟩
     ·exact h2.elim
    ·exact h1.elim
   case load x n ag=>
    simp only[E] at he⊢
    have hx0:=hav x (by simp[AE.cs])
    refine⟨?_,by trivial⟩
    have h1:=he.1
    split at h1
    ·rename_i hx
     simp only[hx] at hx0
     obtain⟨a,b,r⟩:=h1
     exact⟨a,dn (by rintro rfl;exact hx0 rfl) b,r⟩
    ·rename_i hx
     simp only[hx] at hx0
     obtain⟨a,b,c,e,r⟩:=h1
     exact⟨a,b,c,dn (by rintro rfl;exact hx0 rfl) e,r⟩
    ·omega
    ·exact h1.elim
   case lenL x=>
    simp only[E] at he⊢
    have hx0:=hav x (by simp[AE.cs])
    grind
   case btos x=>
    simp only[E] at he⊢
    have hx0:=hav x (by simp[AE.cs])
    grind
   case rdm k m xs=>
    simp only[E] at he⊢
    have hx0:=hav m (by simp[AE.cs])
    obtain⟨⟨id,e,h1,h2,h3⟩,_⟩:=he
    rw[h1] at hx0
    exact⟨⟨id,e,h1,dn (by rintro rfl;exact hx0 rfl) h2,h3⟩,by trivial⟩
   case callr f args=>simp[AE.cl] at hcl
   case eqr ne x y=>simp[AE.cl] at hcl
 ·replace hw:op.sw=true:=by simpa using hw
  cases op<;>simp only[AE.sw] at hw<;>(try (cases hw;done))<;>simp only[AE.cl] at hcl<;>(try (cases hcl;done))
  case callw g xs=>exact False.elim he
  case store a x n=>
   simp only[E] at he⊢
   have hx0:=hav a (by simp[AE.cs])
   obtain⟨h1,h2,h3⟩:=he
   split at h3
   ·rename_i id off hx
    simp only[hx] at hx0
    obtain⟨u,u',a1,a2,rfl⟩:=h3
    have hn:id≠id0:=by rintro rfl;exact hx0 rfl
    exact⟨_,⟨h1,h2,by grind⟩,H7 (dn hn a1) (fun h=>hn h.symm)⟩
   ·rename_i id ix sz off hx
    simp only[hx] at hx0
    obtain⟨e,es,el,el',a1,a2,a3,rfl⟩:=h3
    have hn:id≠id0:=by rintro rfl;exact hx0 rfl
    exact⟨_,⟨h1,h2,by grind⟩,H7 (dn hn a1) (fun h=>hn h.symm)⟩
   ·exact h3.elim
  case box x=>obtain⟨dd,h1,h2,h3,rfl⟩:=he;exact⟨_,⟨dd,h1,h2,h3,rfl⟩,Be (fun h=>hne dd h1 h.symm)⟩
  case alloc z=>obtain⟨dd,h1,h2,rfl⟩:=he;exact⟨_,⟨dd,h1,h2,rfl⟩,Be (fun h=>hne dd h1 h.symm)⟩
  case msl own e sz xs=>
   cases own with
   | false=>cases hw
   | true=>
    simp only[E,if_true] at he⊢
    obtain⟨h1,dd,h2,h3,rfl⟩:=he
    exact⟨_,⟨h1,dd,h2,h3,rfl⟩,Be (fun h=>hne dd h2 h.symm)⟩
  case app s x e sz=>
   simp only[E] at he⊢
   have hs0:=hav s (by simp[AE.cs])
   have hx0:=hav x (by simp[AE.cs])
   obtain⟨dd,xs,h1,h2,h3,h4,h5⟩:=he
   split at h5
   ·rename_i hx
    obtain⟨a1,rfl⟩:=h5
    exact⟨_,⟨dd,xs,h1,el hx0 h2,h3,h4,by grind⟩,Be (fun h=>hne dd h1 h.symm)⟩
   ·rename_i id hx
    simp only[hx] at hs0
    have hn:id≠id0:=by rintro rfl;exact hs0 rfl
    obtain⟨es,a1,a2,rfl⟩:=h5
    refine⟨_,⟨dd,xs,h1,el hx0 h2,h3,h4,by(try simp only[hx]);exact⟨es,dn hn a1,a2,rfl⟩⟩,?_⟩
    exact((Fd (fun h=>hn h.symm)).cons _).trans (Be (fun h=>hne dd h1 h.symm))
   ·exact h5.elim
  case slT x hi sz=>
   have hx0:=hav x (by simp[AE.cs])
   obtain⟨dd,id,e,es,q,h1,h2,h3,h4,h5,h6,rfl⟩:=he
   rw[h2] at hx0
   have hn:id≠id0:=by rintro rfl;exact hx0 rfl
   exact⟨_,⟨dd,id,e,es,q,h1,h2,dn hn h3,h4,h5,h6,rfl⟩,((Fd (fun h=>hn h.symm)).cons _).trans (Be (fun h=>hne dd h1 h.symm))⟩
  case apps s x e=>
   simp only[E] at he⊢
   have hs0:=hav s (by simp[AE.cs])
   obtain⟨dd,l,h1,h2,h4,h5⟩:=he
   split at h5
   ·rename_i hx
    obtain⟨a1,rfl⟩:=h5
    exact⟨_,⟨dd,l,h1,h2,h4,by grind⟩,Be (fun h=>hne dd h1 h.symm)⟩
   ·rename_i id hx
    simp only[hx] at hs0
    have hn:id≠id0:=by rintro rfl;exact hs0 rfl
    obtain⟨es,a1,a2,rfl⟩:=h5
    refine⟨_,⟨dd,l,h1,h2,h4,by(try simp only[hx]);exact⟨es,dn hn a1,a2,rfl⟩⟩,?_⟩
    exact((Fd (fun h=>hn h.symm)).cons _).trans (Be (fun h=>hne dd h1 h.symm))
   ·exact h5.elim
  case mksl l c z e sz=>obtain⟨dd,k,k',n,m,h1,h2,h3,h4,h5,h6,rfl⟩:=he;exact⟨_,⟨dd,k,k',n,m,h1,h2,h3,h4,h5,h6,rfl⟩,Be (fun h=>hne dd h1 h.symm)⟩
  case wrm k m xs=>
   have hx0:=hav m (by simp[AE.cs])
   obtain⟨id,e,e',h1,h2,h3,rfl⟩:=he
   rw[h1] at hx0
   have hn:id≠id0:=by rintro rfl;exact hx0 rfl
   exact⟨_,⟨id,e,e',h1,dn hn h2,h3,rfl⟩,H7 (dn hn h2) (fun h=>hn h.symm)⟩
  case frz m k=>
   have hx0:=hav m (by simp[AE.cs])
   obtain⟨id,cs,h1,h2,h3,h4,h5,rfl⟩:=he
   rw[h1] at hx0
   have hn:id≠id0:=by rintro rfl;exact hx0 rfl
   exact⟨_,⟨id,cs,h1,dn hn h2,h3,h4,h5,rfl⟩,Fd (fun h=>hn h.symm)⟩
  case mrange m=>
   have hx0:=hav m (by simp[AE.cs])
   obtain⟨dd,mid,es,h1,h2,h3,h4,rfl⟩:=he
   rw[h2] at hx0
   have hn:mid≠id0:=by rintro rfl;exact hx0 rfl
   exact⟨_,⟨dd,mid,es,h1,h2,dn hn h3,h4,rfl⟩,Be (fun h=>hne dd h1 h.symm)⟩
  case mkm k xs=>obtain⟨dd,e,h1,h2,h3,rfl⟩:=he;exact⟨_,⟨dd,e,h1,h2,h3,rfl⟩,Be (fun h=>hne dd h1 h.symm)⟩
theorem Nt{op:AE}(h:op.mk=true):op.cl=false:=by
 cases op<;>simp only[AE.mk] at h<;>(try (cases h;done))<;>rfl
theorem KH{d:Option Nat}{op:AE}{g:Nat->V}{σ σ':Ak}{v:V}(hm:op.mk=true)(he:E P W0 ep d op g σ v σ') :
  ∃dd e,d=some dd/\σ'=((ep,dd),e)::σ/\∀τ,E P W0 ep d op g τ v (((ep,dd),e)::τ):=by
 cases op<;>simp only[AE.mk] at hm<;>(try (cases hm;done))
 case box x=>obtain⟨dd,h1,h2,h3,rfl⟩:=he;exact⟨dd,_,h1,rfl,fun τ=>⟨dd,h1,h2,h3,rfl⟩⟩
 case alloc z=>obtain⟨dd,h1,h2,rfl⟩:=he;exact⟨dd,_,h1,rfl,fun τ=>⟨dd,h1,h2,rfl⟩⟩
 case msl own e sz xs=>
  subst hm
  simp only[E,if_true] at he⊢
  obtain⟨h1,dd,h2,h3,rfl⟩:=he
  simp_all
 case mksl l c z e sz=>obtain⟨dd,k,k',n,m,h1,h2,h3,h4,h5,h6,rfl⟩:=he;exact⟨dd,_,h1,rfl,fun τ=>⟨dd,k,k',n,m,h1,h2,h3,h4,h5,h6,rfl⟩⟩
 case mkm k xs=>obtain⟨dd,e,h1,h2,h3,rfl⟩:=he;exact⟨dd,_,h1,rfl,fun τ=>⟨dd,e,h1,h2,h3,rfl⟩⟩
theorem Gb{σi σo σ:Ak}{id:Id}(hs:∀id e,lk σi id=some e->lk σ id=some e)(hd:∀id,lk σo id≠none->lk σi id≠none)(h:lk σ id=none):lk (over σi σo σ) id=none:=by
 rw[FW]
 cases ho:lk σo id with
 | none=>grind
 | some x=>
  exfalso
  cases hi:lk σi id with
  | none=>grind
  | some y=>grind
theorem Aaa{d:Option Nat}{op:AE}{g:Nat->V}{σ σ':Ak}{v:V}{id:Id}(h:lk σ id=none)(hne:∀dd,d=some dd->id≠(ep,dd))(he:E P W0 ep d op g σ v σ'):lk σ' id=none:=by
 have cons:∀{dd:Nat} {e:AC} {τ:Ak},d=some dd->lk τ id=none->lk (((ep,dd),e)::τ) id=none:=by
  grind[lk]
 by_cases hw:op.sw=false
 ·rw[Eq hw he];exact h
 ·replace hw:op.sw=true:=by simpa using hw
  by_cases hm:op.mk=true
  ·obtain⟨dd,e,hd,rfl,_⟩:=KH hm he
   exact cons hd h
  ·cases op<;>simp only[AE.sw] at hw<;>(try (cases hw;done))<;>simp only[AE.mk] at hm<;>(try (exact absurd trivial hm))
   case callw g xs=>exact False.elim he
   case store a x n=>
    simp only[E] at he
    obtain⟨h1,h2,h3⟩:=he
    split at h3
    ·obtain⟨u,u',a1,a2,rfl⟩:=h3
     rw[Eh a1]
     grind
    ·obtain⟨e,es,el,el',a1,a2,a3,rfl⟩:=h3
     rw[Eh a1]
     grind
    ·exact h3.elim
   case msl own e sz xs=>subst hw;simp at hm
   case app s x e sz=>
    simp only[E] at he
    obtain⟨dd,xs,h1,h2,h3,h4,h5⟩:=he
    split at h5
    ·grind
    ·obtain⟨es,a1,a2,rfl⟩:=h5
     refine cons h1 ?_
     rw[C7]
     split<;>first|rfl|exact h
    ·exact h5.elim
   case slT x hi sz=>
    obtain⟨dd,id,e,es,q,h1,h2,h3,h4,h5,h6,rfl⟩:=he
    refine cons h1 ?_
    rw[C7]
    split<;>first|rfl|exact h
   case apps s x e=>
    simp only[E] at he
    obtain⟨dd,l,h1,h2,h4,h5⟩:=he
    split at h5
    ·grind
    ·obtain⟨es,a1,a2,rfl⟩:=h5
     refine cons h1 ?_
     rw[C7]
     split<;>first|rfl|exact h
    ·exact h5.elim
   case calls f args=>obtain⟨σi,σo,h1,h2,rfl⟩:=he;exact Gb h2 h1.dom h
   case calln f args=>obtain⟨dd,σi,σo,x,h0,h1,h2,h3,rfl⟩:=he;exact cons h0 (Gb h2 h1.dom h)
   case callvs k args=>obtain⟨f,first,caps,σi,σo,h0,h1,h2,rfl⟩:=he;exact Gb h2 h1.dom h
   case wrm k m xs=>
    obtain⟨id2,e,e',h1,h2,h3,rfl⟩:=he
    rw[Eh h2]
    grind
   case frz m k=>
    obtain⟨id2,cs,h1,h2,h3,h4,h5,rfl⟩:=he
    rw[C7]
    grind
   case mrange m=>obtain⟨dd,mid,es,h1,h2,h3,h4,rfl⟩:=he;exact cons h1 h
   case mentry m=>obtain⟨id,mid,since,seen,i,es,kv,h1,h2,h3,h4,h5,h6,rfl⟩:=he;exact h
theorem Bi{i:I}{g:Nat->V}{σ σ':Ak}{v:V}(he:C3 P W0 ep i g σ v σ') :
  (EA P W0 ep i g σ v σ'/\∀{τ τ' u},E P W0 ep i.dst i.op g τ u τ'->Jy i g τ τ'->C3 P W0 ep i g τ u τ')\/(v=.tup []/\σ'=σ/\∀τ,C3 P W0 ep i g τ (.tup []) τ):=by
 unfold C3 at *
 cases hg:i.gd with
 | none=>simp only[hg] at *;exact .inl ⟨he,fun h k=>⟨h,he.2.1,k⟩⟩
 | some sw=>
  obtain⟨s,want⟩:=sw
  simp only[hg] at *
  cases hx:g s with
  | b t=>
   simp only[hx] at *
   by_cases ht:t=want
   ·simp only[ht,if_true] at *;exact .inl ⟨he,fun h k=>⟨h,he.2.1,k⟩⟩
   grind
  | tup l=>
   grind
  | _=>simp[hx] at he
theorem Yv{i:I}{g:Nat->V}{σ σ' τ:Ak}{v:V}(hs:CQ σ τ)(he:C3 P W0 ep i g σ v σ'):∃τ',C3 P W0 ep i g τ v τ'/\CQ σ' τ':=by
 rcases Bi he with⟨h,k⟩|⟨rfl,rfl,k⟩
 ·obtain⟨τ',h1,h2⟩:=Ako hs h.1;exact⟨τ',k h1 (fun hc x hx id h3 h4=>by rw[<-h2 id,<-hs id];exact h.2.2 hc x hx id h3 (by rw[hs id];exact h4)),h2⟩
 grind
theorem Kh{i:I}{g:Nat->V}{σ σ':Ak}{v:V}{id:Id}(h:lk σ id=none)(hne:∀dd,i.dst=some dd->id≠(ep,dd))(he:C3 P W0 ep i g σ v σ'):lk σ' id=none:=by
 rcases Bi he with⟨h',k⟩|⟨rfl,rfl,k⟩
 ·exact Aaa h hne h'.1
 ·exact h
def RG(K:AD->Ak->Prop):Prop:=∀env env' σ σ',(∀s,get env s=get env' s)->CQ σ σ'->K env σ->K env' σ'
theorem Gt(env:AD)(d:Option Nat)(v:V)(s:Nat):get (put env d v) s=if d=some s then v else get env s:=by
 cases d with
 | none=>simp[put]
 | some d=>simp[put,get]
theorem NB{K:AD->Ak->Prop}(hK:RG K):∀l:List I,RG (fun env σ=>Av P W0 ep l env σ K)
 | []=>hK
 | i::l=>by
  intro env env' σ τ h hs hh
  simp only[Av] at *
  rw[Cf] at *
  obtain⟨v,σ',h1,h2⟩:=hh
  obtain⟨τ',h3,h4⟩:=Yv hs h1
  refine⟨v,τ',GJ (fun s _=>h s) h3,NB hK l _ _ σ' τ' (fun s=>?_) h4 h2⟩
  rw[Gt,Gt,h s]
theorem Lm{i:I}{env:AD}{σ:Ak}{K K':AD->Ak->Prop}(h:∀env σ,K env σ->K' env σ)(hh:Cp P W0 ep i env σ K):Cp P W0 ep i env σ K':=by
 rw[Cf] at *
 grind
theorem BL{K K':AD->Ak->Prop}(h:∀env σ,K env σ->K' env σ):∀{l:List I} {env:AD} {σ:Ak},Av P W0 ep l env σ K->Av P W0 ep l env σ K'
 | [],_,_,hh=>h _ _ hh
 | _::_,_,_,hh=>Lm (fun _ _=>BL h) hh
theorem X.same_eq{x y:X}(h:x.same y=true):x=y:=by
 cases x<;>cases y<;>simp[X.same] at h
 rw[h]
theorem AjL{op:AE}{y:X}(h:y∈op.ct):y∈op.cs:=by
 cases op<;>simp only[AE.ct,Ao9,Asm,or_false] at h<;>simp[AE.cs,h]
theorem cN{op:AE}(h:op.sr=true):op.sw=false:=by
 cases op<;>simp only[AE.sr] at h<;>(try (cases h;done))<;>rfl
theorem S4{d:Option Nat}{op:AE}{g:Nat->V}{σ τ:Ak}{v:V}(hr:op.sr=true)(hcl:op.cl=false)(hk:∀x∈op.cs,∀id,BU (ev g x)=some id->lk σ id≠none->lk τ id=lk σ id)(he:E P W0 ep d op g σ v σ):E P W0 ep d op g τ v τ:=by
 have keep:∀{x id e},x∈op.cs->BU (ev g x)=some id->lk σ id=some e->lk τ id=some e:=by
  grind
 cases op<;>simp only[AE.sr] at hr<;>(try (cases hr;done))
 case iaddr x i e sz=>
  simp only[E] at he⊢
  refine⟨?_,by trivial⟩
  have h1:=he.1
  split at h1
  ·rename_i k n hk'
   refine⟨h1.1,?_⟩
   have h2:=h1.2
   split at h2
   ·omega
   ·rename_i id hx
    obtain⟨a,b,c,r⟩:=h2
    (try simp only[hx])
    exact⟨a,b,keep (x:=x) (by simp[AE.cs]) (by rw[hx];rfl) c,r⟩
   ·exact h2.elim
  ·exact h1.elim
 case load x n ag=>
  simp only[E] at he⊢
  refine⟨?_,by trivial⟩
  have h1:=he.1
  split at h1
  ·rename_i id off hx;obtain⟨a,b,r⟩:=h1;(try simp only[hx]);exact⟨a,keep (x:=x) (by simp[AE.cs]) (by rw[hx];rfl) b,r⟩
  ·rename_i id ix sz off hx;obtain⟨a,b,c,e,r⟩:=h1;(try simp only[hx]);exact⟨a,b,c,keep (x:=x) (by simp[AE.cs]) (by rw[hx];rfl) e,r⟩
  ·omega
  ·exact h1.elim
 case lenL x=>
  simp only[E] at he⊢
  obtain⟨es,h1,h2,_⟩:=he
  refine⟨es,?_,h2,by trivial⟩
  cases hx:ev g x<;>rw[hx] at h1<;>simp only[Az] at h1⊢<;>try exact h1
  rename_i id
  split at h1
  ·rename_i hl;rw[keep (x:=x) (by simp[AE.cs]) (by rw[hx];rfl) hl];exact h1
  ·cases h1
 case btos x=>
  simp only[E] at he⊢
  obtain⟨es,h1,h2,_⟩:=he
  refine⟨es,?_,h2,by trivial⟩
  cases hx:ev g x<;>rw[hx] at h1<;>simp only[Az] at h1⊢<;>try exact h1
  rename_i id
  split at h1
  ·rename_i hl;rw[keep (x:=x) (by simp[AE.cs]) (by rw[hx];rfl) hl];exact h1
  ·cases h1
 case rdm k m xs=>
  simp only[E] at he⊢
  obtain⟨⟨id,e,h1,h2,h3⟩,_⟩:=he
  exact⟨⟨id,e,h1,keep (x:=m) (by simp[AE.cs]) (by rw[h1];rfl) h2,h3⟩,by trivial⟩
 case callr f args=>simp[AE.cl] at hcl
 case eqr ne x y=>simp[AE.cl] at hcl
theorem UV{d:Option Nat}{op:AE}{g:Nat->V}{σ σ':Ak}{v:V}{id:Id}(hw:op.wr=true)(hk:∀y∈op.ct,BU (ev g y)≠some id)(hd:∀dd,d=some dd->id≠(ep,dd))(he:E P W0 ep d op g σ v σ'):lk σ id=lk σ' id:=by
 cases op<;>simp only[AE.wr] at hw<;>(try (cases hw;done))
 case store a x n=>
  simp only[E] at he
  have hx0:=hk a (by simp[AE.ct])
  obtain⟨h1,h2,h3⟩:=he
  split at h3
  ·rename_i id2 off hx
   obtain⟨u,u',a1,a2,rfl⟩:=h3
   rw[Eh a1,if_neg (fun h=>hx0 (by rw[hx,h];rfl))]
  ·rename_i id2 ix sz off hx
   obtain⟨e,es,el,el',a1,a2,a3,rfl⟩:=h3
   rw[Eh a1,if_neg (fun h=>hx0 (by rw[hx,h];rfl))]
  ·exact h3.elim
 case app s x e sz=>
  simp only[E] at he
  have hx0:=hk s (by simp[AE.ct])
  obtain⟨dd,xs,h1,h2,h3,h4,h5⟩:=he
  split at h5
  ·grind[lk]
  ·rename_i id2 hx
   obtain⟨es,a1,a2,rfl⟩:=h5
   rw[Is (p:=((ep,dd),_)) (fun h=>hd dd h1 h.symm),C7,if_neg (fun h=>hx0 (by rw[hx,h];rfl))]
  ·exact h5.elim
 case slT x hi sz=>
  have hx0:=hk x (by simp[AE.ct])
  obtain⟨dd,id,e,es,q,h1,h2,h3,h4,h5,h6,rfl⟩:=he
  rw[Is (p:=((ep,dd),_)) (fun h=>hd dd h1 h.symm),C7,if_neg (fun h=>hx0 (by rw[h2,h];rfl))]
 case apps s x e=>
  simp only[E] at he
  have hx0:=hk s (by simp[AE.ct])
  obtain⟨dd,l,h1,h2,h4,h5⟩:=he
  split at h5
  ·grind[lk]
  ·rename_i id2 hx
   obtain⟨es,a1,a2,rfl⟩:=h5
   rw[Is (p:=((ep,dd),_)) (fun h=>hd dd h1 h.symm),C7,if_neg (fun h=>hx0 (by rw[hx,h];rfl))]
  ·exact h5.elim
 case wrm k m xs=>
  have hx0:=hk m (by simp[AE.ct])
  obtain⟨id2,e,e',h1,h2,h3,rfl⟩:=he
  rw[Eh h2,if_neg (fun h=>hx0 (by rw[h1,h];rfl))]
theorem Ahh{d:Option Nat}{op:AE}{g:Nat->V}{σ σ':Ak}{v:V}{id0:Id}{e0:AC}(hR:op.isR=true)(hf:lk σ id0=none)(he:E P W0 ep d op g σ v σ'):E P W0 ep d op g ((id0,e0)::σ) v ((id0,e0)::σ)/\σ'=σ:=by
 cases op<;>simp only[AE.isR] at hR<;>(try (cases hR;done))
 simp only[E] at he⊢
 grind[lk]
theorem AoJ{i j:I}(hi:K0 i j=true){K:AD->Ak->Prop}(hK:RG K){env:AD}{σ:Ak}
  (hfi:∀d,i.dst=some d->lk σ (ep,d)=none)(hfj:∀d,j.dst=some d->lk σ (ep,d)=none)
  (hav:∀s,X.t s∈j.op.cs->∀d,i.dst=some d->BU (get env s)≠some (ep,d))(hap:∀s∈IY j.ap,i.dst≠some s)
  (h:Cp P W0 ep i env σ fun env' σ'=>Cp P W0 ep j env' σ' K):Cp P W0 ep j env σ fun env' σ'=>Cp P W0 ep i env' σ' K:=by
 unfold K0 at hi
 simp only[Aav,Atl,AmN,Bool.and_eq_false_iff,AsK] at hi
 obtain⟨⟨h1,h2⟩,h3⟩:=hi
 rw[Cf] at h
 obtain⟨v1,σ1,r1,h⟩:=h
 rw[Cf] at h
 obtain⟨v2,σ2,r2,h⟩:=h
 have nij:∀s∈j.rd,i.dst≠some s:=by
  intro s hs hd
  unfold I.rd at hs
  grind
 have nji:∀s∈i.rd,j.dst≠some s:=by
  grind
 have ndd:∀d,i.dst=some d->j.dst≠some d:=by
  grind
 have r2':C3 P W0 ep j (get env) σ1 v2 σ2:=GJ (fun s hs=>by rw[Gt,if_neg (nij s hs)]) r2
 have done:∀{τ ρ},C3 P W0 ep j (get env) σ v2 τ->C3 P W0 ep i (get env) τ v1 ρ->CQ σ2 ρ->Cp P W0 ep j env σ fun env' σ'=>Cp P W0 ep i env' σ' K:=by
  intro τ ρ a b hs
  rw[Cf]
  refine⟨v2,τ,a,?_⟩
  rw[Cf]
  refine⟨v1,ρ,GJ (fun s hs=>by rw[Gt,if_neg (nji s hs)]) b,hK _ _ _ _ (fun s=>?_) hs h⟩
  simp only[Gt]
  grind
 rcases h3 with(((((h3|h3)|h3)|h3)|h3)|h3)|h3
 rotate_right
 ·obtain⟨hmk,hR⟩:=h3
  rcases Bi r2' with⟨he,k⟩|⟨rfl,rfl,k⟩
  ·obtain⟨dd,e,hd,rfl,hany⟩:=KH hmk he.1
   rcases Bi r1 with⟨he1,k1⟩|⟨rfl,rfl,k1⟩
   ·obtain⟨h5,rfl⟩:=Ahh (e0:=e) hR (hfj dd hd) he1.1
    exact done (k (hany σ1) (CE (Nt hmk))) (k1 h5 (fun _ x hx id hid hne=>rfl)) (CQ.refl _)
   ·exact done (k (hany σ1) (CE (Nt hmk))) (k1 _) (CQ.refl _)
  ·exact done (k σ) r1 (CQ.refl _)
 ·obtain⟨h3,h4⟩:=h3
  by_cases hwi:i.op.sw=true
  ·have hj:j.op.sw=false/\j.op.sr=false:=by
    grind
   have e2:=G8 hj.1 r2'
   subst e2
   exact done (NC hj.1 hj.2 r2') r1 (CQ.refl _)
  ·have hwi':i.op.sw=false:=by simpa using hwi
   have e1:=G8 hwi' r1
   subst e1
   by_cases hwj:j.op.sw=true
   ·have hri:i.op.sr=false:=by
     grind
    exact done r2' (NC hwi' hri r1) (CQ.refl _)
   ·have e2:=G8 (by simpa using hwj) r2'
    subst e2
    exact done r2' r1 (CQ.refl _)
 ·obtain⟨⟨hmk,hcl⟩,hall⟩:=h3
  rcases Bi r1 with⟨he,k⟩|⟨rfl,rfl,k⟩
  ·obtain⟨dd,e,hd,rfl,hany⟩:=KH hmk he.1
   rcases Bi r2' with⟨he2,k2⟩|⟨rfl,rfl,k2⟩
   ·obtain⟨σ',h5,h6⟩:=Al6 hcl (hfi dd hd) (fun x hx=>by
     have:=Aiv.1 hall x hx
     cases x with
     | t s=>exact hav s hx dd hd
     | c u=>simp[X.isT] at this) (fun d2 hd2 he=>by grind) he2.1
    exact done (k2 h5 (CE hcl)) (k (hany σ') (CE (Nt hmk))) h6
   ·exact done (k2 σ) (k (hany σ) (CE (Nt hmk))) (CQ.refl _)
  ·exact done r2' (k σ2) (CQ.refl _)
 ·obtain⟨hmk,hcl⟩:=h3
  rcases Bi r2' with⟨he,k⟩|⟨rfl,rfl,k⟩
  ·obtain⟨dd,e,hd,rfl,hany⟩:=KH hmk he.1
   rcases Bi r1 with⟨he1,k1⟩|⟨rfl,rfl,k1⟩
   ·obtain⟨τ',h5,h6⟩:=Anp (e0:=e) hcl (hfj dd hd) (fun d2 hd2 he=>by grind) he1.1
    exact done (k (hany σ) (CE (Nt hmk))) (k1 h5 (CE hcl)) h6.symm
   ·exact done (k (hany σ1) (CE (Nt hmk))) (k1 _) (CQ.refl _)
  ·exact done (k σ) r1 (CQ.refl _)
 ·obtain⟨⟨⟨hsr,hncl⟩,hwr⟩,hall⟩:=h3
  rcases Bi r1 with⟨he,k⟩|⟨rfl,rfl,k⟩
  ·have hs1:=Eq (cN hsr) he.1
   subst hs1
   rcases Bi r2' with⟨he2,k2⟩|⟨rfl,rfl,k2⟩
   ·refine done r2' (k (S4 hsr hncl (fun x hx id hid hne=>?_) he.1) (CE hncl)) (CQ.refl _)
    refine(UV hwr (fun y hy=>?_) (fun d hd he3=>?_) he2.1).symm
    ·have h5:=Aiv.1 hall x hx
     obtain⟨x',hx',hsame⟩:=AsC.1 h5
     have:=X.same_eq hsame
     subst this
     exact he2.2.1 x hx' y (AjL hy) id hid
    grind
   ·exact done r2' r1 (CQ.refl _)
  ·exact done r2' (k σ2) (CQ.refl _)
 ·obtain⟨⟨⟨⟨hwr,hsr⟩,hncl⟩,hct⟩,hall⟩:=h3
  rcases Bi r2' with⟨he,k⟩|⟨rfl,rfl,k⟩
  ·have hs1:=Eq (cN hsr) he.1
   subst hs1
   rcases Bi r1 with⟨he2,k2⟩|⟨rfl,rfl,k2⟩
   ·refine done (k (S4 hsr hncl (fun x hx id hid hne=>?_) he.1) (CE hncl)) r1 (CQ.refl _)
    refine UV hwr (fun y hy hyid=>?_) (fun d hd he3=>?_) he2.1
    ·have h5:=Aiv.1 hall y hy
     obtain⟨x',hx',hsame⟩:=AsC.1 h5
     have:=X.same_eq hsame
     subst this
     exact he.2.1 y hx' x hx id hyid hid
    ·have:=Aiv.1 hct x hx
     cases x with
     | t s=>exact hav s hx d hd (by rw[<-he3];exact hid)
     | c u=>simp[X.isT] at this
   ·exact done r2' r1 (CQ.refl _)
  ·exact done (k σ) r1 (CQ.refl _)
 ·obtain⟨⟨⟨hsr,hncl⟩,hcl⟩,hall⟩:=h3
  rcases Bi r1 with⟨he,k⟩|⟨rfl,rfl,k⟩
  ·have hs1:=Eq (cN hsr) he.1
   subst hs1
   rcases Bi r2' with⟨he2,k2⟩|⟨rfl,rfl,k2⟩
   ·refine done r2' (k (S4 hsr hncl (fun x hx id hid hne=>?_) he.1) (CE hncl)) (CQ.refl _)
    have h5:=Aiv.1 hall x hx
    obtain⟨x',hx',hsame⟩:=AsC.1 h5
    have:=X.same_eq hsame
    subst this
    exact he2.2.2 hcl x hx' id hid hne
   ·exact done r2' r1 (CQ.refl _)
  ·exact done r2' (k σ2) (CQ.refl _)
theorem qN{s:Nat}{xs:List X}:s∈IY xs↔X.t s∈xs:=by
 unfold IY
 rw[Aty]
 constructor
 ·rintro⟨x,hx,hs⟩
  cases x with
  | t k=>simp only[Ht,AsB] at hs;subst hs;exact hx
  | c v=>simp[Ht] at hs
 ·intro h;exact⟨_,h,by simp[Ht]⟩
theorem N8{x:I}{l l':List I}(h:∀y∈l',∀d,y.dst=some d->∃z∈l,z.dst=some d):∀a∈(x.dropd l).ap,a∈(x.dropd l').ap:=by
 intro a ha
 obtain⟨h1,h2⟩:=As7.1 ha
 refine As7.2 ⟨h1,?_⟩
 cases a with
 | c v=>simp[X.notIn] at h2
 | t s=>
  simp only[X.notIn,AmN,List.any_eq_false,beq_iff_eq] at h2⊢
  grind
theorem Tf{y x:I}{l l':List I}(h:∀a∈(x.dropd l).ap,a∈(x.dropd l').ap)(hi:K0 y (x.dropd l)=true):K0 y (x.dropd l')=true:=by
 unfold K0 at *
 simp only[Aav,Atl] at *
 refine⟨hi.1,?_⟩
 have up:∀(xs:List X),(xs.all fun z=>(x.dropd l).ap.any z.same)=true->(xs.all fun z=>(x.dropd l').ap.any z.same)=true:=by
  intro xs hx
  refine Aiv.2 fun z hz=>?_
  obtain⟨w,hw,hs⟩:=AsC.1 (Aiv.1 hx z hz)
  grind
 rcases hi.2 with(((((h3|h3)|h3)|h3)|h3)|h3)|h3
 ·exact .inl (.inl (.inl (.inl (.inl (.inl h3)))))
 ·exact .inl (.inl (.inl (.inl (.inl (.inr h3)))))
 ·exact .inl (.inl (.inl (.inl (.inr h3))))
 ·exact .inl (.inl (.inl (.inr ⟨h3.1,up _ h3.2⟩)))
 ·exact .inl (.inl (.inr ⟨h3.1,up _ h3.2⟩))
 ·exact .inl (.inr ⟨h3.1,up _ h3.2⟩)
 ·exact .inr h3
theorem Ld{x x':I}(h1:x'.dst=x.dst)(h2:x'.op=x.op)(h3:x'.gd=x.gd)(h4:∀a∈x'.ap,a∈x.ap){K:AD->Ak->Prop}{env:AD}{σ:Ak}(h:Cp P W0 ep x env σ K):Cp P W0 ep x' env σ K:=by
 rw[Cf] at *
 obtain⟨v,σ',hs,hk⟩:=h
 refine⟨v,σ',?_,by rw[h1];exact hk⟩
 have go:EA P W0 ep x (get env) σ v σ'->EA P W0 ep x' (get env) σ v σ':=fun he=>⟨by rw[h1,h2];exact he.1,fun a ha y hy=>he.2.1 a (h4 a ha) y (by rw[<-h2];exact hy),fun hc a ha=>he.2.2 (by rw[<-h2];exact hc) a (h4 a ha)⟩
 unfold C3 at *
 rw[h3]
 split at hs
 ·exact go hs
 grind
def T4(x:I):List I->Prop
 | []=>True
 | y::l=>K0 y (x.dropd (y::l))=true/\T4 x l
theorem iB{x:I}{K:AD->Ak->Prop}(hK:RG K):∀{l1 l2:List I} {env:AD} {σ:Ak},T4 x l1->(l1.filterMap (·.dst)).Nodup->(∀y∈l1,∀d,y.dst=some d->lk σ (ep,d)=none)->(∀d,x.dst=some d->lk σ (ep,d)=none)->
  (∀s,X.t s∈x.op.cs->∀y∈l1,∀d,y.dst=some d->BU (get env s)≠some (ep,d))->Av P W0 ep (l1++x::l2) env σ K->Av P W0 ep (x.dropd l1::(l1++l2)) env σ K
 | [],l2,env,σ,_,_,_,_,_,h=>by
  have h':Cp P W0 ep x env σ fun env' σ'=>Av P W0 ep l2 env' σ' K:=h
  exact Ld (x:=x) (x':=x.dropd []) rfl rfl rfl (fun a ha=>(As7.1 ha).1) h'
 | y::l1,l2,env,σ,hi,hnd,hf,hfx,hav,h=>by
  have hiy:=hi.1
  have hslots:∀d,y.dst=some d->d∉x.rd0/\x.dst≠some d:=by
   intro d hd
   unfold K0 at hiy
   simp only[hd,Aav,AmN,Aua,decide_eq_false_iff_not,bne_iff_ne,ne_eq] at hiy
   exact⟨hiy.1.1.1,hiy.1.1.2⟩
  have hnd':(l1.filterMap (·.dst)).Nodup/\∀d,y.dst=some d->∀z∈l1,z.dst≠some d:=by
   grind
  have ih:Cp P W0 ep y env σ fun env' σ'=>Cp P W0 ep (x.dropd l1) env' σ' fun env' σ'=>Av P W0 ep (l1++l2) env' σ' K:=by
   have h':Cp P W0 ep y env σ fun env' σ'=>Av P W0 ep (l1++x::l2) env' σ' K:=h
   rw[Cf] at h'⊢
   obtain⟨v,σ',hs,hh⟩:=h'
   refine⟨v,σ',hs,iB hK hi.2 hnd'.1 (fun z hz d hd=>?_) (fun d hd=>?_) (fun s hs' z hz d hd=>?_) hh⟩
   ·exact Kh (hf z (by simp[hz]) d hd) (fun dd hdd he=>by grind) hs
   ·exact Kh (hfx d hd) (fun dd hdd he=>by grind) hs
   ·rw[Gt,if_neg (fun he=>(hslots s he).1 (ArG _ (AaL hs')))]
    grind
  have ih':Cp P W0 ep y env σ fun env' σ'=>Cp P W0 ep (x.dropd (y::l1)) env' σ' fun env' σ'=>Av P W0 ep (l1++l2) env' σ' K:=
   Lm (fun env σ h=>Ld (x:=x.dropd l1) (x':=x.dropd (y::l1)) rfl rfl rfl (N8 fun z hz d hd=>⟨z,by simp[hz],hd⟩) h) ih
  exact AoJ hiy (NB hK _) (hf y (by simp)) hfx (fun s hs d hd=>hav s hs y (by simp) d hd) (fun s hs hd=>by
   have h2:=(As7.1 (qN.1 hs)).2
   simp[X.notIn,hd] at h2) ih'
end
end Go.Ir
end
section
namespace Go.Ir
open Go.RowKit
variable[F1]
def tC(ops:Array Oper):Option (Nat×Bool)->Option (Nat×Bool)->Bool
 | none,none=>true
 | some (j,w),some (s,w')=>w==w'&&((ops[j]?).bind (·.dst))==some s
 | _,_=>false
def P2(P:Program)(nt:Nat)(ops:Array Oper)(o:Oper)(i:I):Bool:=
 ME P o.op i.op&&o.dst==i.dst&&(match i.dst with|some d=>decide (d<nt)|none=>true)&&tC ops o.guard i.gd&&(!KE i.op||i.dst.isNone)
def Dp(P:Program)(nt:Nat)(ops:Array Oper):List Oper->List I->Bool
 | [],[]=>true
 | o::os,i::is=>P2 P nt ops o i&&Dp P nt ops os is
 | _,_=>false
def B3(is:List I):Bool:=decide (is.filterMap (·.dst)).Nodup
theorem Hq{P:Program}{nt:Nat}{ops:Array Oper}:∀{os:List Oper} {is:List I},Dp P nt ops os is=true->os.length=is.length/\∀k o,os[k]?=some o->P2 P nt ops o (is.getD k default)=true
 | [],[],_=>⟨rfl,fun k o h=>by simp at h⟩
 | o::os,i::is,h=>by
  simp only[Dp,Aav] at h
  obtain⟨h1,h2⟩:=Hq h.2
  grind
 | [],_::_,h=>by simp[Dp] at h
 | _::_,[],h=>by simp[Dp] at h
theorem Vm{is:List I}(h:B3 is=true){j k:Nat}{d:Nat}(hj:j<is.length)(hk:k<is.length)(hdj:(is.getD j default).dst=some d)(hdk:(is.getD k default).dst=some d):j=k:=by
 unfold B3 at h
 simp only[decide_eq_true_eq] at h
 induction is generalizing j k with
 | nil=>simp at hj
 | cons i is ih=>
  have mem:∀m,m<is.length->(is.getD m default).dst=some d->d∈is.filterMap (·.dst):=by
   grind
  have hn:(is.filterMap (·.dst)).Nodup:=by
   grind
  have hh:∀m,m<is.length->(is.getD m default).dst=some d->i.dst≠some d:=by
   grind
  cases j with
  | zero=>
   grind
  | succ j=>
   cases k with
   | zero=>
    grind
   | succ k=>
    grind
section
variable{P:Program}{W0:World}{ep nt:Nat}{ops:Array Oper}{env:AD}{σ σ':Ak}{n:Nat}{μ:Id→Option Value}{H:Addr→Option Value}{a:Act}{w:World}{v:V}{ro:Option Nat}{ds:List Deferred}
theorem VE{o:Op}{i:AE}(h:ME P o i=true)(hs:∀xs,i≠.pu .stuck xs):∀c,o≠.defer c:=by
 rintro c rfl
 cases i with
 | pu k xs=>cases k<;>first|exact hs xs rfl|(simp[ME,Gy] at h)
 | rdm k m xs=>cases k<;>simp[ME,qS] at h
 | wrm k m xs=>cases k<;>simp[ME,fF] at h
 | mkm k xs=>cases k<;>simp[ME,SX] at h
 | _=>simp[ME,Gy] at h
theorem Aja{d:Option Nat}{i:AE}{g:Nat->V}(h:E P W0 ep d i g σ v σ'):∀xs,i≠.pu .stuck xs:=by
 rintro xs rfl
 obtain⟨h,_⟩:=h
 simp[F9] at h
theorem Iv{k:Nat}{o:Oper}{i:I}(ho:ops[k]?=some o)(hok:P2 P nt ops o i=true)(hr:Rl μ H nt env a)(hp:Hp W0 σ n μ H w)(hn:ep<n)(hf:∀dd,i.dst=some dd->μ (ep,dd)=none)
  (hs:C3 P W0 ep i (get env) σ v σ')(next:Act->World->Prop)(Q:Exit->Act->World->Prop)
  (K:∀val n' μ' H' w',FJ W0 ep i.dst σ n μ H w v σ' val n' μ' H' w'->next (a.put i.dst val) w'):Gv P ro ops Q k next a w:=by
 unfold P2 at hok
 simp only[Aav,beq_iff_eq] at hok
 obtain⟨⟨⟨⟨h1,h2⟩,h3⟩,h4⟩,h5⟩:=hok
 have hst:KE i.op=true->i.dst=none:=by
  grind
 have go:∀{v σ'},E P W0 ep i.dst i.op (get env) σ v σ'->(∀val n' μ' H' w',FJ W0 ep i.dst σ n μ H w v σ' val n' μ' H' w'->next (a.put i.dst val) w')->o.wpr P ro a w next Q:=fun hE K'=>
  Dz (VE h1 (Aja hE)) <| Q5 hr hp h1 h2 hn hf hst hE next Q (fun val n' μ' H' w' hd=>by grind)
 have skip:v=.tup []/\σ'=σ->next (a.put o.dst undef) w:=by
  rintro⟨rfl,rfl⟩
  rw[h2]
  exact K undef n μ H w (FJ.same hp (.tup [] [] rfl (fun k c v hk=>by simp at hk)))
 unfold Gv wpOpIn
 simp only[ho]
 unfold C3 at hs
 cases hg:o.guard with
 | none=>
  cases hgi:i.gd with
  | some x=>obtain⟨x,y⟩:=x;simp[hg,hgi,tC] at h4
  | none=>
   simp only[hgi] at hs
   have hw:Region.wanted o (yielded ops a.tmps)=true:=by simp[Region.wanted,hg]
   rw[if_pos hw]
   exact go hs.1 K
 | some jw=>
  obtain⟨j,want⟩:=jw
  cases hgi:i.gd with
  | none=>simp[hg,hgi,tC] at h4
  | some sw=>
   obtain⟨s,want'⟩:=sw
   simp only[hg,hgi,tC,Aav,beq_iff_eq] at h4
   obtain⟨rfl,hj⟩:=h4
   simp only[hgi] at hs
   have hrs:=hr.at_ s
   have hy:yielded ops a.tmps j=match a.tmps[s]? with|some (.bool b)=>some b|_=>none:=by
    unfold yielded
    rw[hj]
    rfl
   have hwant:∀b,yielded ops a.tmps j=b->Region.wanted o (yielded ops a.tmps)=(b==some want):=by
    intro b hb
    simp[Region.wanted,hg,hb]
   split at hs
   ·rename_i t hgs
    rw[hgs] at hrs
    have hb:=hrs.b_inv
    have hts:a.tmps[s]?=some (.bool t):=by
     cases h:a.tmps[s]? with
     | none=>simp[AqE,h,undef] at hb
     | some x=>simp_all
    rw[hts] at hy
    have hw:=hwant _ hy
    split at hs
    ·rename_i ht
     subst ht
     rw[if_pos (by rw[hw];simp)]
     exact go hs.1 K
    ·rename_i ht
     rw[if_neg (by grind)]
     exact⟨fun f _=>GA ro f,skip hs⟩
   ·rename_i hgs
    rw[hgs] at hrs
    obtain⟨vals,hv,hvs⟩:=hrs.tup_inv
    have hn0:yielded ops a.tmps j=none:=by
     rw[hy]
     cases h:a.tmps[s]? with
     | none=>rfl
     | some x=>
      simp_all
    rw[if_neg (by grind)]
    exact⟨fun f _=>GA ro f,skip hs⟩
   ·exact hs.elim
structure RI (W0:World) (nt ep n0:Nat) (is:List I) (μ0:Id->Option Value) (H0:Addr->Option Value) (σ0:Ak) (w0:World) (ds:List Deferred) (rem:List Nat) (env:AD) (σ:Ak) (a:Act) (w:World) (n:Nat) (μ:Id->Option Value) (H:Addr->Option Value):Prop where
 rl:Rl μ H nt env a
 hp:Hp W0 σ n μ H w
 ep_lt:ep<n
 n0_le:n0<=ep
 free:∀k∈rem,∀d,(is.getD k default).dst=some d->μ (ep,d)=none
 fr:Fr μ0 H0 σ0 w0 μ H σ w
 old:∀id,id.1<n0->μ0 id=none->μ id=none
 dfs:a.defers=ds
theorem RI.step{n0:Nat}{is:List I}{μ0:Id->Option Value}{H0:Addr->Option Value}{σ0:Ak}{w0:World}{rem rem':List Nat}{k:Nat}(hri:RI W0 nt ep n0 is μ0 H0 σ0 w0 ds rem env σ a w n μ H)(hd:B3 is=true)(hlen:∀j∈rem,j<is.length)(hk:k∈rem)
  (hsub:∀j∈rem',j∈rem/\j≠k)(hnt:∀d,(is.getD k default).dst=some d->d<nt){val:Value}{n':Nat}{μ':Id->Option Value}{H':Addr->Option Value}{w':World}(hdone:FJ W0 ep (is.getD k default).dst σ n μ H w v σ' val n' μ' H' w') :
  RI W0 nt ep n0 is μ0 H0 σ0 w0 ds rem' (put env (is.getD k default).dst v) σ' (a.put (is.getD k default).dst val) w' n' μ' H' where
 rl:=(hri.rl.mono hdone.fr.mu hdone.fr.hp).put hnt hdone.rel
 hp:=hdone.hp
 ep_lt:=Alg hri.ep_lt hdone.le
 n0_le:=hri.n0_le
 free j hj d hd':=by
  obtain⟨h1,h2⟩:=hsub j hj
  refine hdone.fresh (ep,d) hri.ep_lt (fun dd hdd he=>?_) (hri.free j h1 d hd')
  cases he
  exact h2 (Vm hd (hlen j h1) (hlen k hk) hd' hdd)
 fr:=hri.fr.trans hdone.fr
 old id hid h0:=by
  refine hdone.fresh id (Alg (Alg hid hri.n0_le) (Nat.le_of_lt hri.ep_lt)) (fun dd _ he=>?_) (hri.old id hid h0)
  have:=hri.n0_le
  grind
 dfs:=(Cb _ _ _).trans hri.dfs
variable{n0:Nat}{is:List I}{μ0:Id→Option Value}{H0:Addr→Option Value}{σ0:Ak}{w0:World}{K:AD→Ak→Prop}{Q:Exit→Act→World→Prop}
theorem MU(hok:Dp P nt ops ops.toList is=true)(hd:B3 is=true)
  (hQ:∀env σ a w n μ H,K env σ->RI W0 nt ep n0 is μ0 H0 σ0 w0 ds [] env σ a w n μ H->Q .normal a w) :
  ∀(rem:List Nat) (env:AD) (σ:Ak) (a:Act) (w:World) (n:Nat) (μ:Id->Option Value) (H:Addr->Option Value),rem.Nodup->(∀k∈rem,k<is.length)->Av P W0 ep (rem.map fun k=>is.getD k default) env σ K->
   RI W0 nt ep n0 is μ0 H0 σ0 w0 ds rem env σ a w n μ H->EM P ro ops Q rem a w
 | [],env,σ,a,w,n,μ,H,_,_,hi,hri=>hQ _ _ _ _ _ _ _ hi hri
 | k::rem,env,σ,a,w,n,μ,H,hnd,hlt,hi,hri=>by
  obtain⟨hlen,hat⟩:=Hq hok
  rw[Dd]
  have hk:k<ops.toList.length:=by grind
  have hk2:k<ops.size:=by simpa using hk
  have ho:ops[k]?=some ops[k]:=ApZ hk2
  have hokk:=hat k ops[k] (by grind)
  simp only[Ait,Av] at hi
  rw[Cf] at hi
  obtain⟨v,σ',hstep,hi⟩:=hi
  refine Iv ho hokk hri.rl hri.hp hri.ep_lt (fun d hd'=>hri.free k (by simp) d hd') hstep _ Q (fun val n' μ' H' w' hdone=>?_)
  refine MU hok hd hQ rem _ σ' _ w' n' μ' H' (AqP.1 hnd).2 (fun j hj=>hlt j (by simp[hj])) hi
   (hri.step hd hlt (by simp) (fun j hj=>⟨by simp[hj],fun e=>(AqP.1 hnd).1 (by rw[<-e];exact hj)⟩) (fun d hd'=>?_) hdone)
  unfold P2 at hokk
  grind
def jR(ops:Array Oper)(j i:Nat):Bool:=
 match ops[i]? with
 | some o=>o.after.any fun e=>e.on==j&&Region.binds .any e
 | none=>false
def Ii(ops:Array Oper):List Nat->Bool
 | []=>false
 | [_]=>true
 | j::i::r=>jR ops j i&&Ii ops (i::r)
def H4(ops:Array Oper)(is:List I)(paths:List (List Nat)):Bool:=
 (List.range is.length).all fun i=>(List.range i).all fun j=>
  K0 (is.getD j default) ((is.getD i default).dropd ((is.drop j).take (i-j)))||paths.any fun p=>p.head? == some j&&p.getLast? == some i&&Ii ops p
def DH(ops:Array Oper):Bool:=
 (List.range ops.size).all fun i=>match ops[i]? with
  | some o=>o.after.all fun e=>!Region.binds .any e||decide (e.on<i)
  | none=>true
def SD(ops:Array Oper)(listed:Array Bool):Prop:=∀i j,listed.getD i true=true->i<ops.size->jR ops j i=true->listed.getD j false=true
theorem K3{listed:Array Bool}{j i:Nat}(hb:DH ops=true)(hr:i∈Region.ready .any ops listed)(he:jR ops j i=true):listed.getD j false=true:=by
 unfold Region.ready at hr
 simp only[As7,Atg,Aav] at hr
 obtain⟨hi,_,h⟩:=hr
 unfold jR at he
 grind
theorem G5{listed:Array Bool}(hb:DH ops=true)(hc:SD ops listed)(hsz:listed.size=ops.size){i:Nat}(hr:i∈Region.ready .any ops listed):∀(p:List Nat) (j:Nat),p.head?=some j->p.getLast?=some i->Ii ops p=true->j≠i->listed.getD j false=true
 | [],_,h,_,_,_=>by simp at h
 | [x],j,h1,h2,_,hne=>by simp at h1 h2;omega
 | x::y::r,j,h1,h2,hp,hne=>by
  simp only[List.head?_cons,Aiq] at h1
  subst h1
  simp only[Ii,Aav] at hp
  by_cases hy:y=i
  ·subst hy;exact K3 hb hr hp.1
  ·have:=G5 hb hc hsz hr (y::r) y rfl (by simpa using h2) hp.2 hy
   have hlt:y<listed.size:=by
    grind
   refine hc y x ?_ (by omega) hp.1
   grind
theorem RH{m x:Nat}(hm:m<=ops.size)(hls:is.length=m)(hat:∀k o,k<m->ops[k]?=some o->P2 P nt ops o (is.getD k default)=true)(hd:B3 is=true)(hb:DH ops=true){paths:List (List Nat)}(hord:H4 ops is paths=true)
  (hlast:∀k,m<=k->k<ops.size->∀j,j<m->∃p,List.head? p=some j/\List.getLast? p=some k/\Ii ops p=true)(hK:RG K)
  (hQ:∀listed env σ a w n μ H,listed.size=ops.size->(∀k,k<ops.size->(listed.getD k true=false↔m<=k))->K env σ->RI W0 nt ep n0 is μ0 H0 σ0 w0 ds [] env σ a w n μ H->OR P ro .any ops Q x listed a w) :
  ∀(fuel:Nat) (rem:List Nat) (listed:Array Bool) (env:AD) (σ:Ak) (a:Act) (w:World) (n:Nat) (μ:Id->Option Value) (H:Addr->Option Value),
   rem.length=fuel->rem.Pairwise (· < ·)->(∀k,k∈rem↔k<m/\listed.getD k true=false)->(∀k,m<=k->k<ops.size->listed.getD k true=false)->listed.size=ops.size->SD ops listed->Av P W0 ep (rem.map fun k=>is.getD k default) env σ K->
   RI W0 nt ep n0 is μ0 H0 σ0 w0 ds rem env σ a w n μ H->OR P ro .any ops Q (fuel+x) listed a w:=by
 intro fuel
 have readyNil:∀(rem:List Nat) (listed:Array Bool),rem.Pairwise (· < ·)->(∀k,k∈rem↔k<m/\listed.getD k true=false)->listed.size=ops.size->Region.ready .any ops listed=[]->rem=[]:=by
  intro rem listed hsort hmem hsz hnil
  cases rem with
  | nil=>rfl
  | cons k r=>
   exfalso
   obtain⟨hkm,hkl⟩:=(hmem k).1 (by simp)
   have hk:k<ops.size:=Alg hkm hm
   have:k∈Region.ready .any ops listed:=by
    unfold Region.ready
    have ho:ops[k]?=some ops[k]:=ApZ hk
    simp only[As7,Atg,Aav,ho,AsU,AoL]
    refine⟨hk,by simpa using hkl,At5.2 fun e he=>?_⟩
    unfold DH at hb
    have hbi:=Aiv.1 hb k (by simpa using hk)
    rw[ho] at hbi
    have hbe:=At5.1 hbi e he
    cases hbnd:Region.binds .any e with
    | false=>rfl
    | true=>
    simp only[hbnd,AsH,AsV,decide_eq_true_eq] at hbe⊢
    have hon:e.on<k:=hbe
    have hnr:e.on∉k::r:=by
     intro h
     rcases Ao9.1 h with h|h
     ·omega
     ·have:=(At7.1 hsort).1 _ h;omega
    grind
   grind
 induction fuel with
 | zero=>
  intro rem listed env σ a w n μ H hfuel hsort hmem hge hsz hc hi hri
  have:rem=[]:=Apu hfuel
  subst this
  rw[Atk]
  refine hQ _ _ _ _ _ _ _ _ hsz (fun k hk=>⟨fun h=>?_,fun h=>hge k h hk⟩) hi hri
  grind
 | succ fuel ih=>
  intro rem listed env σ a w n μ H hfuel hsort hmem hge hsz hc hi hri
  rw[show fuel+1+x=(fuel+x)+1 by omega]
  refine⟨fun hnil=>?_,fun k hk=>?_⟩
  ·have:=readyNil rem listed hsort hmem hsz hnil
   subst this
   simp at hfuel
  ·have hk':=hk
   unfold Region.ready at hk'
   simp only[As7,Atg,Aav,AmN] at hk'
   have hkm:k<m:=by
    rcases Ar9 k m with h|h
    ·exact h
    ·exfalso
     cases rem with
     | nil=>simp at hfuel
     | cons j r=>
      obtain⟨hjm,hjf⟩:=(hmem j).1 (by simp)
      obtain⟨p,hp1,hp2,hp3⟩:=hlast k h hk'.1 j hjm
      have hl:=G5 hb hc hsz hk p j hp1 hp2 hp3 (by omega)
      have hlt:j<listed.size:=by omega
      have h3:listed.getD j true=listed.getD j false:=by simp[Array.getD,hlt]
      rw[h3,hl] at hjf
      cases hjf
   have hkrem:k∈rem:=(hmem k).2 ⟨hkm,hk'.2.1⟩
   obtain⟨l1,l2,rfl⟩:=List.append_of_mem hkrem
   have hs1:∀y∈l1,y<k:=fun y hy=>(Ast.1 hsort).2.2 y hy k (by simp)
   have hs2:∀y∈l2,k<y:=fun y hy=>(At7.1 (Ast.1 hsort).2.1).1 y hy
   have hrl:∀j∈l1++k::l2,j<is.length:=fun j hj=>by rw[hls];exact((hmem j).1 hj).1
   have hi':Av P W0 ep ((is.getD k default).dropd (l1.map fun k=>is.getD k default)::((l1++l2).map fun k=>is.getD k default)) env σ K:=by
    rw[Aub] at hi⊢
    rw[Ait] at hi
    have none_lk:∀j∈l1++k::l2,∀d,(is.getD j default).dst=some d->lk σ (ep,d)=none:=by
     intro j hj d hd'
     cases hx:lk σ (ep,d) with
     | none=>rfl
     | some x=>
      have hm:=hri.free j hj d hd'
      obtain⟨_,hm'⟩:=(hri.hp.ents _ _ hx).named
      rw[hm] at hm';cases hm'
    have hfree:∀l:List Nat,l.Pairwise (· < ·)->(∀j∈l,j∈l1)->T4 (is.getD k default) (l.map fun k=>is.getD k default):=by
     intro l
     induction l with
     | nil=>intro _ _;trivial
     | cons j l ih=>
      intro hp hl
      have hj:=hl j (by simp)
      refine⟨?_,ih (At7.1 hp).2 (fun m hm=>hl m (by simp[hm]))⟩
      refine Tf (l:=(is.drop j).take (k-j)) (N8 fun y hy d hd'=>?_) ?_
      ·obtain⟨m,hm,rfl⟩:=Apq.1 (show y∈(j::l).map (fun k=>is.getD k default) from hy)
       have hmk:=hs1 m (hl m hm)
       have hjm:j<=m:=by
        rcases Ao9.1 hm with h|h
        ·omega
        ·exact Nat.le_of_lt ((At7.1 hp).1 m h)
       have hml:=hrl m (ArG _ (hl m hm))
       refine⟨is.getD m default,?_,hd'⟩
       refine ApX.2 ⟨m-j,?_⟩
       rw[AsW,if_pos (by omega),At4,show j+(m-j)=m by omega]
       simp[List.getD,hml]
      ·have hjk:=hs1 j hj
       unfold H4 at hord
       have h1:=Aiv.1 hord k (by simp[*])
       have h2:=Aiv.1 h1 j (by simpa using hjk)
       simp only[Atl] at h2
       rcases h2 with h2|h2
       ·exact h2
       ·exfalso
        obtain⟨p,_,hp⟩:=AsC.1 h2
        simp only[Aav,beq_iff_eq] at hp
        have hl:=G5 hb hc hsz hk p j hp.1.1 hp.1.2 hp.2 (by omega)
        have hjr:=(hmem j).1 (ArG _ hj)
        have hlt:j<listed.size:=by omega
        have h3:listed.getD j true=listed.getD j false:=by simp[Array.getD,hlt]
        rw[h3,hl] at hjr
        exact absurd hjr.2 (by simp)
    refine iB hK (hfree l1 (Ast.1 hsort).1 (fun j hj=>hj)) ?_ (fun y hy d hd'=>?_) (fun d hd'=>none_lk k (by simp) d hd') (fun s hs y hy d hd' hre=>?_) hi
    ·have hnd1:l1.Nodup:=((Ast.1 hsort).1).imp (fun h=>Nat.ne_of_lt h)
     have:∀(l:List Nat),l.Nodup->(∀j∈l,j<is.length)->((l.map fun k=>is.getD k default).filterMap (·.dst)).Nodup:=by
      intro l
      induction l with
      | nil=>intro _ _;simp
      | cons j l ih=>
       intro hn hl
       rw[Ait,List.filterMap_cons]
       split
       ·exact ih (AqP.1 hn).2 (fun m hm=>hl m (by simp[hm]))
       ·rename_i b hb
        refine AqP.2 ⟨fun hmem=>?_,ih (AqP.1 hn).2 (fun m hm=>hl m (by simp[hm]))⟩
        obtain⟨z,hz,hzd⟩:=Aum.1 hmem
        obtain⟨m,hm,rfl⟩:=Apq.1 hz
        have:=Vm hd (hl j (by simp)) (hl m (by simp[hm])) hb hzd
        subst this
        exact(AqP.1 hn).1 hm
     exact this l1 hnd1 (fun j hj=>hrl j (ArG _ hj))
    ·obtain⟨j,hj,rfl⟩:=Apq.1 hy
     exact none_lk j (ArG _ hj) d hd'
    ·obtain⟨j,hj,rfl⟩:=Apq.1 hy
     have hm:=hri.free j (ArG _ hj) d hd'
     have hv:=hri.rl.at_ s
     cases hg:get env s with
     | ref id off=>rw[hg] at hv hre;obtain⟨bk,hm',_⟩:=hv.ref_inv;cases hre;rw[hm] at hm';cases hm'
     | aref id ix sz off=>rw[hg] at hv hre;obtain⟨_,_,_,hm',_⟩:=hv.aref_inv;cases hre;rw[hm] at hm';cases hm'
     | arr id=>rw[hg] at hv hre;obtain⟨hm',_⟩:=hv.arr_inv;cases hre;rw[hm] at hm';cases hm'
     | _=>rw[hg] at hre;simp[BU] at hre
   have ho:ops[k]?=some ops[k]:=ApZ hk'.1
   have hokk:=hat k ops[k] hkm ho
   simp only[Av] at hi'
   rw[Cf] at hi'
   obtain⟨v,σ',hstep,hi'⟩:=hi'
   have hknt:∀d,(is.getD k default).dst=some d->d<nt:=fun d hd'=>by
    unfold P2 at hokk
    simp only[Aav] at hokk
    have:=hokk.1.1.2
    rw[hd'] at this
    simpa using this
   have hnotin:k∉l1++l2:=fun h=>by
    rcases Aio.1 h with h|h
    ·exact Nat.lt_irrefl _ (hs1 k h)
    ·exact Nat.lt_irrefl _ (hs2 k h)
   have hsub:∀j∈l1++l2,j∈l1++k::l2/\j≠k:=fun j hj=>⟨by
    rcases Aio.1 hj with h|h
    ·exact ArG _ h
    ·exact AtE _ (by simp[h]),fun e=>hnotin (e ▸ hj)⟩
   refine Iv (i:=(is.getD k default).dropd (l1.map fun k=>is.getD k default)) ho (show P2 P nt ops ops[k] ((is.getD k default).dropd (l1.map fun k=>is.getD k default))=true from hokk) hri.rl hri.hp hri.ep_lt (fun d hd'=>hri.free k hkrem d hd') hstep _ Q (fun val n' μ' H' w' hdone=>?_)
   have hget:∀j,(listed.setIfInBounds k true).getD j true=if j=k then true else listed.getD j true:=by
    intro j
    by_cases hjk:j=k
    ·simp[*]
    ·simp[AqE,At1 (Ail hjk),hjk]
   refine ih (l1++l2) (listed.setIfInBounds k true) _ σ' _ w' n' μ' H' ?_ ?_ ?_ (fun j hj hj2=>by rw[hget,if_neg (by omega)];exact hge j hj hj2) ?_ ?_ hi' (hri.step hd hrl hkrem hsub hknt hdone)
   ·simp at hfuel⊢;omega
   ·refine Ast.2 ⟨(Ast.1 hsort).1,(At7.1 (Ast.1 hsort).2.1).2,fun x hx y hy=>(Ast.1 hsort).2.2 x hx y (by simp[hy])⟩
   ·intro j
    rw[hget]
    constructor
    ·intro hj
     obtain⟨h1,h2⟩:=hsub j hj
     rw[if_neg h2]
     exact(hmem j).1 h1
    ·rintro⟨h1,h2⟩
     split at h2
     ·cases h2
     ·rename_i hne
      have:=(hmem j).2 ⟨h1,h2⟩
      rcases Aio.1 this with h|h
      ·simp[*]
      ·rcases Ao9.1 h with h|h
       ·exact absurd h hne
       simp[*]
   ·simpa using hsz
   ·intro i j hi hlt he
    rw[hget] at hi
    have hlist:listed.getD j false=true:=by
     by_cases hik:i=k
     ·subst hik;exact K3 hb hk he
     ·rw[if_neg hik] at hi;exact hc i j hi hlt he
    have hjl:j<listed.size:=by
     rcases Ar9 j listed.size with h|h
     ·exact h
     ·simp[Array.getD,Auc.2 h] at hlist
    have h1:(listed.setIfInBounds k true).getD j false=(listed.setIfInBounds k true).getD j true:=by simp[Array.getD,hjl]
    rw[h1,hget]
    by_cases hjk:j=k
    ·rw[if_pos hjk]
    ·have h3:listed.getD j true=listed.getD j false:=by simp[Array.getD,hjl]
     simp[*]
theorem Yj(hok:Dp P nt ops ops.toList is=true)(hd:B3 is=true)(hb:DH ops=true){paths:List (List Nat)}(hord:H4 ops is paths=true)(hK:RG K)
  (hQ:∀env σ a w n μ H,K env σ->RI W0 nt ep n0 is μ0 H0 σ0 w0 ds [] env σ a w n μ H->Q .normal a w) :
  ∀(fuel:Nat) (rem:List Nat) (listed:Array Bool) (env:AD) (σ:Ak) (a:Act) (w:World) (n:Nat) (μ:Id->Option Value) (H:Addr->Option Value),
   rem.length=fuel->rem.Pairwise (· < ·)->(∀k,k∈rem↔k<ops.size/\listed.getD k true=false)->listed.size=ops.size->SD ops listed->Av P W0 ep (rem.map fun k=>is.getD k default) env σ K->
   RI W0 nt ep n0 is μ0 H0 σ0 w0 ds rem env σ a w n μ H->OR P ro .any ops Q fuel listed a w:=by
 obtain⟨hlen,hat⟩:=Hq hok
 have hls:is.length=ops.size:=by rw[<-hlen];simp
 intro fuel rem listed env σ a w n μ H h1 h2 h3 h4 h5 h6 h7
 refine RH (x:=0) (AbG _) hls (fun k o hk ho=>hat k o (by grind)) hd hb hord (fun k h1 h2=>by omega) hK (fun listed env σ a w n μ H hsz hl hk hri=>?_) fuel rem listed env σ a w n μ H h1 h2 h3 (fun k h1 h2=>by omega) h4 h5 h6 h7
 refine⟨?_,hQ _ _ _ _ _ _ _ hk hri⟩
 cases h:Region.ready .any ops listed with
 | nil=>rfl
 | cons k r=>
  exfalso
  have hk:k∈Region.ready .any ops listed:=by rw[h];simp
  unfold Region.ready at hk
  grind
end
end Go.Ir
end
section
namespace Go.Ir
open Go.RowKit
variable[F1]
structure St where
 env:AD
 σ:Ak
 n:Nat
structure HA where
 μ:Id->Option Value
 H:Addr->Option Value
 σ:Ak
 w:World
 n:Nat
 ro:Option Nat:=none
 ds:List Deferred:=[]
def At(W0:World)(nt:Nat)(B:HA)(st:St)(a:Act)(w:World):Prop:=
 ∃μ H,Rl μ H nt st.env a/\Hp W0 st.σ st.n μ H w/\Fr B.μ B.H B.σ B.w μ H st.σ w/\(∀id,id.1<B.n->B.μ id=none->μ id=none)/\B.n<=st.n/\a.defers=B.ds
def Ajm(lo:Nat)(B:HA):Prop:=∃Ds:List Nat,Ds.Nodup/\(B.ds=Ds.map fun D=>{ target:=.collected D,args:=#[] })/\∀D∈Ds,lo<=D/\B.w.heap[D]?=some (.deferred (some []))/\¬EK B.μ B.σ D
structure K5 (B B':HA):Prop where
 fr:Fr B.μ B.H B.σ B.w B'.μ B'.H B'.σ B'.w
 old:∀id,id.1<B.n->B.μ id=none->B'.μ id=none
 le:B.n<=B'.n
 ro:B'.ro=B.ro
 good:∀lo,lo<=B.w.heap.size->Ajm lo B->Ajm lo B'
 top:(∀id,B.n<=id.1->B.μ id=none)->∀id,B'.n<=id.1->B'.μ id=none
theorem K5.refl(B:HA):K5 B B:=⟨Fr.refl _ _ _ _,fun _ _ h=>h,AbG _,rfl,fun _ _ h=>h,fun h=>h⟩
theorem K5.trans{B B1 B2:HA}(h:K5 B B1)(k:K5 B1 B2):K5 B B2:=
 ⟨h.fr.trans k.fr,fun id hid h0=>k.old id (Alg hid h.le) (h.old id hid h0),Aiw h.le k.le,k.ro.trans h.ro,fun lo hl hg=>k.good lo (Aiw hl h.fr.size) (h.good lo hl hg),fun ht=>k.top (h.top ht)⟩
def restrict(live:List Nat)(env:AD):AD:=live.map fun s=>(s,get env s)
theorem Bt(live:List Nat)(env:AD)(s:Nat):get (restrict live env) s=get env s\/get (restrict live env) s=.any:=by
 induction live with
 | nil=>exact .inr rfl
 | cons t r ih=>
  simp only[restrict,Ait,get]
  by_cases h:t=s
  ·grind
  ·simp only[if_neg h];exact ih
def SM(nt:Nat)(ops:Array Oper)(d1 d2:Nat)(x:X):Bool:=
 match ops.toList with
 | [o1,o2]=>o1.dst==some d1&&o1.guard.isNone&&(match o1.op with|.next x' false=>BD x' x|_=>false)&&o2.dst==some d2&&o2.guard.isNone&&(match o2.op with|.extract (.tmp t) 0=>t==d1|_=>false)&&decide (d1<nt)&&decide (d2<nt)
 | _=>false
def Hr(P:Program)(nt:Nat)(o:Oper)(d:Nat)(f:FuncId)(args:List X):Bool:=
 o.dst==some d&&decide (d<nt)&&o.guard.isNone&&(match o.op with|.call c=>(match c.callee with|.value (.func f')=>f'==f&&A5 c.args.toList args|_=>false)|_=>false)
def V8(P:Program)(nt:Nat)(ops:Array Oper)(l1:List I)(d:Nat)(f:FuncId)(args:List X)(l2:List I):Bool:=
 Dp P nt ops (ops.toList.take l1.length) l1&&(match ops[l1.length]? with|some o=>Hr P nt o d f args|none=>false)&&Dp P nt ops (ops.toList.drop (l1.length+1)) l2&&B3 l1&&B3 l2
def IE(P:Program)(nt:Nat)(ops:Array Oper)(o:Oper)(d g:Nat)(want:Bool)(f:FuncId)(args:List X):Bool:=
 o.dst==some d&&decide (d<nt)&&tC ops o.guard (some (g,want))&&(match o.op with|.call c=>(match c.callee with|.value (.func f')=>f'==f&&A5 c.args.toList args|_=>false)|_=>false)
def NP(P:Program)(nt:Nat)(ops:Array Oper)(l1:List I)(d g:Nat)(want:Bool)(f:FuncId)(args:List X)(l2:List I):Bool:=
 Dp P nt ops (ops.toList.take l1.length) l1&&(match ops[l1.length]? with|some o=>IE P nt ops o d g want f args|none=>false)&&Dp P nt ops (ops.toList.drop (l1.length+1)) l2&&B3 l1&&B3 l2
def I7(nt:Nat)(o:Oper)(d:Nat)(x:X)(args:List X):Bool:=
 o.dst==some d&&decide (d<nt)&&o.guard.isNone&&(match o.op with|.call c=>(match c.callee with|.value h'=>BD h' x&&A5 c.args.toList args|_=>false)|_=>false)
def Px(P:Program)(nt:Nat)(ops:Array Oper)(l1:List I)(d:Nat)(x:X)(args:List X)(l2:List I):Bool:=
 Dp P nt ops (ops.toList.take l1.length) l1&&(match ops[l1.length]? with|some o=>I7 nt o d x args|none=>false)&&Dp P nt ops (ops.toList.drop (l1.length+1)) l2&&B3 l1&&B3 l2
def So(P:Program)(nt:Nat)(ops:Array Oper)(l1:List I)(d:Nat)(f:FuncId)(args:List X)(paths:List (List Nat)):Bool:=
 Dp P nt ops (ops.toList.take l1.length) l1&&(match ops[l1.length]? with|some o=>Hr P nt o d f args|none=>false)&&decide (ops.size=l1.length+1)&&B3 l1&&(P.follows .mixedOrders&&DH ops&&H4 ops l1 paths) &&
  (List.range l1.length).all fun j=>paths.any fun p=>p.head? == some j&&p.getLast? == some l1.length&&Ii ops p
def Ae7(P:Program)(nt:Nat)(ops:Array Oper)(l:List I)(i:I)(paths:List (List Nat)):Bool:=
 Dp P nt ops (ops.toList.take l.length) l&&(match ops[l.length]? with|some o=>P2 P nt ops o i|none=>false)&&decide (ops.size=l.length+1)&&B3 l&&(match i.dst with|some d=>!(l.filterMap (·.dst)).contains d|none=>true)&&(P.follows .mixedOrders&&DH ops&&H4 ops l paths) &&
  (List.range l.length).all fun j=>paths.any fun p=>p.head? == some j&&p.getLast? == some l.length&&Ii ops p
def Afa(P:Program)(nt:Nat)(ops:Array Oper)(l:List I)(deps:List (List Nat)):Bool:=
 Dp P nt ops ops.toList l&&B3 l&&(P.follows .mixedOrders&&DH ops)&&(List.range l.length).all fun i=>(deps.getD i []).all fun j=>jR ops j i
def Ay(P:Program)(nt:Nat):Code->IC->Bool
 | .region _ ops draw,.ops l _ paths=>Dp P nt ops ops.toList l&&B3 l&&(!draw||(P.follows .mixedOrders&&DH ops&&H4 ops l paths))
 | .region _ ops false,.mnext d1 d2 x live=>SM nt ops d1 d2 x
 | .region _ ops false,.seqr l _=>Dp P nt ops ops.toList l&&B3 l
 | .region _ ops true,.opxe l i _ paths=>Ae7 P nt ops l i paths
 | .region _ ops true,.anyr l _ deps=>Afa P nt ops l deps
 | .region _ ops false,.opx l1 _ d f args l2 _=>V8 P nt ops l1 d f args l2
 | .region _ ops false,.opxq l1 _ d g want f args l2 _=>NP P nt ops l1 d g want f args l2
 | .region _ ops true,.opxd l1 _ d f args _ paths=>So P nt ops l1 d f args paths
 | .region _ ops false,.opxv l1 _ d x args l2 _=>Px P nt ops l1 d x args l2
 | .seq x y,.seq a b=>Ay P nt x a&&Ay P nt y b
 | .cond c x y,.cond c' a b=>BD c c'&&Ay P nt x a&&Ay P nt y b
 | .block id x,.block id' a=>id==id'&&Ay P nt x a
 | .loop x,.loop a=>Ay P nt x a
 | .scope x,.scope a=>Ay P nt x a
 | .rangeFunc g ps x y,.rfn g' ps' a b _ _=>BD g g'&&ps.toList==ps'&&(ps'.all fun p=>decide (p<nt))&&Ay P nt x a&&Ay P nt y b
 | .exit id,.exit id'=>id==id'
 | .ret,.ret=>true
 | .skip,.skip=>true
 | x,.wk a=>Ay P nt x a
 | _,_=>false
def Gw(P:Program):Prop:=∀nt c ic,F1.ck nt c ic↔Ay P nt c ic=true
def IC.nr:IC->Bool
 | .rfn ..=>false
 | .seq a b|.cond _ a b=>a.nr&&b.nr
 | .block _ c|.loop c|.wk c|.scope c=>c.nr
 | _=>true
def Fz(P:Program)(W0:World)(nt:Nat)(ic:IC)(Q:Exit->St->Prop)(st:St):Prop:=
 ∀code,Ay P nt code ic=true->∀B a w,(ic.nr=true\/B.ro=none)->At W0 nt B st a w->code.wpr P B.ro (fun e a' w'=>∃B',K5 B B'/\∃st',Q e st'/\At W0 nt B' st' a' w') a w
def Anv(P:Program)(W0:World)(nt:Nat)(ic:IC)(Q:Exit->St->Prop)(st:St):Prop:=
 ∀code,Ay P nt code ic=true->∀B a w,At W0 nt B st a w->code.wpr P B.ro (fun e a' w'=>∃st',Q e st'/\At W0 nt B st' a' w') a w
theorem Hs{P:Program}{W0:World}{nt:Nat}{ic:IC}{Q:Exit->St->Prop}{st:St}(h:∀code,Ay P nt code ic=true->∀B a w,At W0 nt B st a w->code.wpr P B.ro (fun e a' w'=>∃st',Q e st'/\At W0 nt B st' a' w') a w):Fz P W0 nt ic Q st:=
 fun code hc B a w _ hat=>AZ (h code hc B a w hat) fun e a w hh=>⟨B,K5.refl B,hh⟩
theorem AfS{P:Program}{W0:World}{nt:Nat}{ic:IC}{Q:Exit->St->Prop}{st:St}(h:Fz P W0 nt ic Q st):Fz P W0 nt (.wk ic) Q st:=fun code hc B a w hn=>h code (by cases code<;>simpa only[Ay] using hc) B a w hn
def Aqz(P:Program)(W0:World)(nt:Nat)(b:IC)(Q:Exit->St->Prop):Exit->St->Prop
 | .normal,st=>Fz P W0 nt b Q st
 | e,st=>Q e st
def Dl(id:Nat)(Q:Exit->St->Prop):Exit->St->Prop
 | .exit id',st=>if id'=id then Q .normal st else Q (.exit id') st
 | e,st=>Q e st
section rules
variable{P:Program}{W0:World}{nt:Nat}{Q Q':Exit→St→Prop}{st:St}
theorem Lu{ic:IC}(h:Fz P W0 nt ic Q st)(hq:∀e st,Q e st->Q' e st):Fz P W0 nt ic Q' st:=
 fun code hc B a w hn hat=>AZ (h code hc B a w hn hat) fun e a w ⟨B',hx,st',hq',ha⟩=>⟨B',hx,st',hq _ _ hq',ha⟩
theorem JS{x y:Bool}{p:Prop}(h:(x&&y)=true\/p):(x=true\/p)/\(y=true\/p):=by
 grind
theorem Aad{x y:IC}(h:Fz P W0 nt x (Aqz P W0 nt y Q) st):Fz P W0 nt (.seq x y) Q st:=by
 intro code hc B a w hn hat
 unfold Ay at hc
 split at hc<;>try (cases hc;done)
 all_goals rename_i heq
 all_goals try (cases heq;done)
 rename_i c1 c2 x' y'
 cases heq
 simp only[Aav] at hc
 refine UM (AZ (h c1 hc.1 B a w (JS hn).1 hat) fun e a w hh=>?_)
 obtain⟨B',hx,st',hq,ha⟩:=hh
 cases e with
 | normal=>
  have h2:=hq c2 hc.2 B' a w (by rw[hx.ro];exact(JS hn).2) ha
  rw[hx.ro] at h2
  exact AZ h2 fun e a w ⟨B2,hx2,hh⟩=>⟨B2,hx.trans hx2,hh⟩
 | exit id=>exact⟨B',hx,st',hq,ha⟩
 | goto l=>exact⟨B',hx,st',hq,ha⟩
 | ret=>exact⟨B',hx,st',hq,ha⟩
 | panic ch=>exact⟨B',hx,st',hq,ha⟩
 | outgrown=>exact⟨B',hx,st',hq,ha⟩
theorem kX(h:Q .normal st):Fz P W0 nt .skip Q st:=by
 intro code hc B a w hn hat
 cases code<;>simp[Ay] at hc
 exact RA ⟨B,K5.refl B,st,h,hat⟩
theorem zD(h:Q .ret st):Fz P W0 nt .ret Q st:=by
 intro code hc B a w hn hat
 cases code<;>simp[Ay] at hc
 exact WC ⟨B,K5.refl B,st,h,hat⟩
theorem bE{id:Nat}(h:Q (.exit id) st):Fz P W0 nt (.exit id) Q st:=by
 intro code hc B a w hn hat
 cases code<;>simp[Ay] at hc
 subst hc
 exact Rb ⟨B,K5.refl B,st,h,hat⟩
theorem YD{id:Nat}{x:IC}(h:Fz P W0 nt x (Dl id Q) st):Fz P W0 nt (.block id x) Q st:=by
 intro code hc B a w hn hat
 cases code<;>simp[Ay] at hc
 obtain⟨rfl,hc⟩:=hc
 refine N3 (AZ (h _ hc B a w hn hat) fun e a w hh=>?_)
 obtain⟨B',hx,st',hq,ha⟩:=hh
 cases e with
 | exit id'=>
  simp only[Dl] at hq
  simp only[Exit.inBlock]
  grind
 | normal=>exact⟨B',hx,st',hq,ha⟩
 | goto l=>exact⟨B',hx,st',hq,ha⟩
 | ret=>exact⟨B',hx,st',hq,ha⟩
 | panic ch=>exact⟨B',hx,st',hq,ha⟩
 | outgrown=>exact⟨B',hx,st',hq,ha⟩
theorem QI{c:X}{x y:IC}{t:Bool}(ht:ev (get st.env) c=.b t)(hx:t=true->Fz P W0 nt x Q st)(hy:t=false->Fz P W0 nt y Q st):Fz P W0 nt (.cond c x y) Q st:=by
 intro code hc B a w hn hat
 cases code<;>simp[Ay] at hc
 obtain⟨⟨h1,h2⟩,h3⟩:=hc
 have hat':=hat
 obtain⟨μ,H,hr,_⟩:=hat
 have:=Ao hr h1
 rw[ht] at this
 exact EI this.b_inv (fun h=>hx h _ h2 B a w (JS hn).1 hat') (fun h=>hy h _ h3 B a w (JS hn).2 hat')
theorem XM{c:X}{x y:IC}(ht:ev (get st.env) c=.ub)(hx:Fz P W0 nt x Q st)(hy:Fz P W0 nt y Q st):Fz P W0 nt (.cond c x y) Q st:=by
 intro code hc B a w hn hat
 cases code<;>simp[Ay] at hc
 obtain⟨⟨h1,h2⟩,h3⟩:=hc
 have hat':=hat
 obtain⟨μ,H,hr,_⟩:=hat
 have hv:=Ao hr h1
 rw[ht] at hv
 obtain⟨t,e⟩:=hv.ub_inv
 exact EI e (fun h=>hx _ h2 B a w (JS hn).1 hat') (fun h=>hy _ h3 B a w (JS hn).2 hat')
def WP(Inv:Nat->St->Prop)(m:Nat)(Q:Exit->St->Prop):Exit->St->Prop
 | .normal,st=>∃m',m'<m/\Inv m' st
 | e,st=>Q e st
theorem iH{c:IC}{Inv:Nat->St->Prop}(round:∀m st,Inv m st->Fz P W0 nt c (WP Inv m Q) st)(m:Nat)(h:Inv m st):Fz P W0 nt (.loop c) Q st:=by
 intro code hc B a w hn hat
 cases code<;>simp[Ay] at hc
 rename_i body
 refine Ql (fun m a w=>∃B',K5 B B'/\∃st,Inv m st/\At W0 nt B' st a w) (fun m a w hI=>?_) m a w ⟨B,K5.refl B,st,h,hat⟩
 obtain⟨B1,hx1,st1,hinv,hat1⟩:=hI
 have hr:=round m st1 hinv body hc B1 a w (by rw[hx1.ro];exact hn) hat1
 rw[hx1.ro] at hr
 refine AZ hr fun e a w hh=>?_
 obtain⟨B',hx,st',hq,ha⟩:=hh
 have hx:=hx1.trans hx
 cases e with
 | normal=>obtain⟨m',hlt,hi⟩:=hq;exact⟨m',hlt,B',hx,st',hi,ha⟩
 | exit id=>exact⟨B',hx,st',hq,ha⟩
 | goto l=>exact⟨B',hx,st',hq,ha⟩
 | ret=>exact⟨B',hx,st',hq,ha⟩
 | panic ch=>exact⟨B',hx,st',hq,ha⟩
 | outgrown=>exact⟨B',hx,st',hq,ha⟩
theorem Hp.more{σ:Ak}{n n':Nat}{μ:Id->Option Value}{H:Addr->Option Value}{w:World}(h:Hp W0 σ n μ H w)(hn:n<=n'):Hp W0 σ n' μ H w:=
 ⟨h.base,h.pins,h.ents,h.unp,h.sep,fun id hid=>h.bd id (Aiw hn hid)⟩
theorem Hp.drew{σ:Ak}{n:Nat}{μ:Id->Option Value}{H:Addr->Option Value}{w:World}(h:Hp W0 σ n μ H w):Hp W0 σ n μ H w.drew:=by
 refine⟨h.base.drew,h.pins,fun id e hl=>?_,h.unp,h.sep,h.bd⟩
 exact(h.ents id e hl).keep (fun _ _ h=>h) (fun _ _ h=>h) (fun _ _=>rfl)
theorem Rx{l:List I}{live:List Nat}{paths:List (List Nat)}
  (h:Av P W0 st.n l st.env st.σ fun env σ=>∀n',st.n<n'->Q .normal ⟨restrict live env,σ,n'⟩):Anv P W0 nt (.ops l live paths) Q st:=by
 intro code hc B a w hat
 cases code<;>simp only[Ay] at hc<;>try (cases hc;done)
 rename_i id ops draw
 simp only[Aav,Atl,AmN] at hc
 obtain⟨⟨hok,hd⟩,hdraw⟩:=hc
 obtain⟨μ,H,hr,hp,hf,hold,hn,hds⟩:=hat
 obtain⟨hlen,_⟩:=Hq hok
 have hls:l.length=ops.size:=by rw[<-hlen];simp
 have hmap:(List.range l.length).map (fun k=>l.getD k default)=l:=by
  apply AsQ
  grind
 replace h:Av P W0 st.n l st.env st.σ fun env σ=>∃τ,CQ σ τ/\∀n',st.n<n'->Q .normal ⟨restrict live env,τ,n'⟩:=BL (fun env σ hh=>⟨σ,CQ.refl _,hh⟩) h
 have hK:RG fun env σ=>∃τ,CQ σ τ/\∀n',st.n<n'->Q .normal ⟨restrict live env,τ,n'⟩:=by
  intro env env' σ σ' hg hs hh
  obtain⟨τ,h1,h2⟩:=hh
  refine⟨τ,hs.symm.trans h1,fun n' hn'=>?_⟩
  have:restrict live env'=restrict live env:=As6 fun s _=>by rw[hg s]
  grind
 have fin:∀w0,(∀(env:AD) (σ:Ak) (a:Act) (w:World) (n:Nat) (μ':Id->Option Value) (H':Addr->Option Value),(∃τ,CQ σ τ/\∀n',st.n<n'->Q .normal ⟨restrict live env,τ,n'⟩)->Fr B.μ B.H B.σ B.w μ H st.σ w0->RI W0 nt st.n st.n l μ H st.σ w0 B.ds [] env σ a w n μ' H'->
   ∃st',Q .normal st'/\At W0 nt B st' a w):=by
  intro w0 env σ a w n μ' H' hq hf0 hri
  obtain⟨τ,hs,hq⟩:=hq
  have hsub:∀id e,lk τ id=some e->lk σ id=some e:=fun id e h=>by rw[hs id];exact h
  have hfr:=hf0.trans hri.fr
  refine⟨⟨restrict live env,τ,n⟩,hq n hri.ep_lt,μ',H',⟨hri.rl.size,fun s=>?_⟩,hri.hp.part hsub,⟨hfr.mu,hfr.hp,hfr.size,hfr.keep,hfr.pin,fun bk hb ho=>hfr.dom bk hb ?_⟩,fun id hid h0=>?_,Aiw hn (Nat.le_of_lt hri.ep_lt),hri.dfs⟩
  rotate_left 1
  ·obtain⟨id,e,hl,hbk⟩:=ho
   exact⟨id,e,hsub _ _ hl,hbk⟩
  rotate_left 1
  ·rcases Bt live env s with h|h
   ·rw[h];exact hri.rl.at_ s
   ·rw[h];exact .any _
  ·exact hri.old id (Alg hid hn) (hold id hid h0)
 have free:∀(rem:List Nat),∀k∈rem,∀d,(l.getD k default).dst=some d->μ (st.n,d)=none:=fun rem k _ d _=>hp.bd (st.n,d) (AbG _)
 cases draw with
 | false=>
  refine Gg ?_
  refine MU (W0:=W0) (ep:=st.n) (n0:=st.n) (μ0:=μ) (H0:=H) (σ0:=st.σ) (w0:=w) hok hd (fun env σ a w n μ' H' hq hri=>fin _ env σ a w n μ' H' hq hf hri) (List.range ops.size) st.env st.σ a w (st.n+1) μ H List.nodup_range (fun k hk=>by rw[hls];simpa using hk) ?_
   ⟨hr,hp.more (Ani _),Acq _,AbG _,free _,Fr.refl _ _ _ _,fun _ _ h=>h,hds⟩
  grind
 | true=>
  simp only[Bool.true_eq_false,false_or] at hdraw
  obtain⟨⟨hmix,he⟩,hord⟩:=hdraw
  refine Gu fun t=>?_
  simp only[Region.schedule,hmix,Bool.true_or,if_true]
  refine Jm ops.size t _ a _ ?_
  have hfd:Fr B.μ B.H B.σ B.w μ H st.σ w.drew:=⟨hf.mu,hf.hp,hf.size,hf.keep,hf.pin,hf.dom⟩
  refine Yj (W0:=W0) (ep:=st.n) (n0:=st.n) (μ0:=μ) (H0:=H) (σ0:=st.σ) (w0:=w.drew) hok hd he hord hK (fun env σ a w n μ' H' hq hri=>fin _ env σ a w n μ' H' hq hfd hri) ops.size (List.range ops.size) (Array.replicate ops.size false) st.env st.σ a w.drew (st.n+1) μ H (by simp) List.pairwise_lt_range (fun k=>?_) (by simp) (fun i j hi hlt hh=>?_) ?_
   ⟨hr,hp.drew.more (Ani _),Acq _,AbG _,free _,Fr.refl _ _ _ _,fun _ _ h=>h,hds⟩
  ·simp only[Atg]
   constructor
   ·intro hk;exact⟨hk,by simp[Array.getD,hk]⟩
   ·intro hk;exact hk.1
  ·simp[Array.getD,hlt] at hi
  grind
theorem TU{l:List I}{live:List Nat}{paths:List (List Nat)}
  (h:Av P W0 st.n l st.env st.σ fun env σ=>∀n',st.n<n'->Q .normal ⟨restrict live env,σ,n'⟩):Fz P W0 nt (.ops l live paths) Q st:=Hs (Rx h)
theorem qV{l:List I}{live:List Nat}
  (h:Av P W0 st.n l st.env st.σ fun env σ=>∀n',st.n<n'->Q .normal ⟨restrict live env,σ,n'⟩):Fz P W0 nt (.seqr l live) Q st:=by
 intro code hc
 refine TU (live:=live) (paths:=[]) h code ?_
 cases code with
 | region rid ops draw=>
  cases draw with
  | true=>simp[Ay] at hc
  | false=>simpa[Ay] using hc
 | _=>simp[Ay] at hc
end rules
end Go.Ir
end
section
namespace Go.Ir
open Go.RowKit
variable[F1]
inductive K6 (φ:Id->Option (List V)):V->V->Prop where
 | refl (v:V):K6 φ v v
 | any (v:V):K6 φ v .any
 | nil:K6 φ .nil (.sl [])
 | arr (id:Id) (es es':List V) (h:φ id=some es) (hl:es.length=es'.length) (hc:∀(k:Nat) (c c':V),es[k]?=some c->es'[k]?=some c'->K6 φ c c') (hk:∀(k:Nat) (c c':V),es[k]?=some c->es'[k]?=some c'->(cells c').length=(cells c).length/\c.ok=true/\c'.ok=true):K6 φ (.arr id) (.sl es')
 | sl (es es':List V) (hl:es.length=es'.length) (hc:∀(k:Nat) (c c':V),es[k]?=some c->es'[k]?=some c'->K6 φ c c') (hk:∀(k:Nat) (c c':V),es[k]?=some c->es'[k]?=some c'->(cells c').length=(cells c).length/\c.ok=true/\c'.ok=true):K6 φ (.sl es) (.sl es')
 | agg (cs cs':List V) (hl:cs.length=cs'.length) (hc:∀(k:Nat) (c c':V),cs[k]?=some c->cs'[k]?=some c'->K6 φ c c'):K6 φ (.agg cs) (.agg cs')
 | tup (cs cs':List V) (hl:cs.length=cs'.length) (hc:∀(k:Nat) (c c':V),cs[k]?=some c->cs'[k]?=some c'->K6 φ c c'):K6 φ (.tup cs) (.tup cs')
theorem S8{μ:Id->Option Value}{H:Addr->Option Value}{e:V}(ho:e.ok=true){seg:List Value}(h:AG μ H (cells e) seg):∃val,Ap μ H e val/\val.cells.toList=seg:=by
 have one:cells e=[e]->∃val,Ap μ H e val/\val.cells.toList=seg:=by
  intro hc
  rw[hc] at h
  match seg,h with
  | [x],h=>
   refine⟨x,h.at_ 0 e x rfl rfl,?_⟩
   have:=h.one x (by simp)
   cases x<;>first|rfl|simp[Value.oneCell'] at this
  | [],h=>have:=h.len;simp at this
  | _::_::_,h=>have:=h.len;simp at this
 cases e with
 | agg cs=>exact⟨.agg seg.toArray,.agg cs seg h.len h.one h.at_,rfl⟩
 | tup=>simp[V.ok] at ho
 | any=>simp[V.ok] at ho
 | _=>exact one rfl
theorem J1{μ:Id->Option Value}{H H':Addr->Option Value}:∀{es es':List V},es.length=es'.length->
  (∀(k:Nat) (c c':V),es[k]?=some c->es'[k]?=some c'->(∀val,Ap μ H c val->Ap μ H' c' val)/\(cells c').length=(cells c).length/\c.ok=true/\c'.ok=true)->
  ∀{vals:List Value},AG μ H (AF es) vals->AG μ H' (AF es') vals
 | [],[],_,_,vals,h=>by
  have:vals=[]:=Apu (by rw[<-h.len];rfl)
  subst this
  exact AG.nil_
 | e::es,e'::es',hl,hc,vals,h=>by
  have h0:=hc 0 e e' rfl rfl
  have hf:AF (e::es)=cells e++AF es:=by simp[AF]
  have hf':AF (e'::es')=cells e'++AF es':=by simp[AF]
  rw[hf] at h
  rw[hf']
  have h1:=h.take (cells e).length
  have h2:=h.drop (cells e).length
  rw[List.take_left] at h1
  rw[Auh] at h2
  obtain⟨val,hv,hseg⟩:=S8 h0.2.2.1 h1
  have hv':=((h0.1 val hv).toCells h0.2.2.2).1
  rw[hseg] at hv'
  have ih:=J1 (es:=es) (es':=es') (by simpa using hl) (fun k c c' a b=>hc (k+1) c c' (by simpa using a) (by simpa using b)) h2
  have:=hv'.append ih
  simp_all
 | [],_::_,hl,_,_,_=>by simp at hl
 | _::_,[],hl,_,_,_=>by simp at hl
theorem Ap.le{φ:Id->Option (List V)}{μ:Id->Option Value}{H H':Addr->Option Value}(hH:∀a x,H a=some x->H' a=some x)
  (hφ:∀id es,φ id=some es->∀val,μ id=some val->(∃A cap,val=.slice A es.length cap/\es.length<=cap/\es.length<=AM/\
   (es=[]\/∃(ad:Addr) (sz:Nat) (vals:List Value),A=some ad/\(∀e∈es,(cells e).length=sz)/\AG μ H (AF es) vals/\∀(k:Nat) (v:Value),vals[k]?=some v->H' (ad.add k)=some v)))
  {v v':V}(hle:K6 φ v v'):∀{val:Value},Ap μ H v val->Ap μ H' v' val:=by
 have slice:∀(es es':List V) (ad:Addr) (cap sz:Nat) (vals:List Value),es.length=es'.length->
   (∀(k:Nat) (c c':V),es[k]?=some c->es'[k]?=some c'->(∀val,Ap μ H c val->Ap μ H' c' val)/\(cells c').length=(cells c).length/\c.ok=true/\c'.ok=true)->
   AG μ H (AF es) vals->es.length<=cap->es.length<=AM->(∀e∈es,(cells e).length=sz)->
   (∀(k:Nat) (v:Value),vals[k]?=some v->H' (ad.add k)=some v)->Ap μ H' (.sl es') (.slice (some ad) es.length cap):=by
  intro es es' ad cap sz vals hl hc hv h1 h2 h3 h6
  have hcv:=J1 hl hc hv
  have:=Ap.slC (μ:=μ) (H:=H') es' ad cap sz vals (by rw[<-hl];exact h1) (by rw[<-hl];exact h2) (fun e he=>?_) hcv.len hcv.one h6 hcv.at_
  ·rw[hl];exact this
  ·obtain⟨k,hk⟩:=ApX.1 he
   have hlt:k<es.length:=by grind
   have he':es[k]?=some es[k]:=Ain hlt
   grind
 induction hle with
 | refl v=>intro val h;exact h.mono (fun _ _ h=>h) hH
 | any v=>intro val h;exact .any val
 | nil=>intro val h;rw[h.nil_inv];exact .slE none 0
 | arr id es es' hid hl hc hk ih=>
  intro val h
  obtain⟨hm,_⟩:=h.arr_inv
  obtain⟨A,cap,rfl,h1,h2,h3⟩:=hφ id es hid val hm
  rcases h3 with rfl|⟨ad,sz,vals,rfl,hsz,hrel,hpin⟩
  ·have:es'=[]:=Apu (by rw[<-hl];rfl)
   subst this
   exact .slE _ _
  ·exact slice es es' ad cap sz vals hl (fun k c c' a b=>⟨fun val hv=>ih k c c' a b hv,hk k c c' a b⟩) hrel h1 h2 hsz hpin
 | sl es es' hl hc hk ih=>
  intro val h
  obtain⟨A,cap,rfl,h1,h2,h3⟩:=h.sl_inv
  rcases h3 with rfl|⟨ad,sz,vals,rfl,hsz,hrel,hpin⟩
  ·have:es'=[]:=Apu (by rw[<-hl];rfl)
   subst this
   exact .slE _ _
  ·exact slice es es' ad cap sz vals hl (fun k c c' a b=>⟨fun val hv=>ih k c c' a b hv,hk k c c' a b⟩) hrel h1 h2 hsz (fun k v hk=>hH _ _ (hpin k v hk))
 | agg cs cs' hl hc ih=>
  intro val h
  obtain⟨vals,rfl,hrel⟩:=h.isA_inv rfl
  refine .agg cs' vals (by rw[<-hl];exact hrel.len) hrel.one (fun k c' v hk hv=>?_)
  have hlt:k<cs.length:=by grind
  have he:cs[k]?=some cs[k]:=Ain hlt
  exact ih k _ _ he hk (hrel.at_ k _ v he hv)
 | tup cs cs' hl hc ih=>
  intro val h
  obtain⟨vals,rfl,hrel⟩:=h.tup_inv
  refine .tup cs' vals (by rw[<-hl];exact hrel.len) (fun k c' v hk hv=>?_)
  have hlt:k<cs.length:=by grind
  have he:cs[k]?=some cs[k]:=Ain hlt
  exact ih k _ _ he hk (hrel.at_ k _ v he hv)
inductive Kz (φ:Id->Option (List V)):AC->AC->Prop where
 | box (v v':V) (h:K6 φ v v') (hl:(cells v').length=(cells v).length) (ho:v.ok=true) (ho':v'.ok=true):Kz φ (.box v) (.box v')
 | tbox (t:TypeId) (v v':V) (h:K6 φ v v') (hl:(cells v').length=(cells v).length) (ho:v.ok=true) (ho':v'.ok=true):Kz φ (.tbox t v) (.tbox t v')
 | arr (e sz:Nat) (es es':List V) (hl:es.length=es'.length) (hc:∀(k:Nat) (c c':V),es[k]?=some c->es'[k]?=some c'->K6 φ c c'/\(cells c').length=(cells c).length/\c.ok=true/\c'.ok=true):Kz φ (.arr e sz es) (.arr e sz es')
 | loop (nt:Nat) (env env':AD) (ps:List Nat) (a b:IC) (st:LoopState) (pd:Option (Option Nat)) (h:∀s,K6 φ (get env s) (get env' s)):Kz φ (.loop nt env ps a b st pd) (.loop nt env' ps a b st pd)
 | refl (e:AC):Kz φ e e
/- cells pinned when the slices of φ are frozen -/
open Classical in
noncomputable def Bg(φ:Id->Option (List V))(μ:Id->Option Value)(H:Addr->Option Value)(w:World):Addr->Option Value:=fun ad=>
 match H ad with
 | some v=>some v
 | none=>if ∃id es,φ id=some es/\BI (μ id)=some ad.block then w.cell? ad else none
theorem At.weak{W0:World}{nt:Nat}{B:HA}{st:St}{a:Act}{w:World}(h:At W0 nt B st a w)(φ:Id->Option (List V)){env':AD}{σ':Ak}
  (hφ:∀id es,φ id=some es->(∃e sz,lk st.σ id=some (.arr e sz es))/\lk σ' id=none)
  (henv:∀s,K6 φ (get st.env s) (get env' s))(hσ:∀id e',lk σ' id=some e'->∃e,lk st.σ id=some e/\Kz φ e e'){n':Nat}(hn:st.n<=n'):At W0 nt B ⟨env',σ',n'⟩ a w:=by
 obtain⟨μ,H,hr,hp,hf,hold,hbn,hds⟩:=h
 have hmono:∀ad v,H ad=some v->Bg φ μ H w ad=some v:=by
  intro ad v hv
  simp only[Bg,hv]
 have hown:∀{id es bk},φ id=some es->BI (μ id)=some bk->EK μ st.σ bk:=by
  intro id es bk hid hb
  obtain⟨⟨e,sz,hl⟩,_⟩:=hφ id es hid
  exact⟨id,_,hl,hb⟩
 have hval:∀id es,φ id=some es->∀val,μ id=some val->(∃A cap,val=.slice A es.length cap/\es.length<=cap/\es.length<=AM/\
   (es=[]\/∃(ad:Addr) (sz:Nat) (vals:List Value),A=some ad/\(∀e∈es,(cells e).length=sz)/\AG μ H (AF es) vals/\∀(k:Nat) (v:Value),vals[k]?=some v->Bg φ μ H w (ad.add k)=some v)):=by
  intro id es hid val hm
  obtain⟨⟨e,sz,hl⟩,_⟩:=hφ id es hid
  obtain⟨vals,_,hrow,hlim,hsz,hrel⟩:=CO hp hl hm
  rcases AtO es.length with h0|h0
  ·have:es=[]:=Apu h0
   subst this
   rcases hrow.2 with⟨rfl,_⟩|⟨g,cap,cur,rfl,_⟩
   ·grind
   grind
  ·obtain⟨g,cap,cur,rfl,hB,hg,hcs,hcap,hmax,htake⟩:=F3 hrow h0
   refine⟨_,cap,rfl,hcap,hlim,.inr ⟨⟨g,0,none⟩,sz,vals,rfl,hsz,hrel,fun k v hk=>?_⟩⟩
   have hcell:=hrow.cells (g:=g) rfl k v hk
   have hnone:H ((⟨g,0,none⟩:Addr).add k)=none:=hp.unp g (hown hid (by simp[hm,BI])) _ (by rw[Ch])
   have hex:∃id es,φ id=some es/\BI (μ id)=some ((⟨g,0,none⟩:Addr).add k).block:=⟨id,es,hid,by rw[Ch,hm];rfl⟩
   simp only[Bg,hnone]
   simp_all
 have hrel:∀{v v':V} {val:Value},K6 φ v v'->Ap μ H v val->Ap μ (Bg φ μ H w) v' val:=fun hle hv=>Ap.le hmono hval hle hv
 have own':∀bk,EK μ σ' bk->EK μ st.σ bk/\∀id es,φ id=some es->BI (μ id)≠some bk:=by
  rintro bk ⟨id,e',hl,hb⟩
  obtain⟨e,hl',_⟩:=hσ id e' hl
  refine⟨⟨id,e,hl',hb⟩,fun id2 es hid hb2=>?_⟩
  obtain⟨⟨e2,sz,hl2⟩,hnone⟩:=hφ id2 es hid
  have:=hp.sep _ _ _ _ bk hl' hl2 hb hb2
  grind
 refine⟨μ,Bg φ μ H w,⟨hr.size,fun s=>hrel (henv s) (hr.at_ s)⟩,⟨hp.base,?_,?_,?_,?_,fun id hid=>hp.bd id (Aiw hn hid)⟩,⟨hf.mu,fun ad v hv=>hmono ad v (hf.hp ad v hv),hf.size,hf.keep,?_,?_⟩,hold,Aiw hbn hn,hds⟩
 ·intro ad v hv
  simp only[Bg] at hv
  split at hv
  ·rename_i x hx;rw[<-hv];exact hp.pins ad x hx
  ·split at hv
   ·exact hv
   ·cases hv
 ·intro id e' hl
  obtain⟨e,hl',hle⟩:=hσ id e' hl
  have hent:=hp.ents id e hl'
  cases hle with
  | refl=>exact hent.keep (fun _ _ h=>h) hmono (fun _ _=>rfl)
  | box v v' hle hcl ho ho'=>
   obtain⟨bk,vals,t,hm,hB,hh,hc⟩:=hent
   refine⟨bk,vals,t,hm,hB,hh,?_⟩
   obtain⟨val,hv,hseg⟩:=S8 ho hc
   have:=((hrel hle hv).toCells ho').1
   rwa [hseg] at this
  | tbox t v v' hle hcl ho ho'=>
   obtain⟨bk,vals,hm,hB,hh,hc⟩:=hent
   refine⟨bk,vals,hm,hB,hh,?_⟩
   obtain⟨val,hv,hseg⟩:=S8 ho hc
   have:=((hrel hle hv).toCells ho').1
   rwa [hseg] at this
  | arr e sz es es' hl2 hc2=>
   obtain⟨v,vals,hm,h1,h2,h3,h4,h5⟩:=hent
   refine⟨v,vals,hm,h1,by rw[<-hl2];exact h2,by rw[<-hl2];exact h3,fun x hx=>?_,J1 hl2 (fun k c c' p q=>⟨fun val hv=>hrel (hc2 k c c' p q).1 hv,(hc2 k c c' p q).2⟩) h5⟩
   obtain⟨k,hk⟩:=ApX.1 hx
   have hlt:k<es.length:=by grind
   have he':es[k]?=some es[k]:=Ain hlt
   rw[(hc2 k _ _ he' hk).2.1]
   exact h4 _ (AtT hlt)
  | loop nt env env' ps a b st pd hle=>
   obtain⟨l,r,hm,hB,hh,hx,hv⟩:=hent
   exact⟨l,r,hm,hB,hh,hx,fun s=>hrel (hle s) (hv s)⟩
 ·intro bk ho ad hb
  obtain⟨ho',hne⟩:=own' bk ho
  simp only[Bg,hp.unp bk ho' ad hb]
  rw[if_neg]
  grind
 ·intro id e id' e' bk l1 l2 b1 b2
  obtain⟨x,l1',_⟩:=hσ id e l1
  obtain⟨y,l2',_⟩:=hσ id' e' l2
  exact hp.sep _ _ _ _ bk l1' l2' b1 b2
 ·intro ad hb ho
  have h1:=hf.pin ad hb ho
  cases hh:H ad with
  | some v=>grind
  | none=>
   simp only[Bg,hh]
   rw[if_neg]
   ·rw[<-h1,hh]
   ·rintro⟨id,es,hid,hb2⟩
    exact ho (hf.dom ad.block hb (hown hid hb2))
 ·intro bk hb ho
  exact hf.dom bk hb (own' bk ho).1
end Go.Ir
end
section
namespace Go.Ir
open Go.RowKit
variable[F1]
inductive R where
 | t (s:Nat)
 | c (s n:Nat) (ag:Bool)
 deriving Inhabited
def okR(P:Program):ResultVar->R->Bool
 | .tmp t,.t s=>t==s
 | .cell t ty,.c s n ag=>t==s&&BR P ty==some n&&CN P ty==some ag
 | _,_=>false
def QO(P:Program):List ResultVar->List R->Bool
 | [],[]=>true
 | x::xs,y::ys=>okR P x y&&QO P xs ys
 | _,_=>false
def Qj(st:St):R->V->Prop
 | .t s,v=>get st.env s=v
 | .c s n ag,v=>∃id off u,get st.env s=.ref id off/\lk st.σ id=some (.box u)/\sub u off n ag=some v
def Dj(st:St):List R->List V->Prop
 | [],[]=>True
 | r::rs,v::vs=>Qj st r v/\Dj st rs vs
 | _,_=>False
def Lz:List V->V
 | [v]=>v
 | vs=>.tup vs
def Aw(P:Program)(f:FuncId)(nt:Nat)(ic:IC)(rs:List R):Bool:=
 match P.funcs[f]? with
 | some fn => (match fn.body with | some c => Ay P nt c ic | none => false)&&fn.ntmps==nt&&QO P fn.results.toList rs&&!(fn.name == "runtime.NumGoroutine")
 | none=>false
def params:Nat->List V->AD
 | _,[]=>[]
 | k,v::vs=>(k,v)::params (k+1) vs
theorem HU:∀(k:Nat) (vs:List V) (s:Nat),get (params k vs) s=if k<=s then(vs[s-k]?).getD .any else .any
 | k,[],s=>by simp[params,get]
 | k,v::vs,s=>by
  simp only[params,get]
  by_cases h:k=s
  ·subst h;simp
  ·rw[if_neg h,HU (k+1) vs s]
   grind
def Lf(tmps:Array Value):ResultVar->Sem Value
 | .tmp t=>pure (tmps.getD t undef)
 | .cell a t=>do loadVar t (<-asAddr (tmps.getD a undef))
theorem SR(fn:Func)(tmps:Array Value):results fn tmps=(do
  let vs <-fn.results.mapM (Lf tmps)
  pure (if h:vs.size=1 then vs[0] else .tuple vs)):=by
 unfold results
 have:(fun x:ResultVar=>match x with
  | .tmp t=>(pure (tmps.getD t undef):Sem Value)
  | .cell a t=>do loadVar t (<-asAddr (tmps.getD a undef)))=Lf tmps:=by
  funext x
  cases x<;>rfl
 rw[<-this]
 rfl
section
variable{P:Program}{W0:World}{nt:Nat}
theorem Vy{st:St}{a:Act}{w:World}{μ:Id->Option Value}{H:Addr->Option Value}(hr:Rl μ H nt st.env a)(hp:Hp W0 st.σ st.n μ H w) :
  ∀(rv:List ResultVar) (rs:List R) (vs:List V),QO P rv rs=true->Dj st rs vs->∃vals:List Value,
   (rv.mapM (Lf a.tmps)).run P w=.ok vals w/\VRels μ H vs vals
 | [],[],[],_,_=>⟨[],by simp,VRels.nil_⟩
 | x::xs,y::ys,v::vs,hok,hres=>by
  simp only[QO,Aav] at hok
  obtain⟨hres1,hres2⟩:=hres
  obtain⟨vals,hrun,hrel⟩:=Vy hr hp xs ys vs hok.2 hres2
  have one:∃val,(Lf a.tmps x).run P w=.ok val w/\Ap μ H v val:=by
   have h1:=hok.1
   unfold okR at h1
   split at h1
   ·have:=beq_iff_eq.1 h1
    subst this
    simp only[Qj] at hres1
    refine⟨_,rfl,?_⟩
    rw[<-hres1]
    exact hr.at_ _
   ·rename_i tt ty ss nn ag
    simp only[Aav,beq_iff_eq] at h1
    obtain⟨⟨rfl,hsz⟩,hag⟩:=h1
    obtain⟨id,off,u,hg,hl,hs⟩:=hres1
    have hv:=hr.at_ tt
    rw[hg] at hv
    obtain⟨bk,hm,e1⟩:=hv.ref_inv
    obtain⟨bk',vals',t',hm',_,hh,hc⟩:=hp.ents _ _ hl
    rw[hm] at hm'
    cases hm'
    obtain⟨val,hrun',hrel'⟩:=Ky hsz hag w vals'.toList ⟨bk,0,none⟩ off hc (fun k v hk=>by
     rw[Ch,cell_of_row w bk k vals' t' (0,0) hh]
     simpa using hk) hs
    refine⟨val,?_,hrel'⟩
    rw[Ch] at hrun'
    simp only[Lf,Afu,e1,asAddr,Ai0,AfH,hrun']
   ·cases h1
  obtain⟨val,h2,h3⟩:=one
  refine⟨val::vals,?_,VRels.cons h3 hrel⟩
  simp_all
 | [],_::_,_,h,_=>by simp[QO] at h
 | _::_,[],_,h,_=>by simp[QO] at h
 | [],[],_::_,_,h=>h.elim
 | _::_,_::_,[],_,h=>h.elim
theorem EX{fn:Func}{st:St}{a:Act}{w:World}{μ:Id->Option Value}{H:Addr->Option Value}(hr:Rl μ H nt st.env a)(hp:Hp W0 st.σ st.n μ H w){rs:List R}{vs:List V}
  (hok:QO P fn.results.toList rs=true)(hres:Dj st rs vs):∃val,(results fn a.tmps).run P w=.ok val w/\Ap μ H (Lz vs) val:=by
 obtain⟨vals,hrun,hrel⟩:=Vy hr hp _ rs vs hok hres
 rw[SR,Array.mapM_eq_mapM_toList]
 simp only[Afu,Sem.run_map,hrun,AfH]
 match vs,vals,hrel with
 | [v],[val],hrel=>exact⟨val,by simp,hrel.at_ 0 v val rfl rfl⟩
 | [],[],hrel=>exact⟨.tuple #[],by simp,.tup [] [] rfl hrel.at_⟩
 | v::v'::vs,x::x'::xs,hrel=>exact⟨.tuple (x::x'::xs).toArray,by simp,.tup _ _ hrel.len hrel.at_⟩
 | [],_::_,hrel=>have:=hrel.len;simp at this
 | [v],[],hrel=>have:=hrel.len;simp at this
 | [v],_::_::_,hrel=>have:=hrel.len;simp at this
 | _::_::_,[],hrel=>have:=hrel.len;simp at this
 | _::_::_,[_],hrel=>have:=hrel.len;simp at this
def Fin(rs:List R)(vs:List V)(σ':Ak):Exit->St->Prop
 | .normal,st|.ret,st=>Dj st rs vs/\∀id e,lk σ' id=some e->lk st.σ id=some e
 | _,_=>False
def Amt(s:Nat)(x:AC)(σ':Ak):Exit->St->Prop
 | .normal,st|.ret,st=>∃id,get st.env s=.arr id/\lk st.σ id=some x/\lk σ' id=none/\∀id e,lk σ' id=some e->lk st.σ id=some e
 | _,_=>False
theorem H3{f:FuncId}{ic:IC}{rs:List R}(h:Aw P f nt ic rs=true):∃fn c,P.funcs[f]?=some fn/\fn.body=some c/\Ay P nt c ic=true/\fn.ntmps=nt/\QO P fn.results.toList rs=true/\callable P f=true:=by
 unfold Aw at h
 cases hf:P.funcs[f]? with
 | none=>simp[hf] at h
 | some fn=>
  cases hb:fn.body with
  | none=>simp[hf,hb] at h
  | some c=>
   simp only[hf,hb,Aav,beq_iff_eq] at h
   exact⟨fn,c,rfl,hb,h.1.1.1,h.1.1.2,h.1.2,by unfold callable;grind⟩
theorem KD{args:List V}{σ:Ak}{n:Nat}{w:World}{μ:Id->Option Value}{H:Addr->Option Value}{vals:List Value}(hargs:args.length<=nt)(hp:Hp W0 σ n μ H w)(hv:VRels μ H args vals) :
  At W0 nt ⟨μ,H,σ,w,n,none,[]⟩ ⟨params 0 args,σ,n⟩ { tmps:=vals.toArray++Array.replicate (nt-vals.toArray.size) undef,defers:=[] } w:=by
 refine⟨μ,H,⟨?_,fun s=>?_⟩,hp,Fr.refl _ _ _ _,fun _ _ h=>h,AbG _,rfl⟩
 ·have:=hv.len
  simp
  omega
 ·rw[HU]
  simp only[Ajt,if_true,AtP]
  cases hs:args[s]? with
  | none=>exact .any _
  | some v=>
   obtain⟨val,hval,hrel⟩:=hv.get hs
   have hlt:s<vals.length:=(AlY.1 hval).1
   have:(vals.toArray++Array.replicate (nt-vals.toArray.size) undef).getD s undef=val:=by
    rw[AqE,AtJ (by simpa using hlt)]
    simp[hval]
   grind
theorem Hp.shut{W0 w:World}{σ:Ak}{n D:Nat}{μ:Id->Option Value}{H:Addr->Option Value}{x:Option (List Deferred)}(hp:Hp W0 σ n μ H w)(hD:W0.heap.size<=D)(h:w.heap[D]?=some (.deferred x))(ho:¬EK μ σ D)(o:Obj):Hp W0 σ n μ H (w.putObj D o):=by
 have hlt:D<w.heap.size:=(AnS.1 h).1
 refine⟨?_,fun ad v hv=>?_,fun id e hl=>?_,hp.unp,hp.sep,hp.bd⟩
 ·refine⟨hp.base.os,hp.base.tape,hp.base.output,by rw[show(w.putObj D o).heap.size=w.heap.size by simp[World.putObj]];exact hp.base.size,fun k hk=>?_⟩
  rw[World.putObj_heap_other (by omega)]
  exact hp.base.block k hk
 ·have hc:=hp.pins ad v hv
  have hne:ad.block≠D:=by
   rintro he
   rw[World.cell?,he,h] at hc
   cases hc
  rw[AtX (w:=w) (World.putObj_heap_other hne)]
  exact hc
 ·exact(hp.ents id e hl).keep (fun _ _ h=>h) (fun _ _ h=>h) fun bk hb=>World.putObj_heap_other (by rintro rfl;exact ho ⟨id,e,hl,hb⟩)
theorem Fr.shut{μ μ':Id->Option Value}{H H':Addr->Option Value}{σ σ':Ak}{w w':World}{D:Nat}(h:Fr μ H σ w μ' H' σ' w')(hD:w.heap.size<=D)(o:Obj):Fr μ H σ w μ' H' σ' (w'.putObj D o):=
 ⟨h.mu,h.hp,by rw[show(w'.putObj D o).heap.size=w'.heap.size by simp[World.putObj]];exact h.size,fun bk hb ho=>(World.putObj_heap_other (by omega)).trans (h.keep bk hb ho),h.pin,h.dom⟩
theorem I2{P:Program}{W0 w0:World}{fn:Func}{tmps:Array Value}{R:Ending->World->Prop}{μ0 μ:Id->Option Value}{H0 H:Addr->Option Value}{σ0 σ:Ak}{n:Nat}(hW:W0.heap.size<=w0.heap.size)
  (K:∀w,Hp W0 σ n μ H w->Fr μ0 H0 σ0 w0 μ H σ w->∃v,(results fn tmps).run P w=.ok v w/\R (.returned v) w):∀(Ds:List Nat) (w:World),Ds.Nodup->(∀D∈Ds,w0.heap.size<=D/\w.heap[D]?=some (.deferred (some []))/\¬EK μ σ D)->Hp W0 σ n μ H w->Fr μ0 H0 σ0 w0 μ H σ w->
   LeavesInM (fR none) 0 P fn tmps R (Ds.map fun D=>{ target:=.collected D,args:=#[] }) .returning w
 | [],w,_,_,hp,hf=>K w hp hf
 | D::Ds,w,hnd,hh,hp,hf=>by
  obtain⟨h1,h2,h3⟩:=hh D (by simp)
  refine⟨by simp,.inl ⟨D,w.putObj D (.deferred none),rfl,run_takeDeferred h2,I2 hW K Ds _ (AqP.1 hnd).2 (fun D' hm=>?_) (hp.shut (Aiw hW h1) h2 h3 _) (hf.shut h1 _)⟩⟩
  obtain⟨h4,h5,h6⟩:=hh D' (by simp[hm])
  exact⟨h4,by rw[World.putObj_heap_other (by grind)];exact h5,h6⟩
theorem DL{P:Program}{W0 w:World}{f:FuncId}{fn:Func}{c:Code}{vals:List Value}{n:Nat}{μ:Id->Option Value}{H:Addr->Option Value}{σ:Ak}{nt:Nat}{Q:Exit->St->Prop}{R:Ending->World->Prop}(hf:P.funcs[f]?=some fn)(hb:fn.body=some c)(hp:Hp W0 σ n μ H w)
  (h:c.wpr P none (fun e a' w'=>∃B',K5 ⟨μ,H,σ,w,n,none,[]⟩ B'/\∃st',Q e st'/\At W0 nt B' st' a' w') { tmps:=vals.toArray++Array.replicate (fn.ntmps-vals.toArray.size) undef,defers:=[] } w)
  (hq:∀e st,Q e st->e=.normal\/e=.ret)
  (K:∀e st' a' μ' H',Q e st'->(∃w0,Rl μ' H' nt st'.env a'/\Hp W0 st'.σ st'.n μ' H' w0)->n<=st'.n->(∀id,id.1<n->μ id=none->μ' id=none)->∀w',Rl μ' H' nt st'.env a'->Hp W0 st'.σ st'.n μ' H' w'->Fr μ H σ w μ' H' st'.σ w'->∃v,(results fn a'.tmps).run P w'=.ok v w'/\R (.returned v) w'):Calls P f vals.toArray w R:=by
 refine S7.1 (callsIn_of_wp_marks (F:=fR none) (n:=0) hf hb (GA none f) (AZ h fun e a' w' hh=>?_) rfl)
 obtain⟨B',hx,st',hQ,μ',H',hr',hp',hf',hold,hn,hds⟩:=hh
 obtain⟨Ds,hnd,hDs,hall⟩:=hx.good w.heap.size (AbG _) ⟨[],List.nodup_nil,rfl,fun D h=>by cases h⟩
 have hfr:Fr μ H σ w μ' H' st'.σ w':=hx.fr.trans hf'
 have fin:LeavesInM (fR none) 0 P fn a'.tmps R a'.defers .returning w':=by
  rw[hds,hDs]
  refine I2 (w0:=w) hp.base.size (fun w1 hp1 hf1=>K e st' a' μ' H' hQ ⟨w1,hr',hp1⟩ (Aiw hx.le hn) (fun id hid h0=>hold id (Alg hid hx.le) (hx.old id hid h0)) w1 hr' hp1 hf1) Ds w' hnd (fun D hD=>?_) hp' hfr
  obtain⟨h1,h2,h3⟩:=hall D hD
  have hlt:D<B'.w.heap.size:=(AnS.1 h2).1
  exact⟨h1,(hf'.keep D hlt h3).trans h2,fun ho=>h3 (hf'.dom D hlt ho)⟩
 rcases hq e st' hQ with rfl|rfl
 ·exact fin
 ·exact fin
theorem Aie{f:FuncId}{ic:IC}{rs:List R}(hck:Aw P f nt ic rs=true){args:List V}(hargs:args.length<=nt){σ σ':Ak}{vs:List V}(hdom:∀id,lk σ' id≠none->lk σ id≠none)
  (h:∀n,(∀id e,lk σ id=some e->id.1<n)->Fz P W0 nt ic (Fin rs vs σ') ⟨params 0 args,σ,n⟩):Am P W0 f args σ (Lz vs) σ':=by
 obtain⟨fn,c,hf,hb,hcode,hnt,hrs,hcal⟩:=H3 hck
 refine⟨hcal,hdom,fun n w μ H vals hp hv=>?_⟩
 subst hnt
 have hids:∀id e,lk σ id=some e->id.1<n:=by
  intro id e hl
  rcases Ar9 id.1 n with h|h
  ·exact h
  ·have hm:=hp.bd id h
   obtain⟨_,hm'⟩:=(hp.ents id e hl).named
   rw[hm] at hm';cases hm'
 refine DL hf hb hp (h n hids c hcode _ _ _ (.inr rfl) (KD hargs hp hv)) (fun e st hq=>?_) (fun e st' a μ' H' hq _ hn hold w' hr' hp' hf'=>?_)
 ·cases e with
  | normal=>exact .inl rfl
  | ret=>exact .inr rfl
  | _=>exact hq.elim
 have fin:(Dj st' rs vs/\∀id e,lk σ' id=some e->lk st'.σ id=some e)->∃v,(results fn a.tmps).run P w'=.ok v w'/\
   ∃val μ'' H'' n'',Ending.returned v=Ending.returned val/\Ap μ'' H'' (Lz vs) val/\Hp W0 σ' n'' μ'' H'' w'/\n<=n''/\Fr μ H σ w μ'' H'' σ' w'/\∀id:Id,id.1<n->μ id=none->μ'' id=none:=by
  rintro⟨hres,hsub⟩
  obtain⟨val,hrun,hrel⟩:=EX hr' hp' hrs hres
  refine⟨val,hrun,val,μ',H',st'.n,rfl,hrel,hp'.part hsub,hn,⟨hf'.mu,hf'.hp,hf'.size,hf'.keep,hf'.pin,fun bk hb ho=>hf'.dom bk hb ?_⟩,hold⟩
  obtain⟨id,e,hl,hbk⟩:=ho
  exact⟨id,e,hsub _ _ hl,hbk⟩
 cases e with
 | normal=>exact fin hq
 | ret=>exact fin hq
 | _=>exact hq.elim
theorem AhK{f:FuncId}{ic:IC}{s:Nat}(hck:Aw P f nt ic [.t s]=true){args:List V}(hargs:args.length<=nt){σ σ':Ak}{x:AC}(hdom:∀id,lk σ' id≠none->lk σ id≠none)
  (h:∀n,(∀id e,lk σ id=some e->id.1<n)->Fz P W0 nt ic (Amt s x σ') ⟨params 0 args,σ,n⟩):JR P W0 f args σ x σ':=by
 obtain⟨fn,c,hf,hb,hcode,hnt,hrs,hcal⟩:=H3 hck
 refine⟨hcal,hdom,fun n w μ H vals hp hv=>?_⟩
 subst hnt
 have hids:∀id e,lk σ id=some e->id.1<n:=by
  intro id e hl
  rcases Ar9 id.1 n with h|h
  ·exact h
  ·have hm:=hp.bd id h
   obtain⟨_,hm'⟩:=(hp.ents id e hl).named
   rw[hm] at hm';cases hm'
 refine DL hf hb hp (h n hids c hcode _ _ _ (.inr rfl) (KD hargs hp hv)) (fun e st hq=>?_) (fun e' st' a μ' H' hq _ hn hold w' hr' hp' hf'=>?_)
 ·cases e with
  | normal=>exact .inl rfl
  | ret=>exact .inr rfl
  | _=>exact hq.elim
 have fin:(∃id,get st'.env s=.arr id/\lk st'.σ id=some x/\lk σ' id=none/\∀id e,lk σ' id=some e->lk st'.σ id=some e)->∃v,(results fn a.tmps).run P w'=.ok v w'/\
   ∃val μ'' H'' n'' id,Ending.returned v=Ending.returned val/\μ'' id=some val/\val.oneCell'=true/\μ id=none/\lk σ' id=none/\Hp W0 ((id,x)::σ') n'' μ'' H'' w'/\n<=n''/\Fr μ H σ w μ'' H'' ((id,x)::σ') w'/\∀id:Id,id.1<n->μ id=none->μ'' id=none:=by
  rintro⟨id,hg,hl,hl',hsub⟩
  obtain⟨val,hrun,hrel⟩:=EX hr' hp' hrs (vs:=[.arr id]) ⟨hg,trivial⟩
  obtain⟨hm,h1c⟩:=hrel.arr_inv
  have hsub2:∀id2 e2,lk ((id,x)::σ') id2=some e2->lk st'.σ id2=some e2:=by
   intro id2 e2 h2
   simp only[lk] at h2
   grind
  have hpart:=(hp'.part hsub2).more (Ani st'.n)
  have hnone:μ' (st'.n,0)=none:=hp'.bd _ (AbG _)
  obtain⟨hp2,hown⟩:=hpart.rename hm hl' hnone (Acq _)
  refine⟨val,hrun,val,_,H',st'.n+1,(st'.n,0),rfl,Ar _ _ _,h1c,hp.bd _ hn,?_,hp2,Aiw hn (Ani _),⟨fun id y hx=>Bv hnone id y (hf'.mu id y hx),hf'.hp,hf'.size,hf'.keep,hf'.pin,fun bk hb ho=>?_⟩,fun id2 hid h0=>?_⟩
  ·cases hx:lk σ' (st'.n,0) with
   | none=>rfl
   | some y=>
    obtain⟨_,hm'⟩:=(hp'.ents _ _ (hsub _ _ hx)).named
    grind
  ·obtain⟨id2,e2,hl2,hb2⟩:=hown bk ho
   exact hf'.dom bk hb ⟨id2,e2,hsub2 _ _ hl2,hb2⟩
  ·rw[B9 _ _ (by grind)]
   exact hold id2 hid h0
 cases e' with
 | normal=>exact fin hq
 | ret=>exact fin hq
 | _=>exact hq.elim
end
end Go.Ir
end
section
namespace Go.Ir
open Go.RowKit
variable[F1]
theorem QV{mes:Array MapEntry}(hb:∀(k:Nat) (m:MapEntry),mes.toList[k]?=some m->m.born=k){last:Nat}(hl:last=mes.size):(!mes.isEmpty&&mes.all fun e=>decide (e.born>=last))=false:=by
 cases hm:mes.toList with
 | nil=>
  simp_all
 | cons x xs=>
  have h0:=hb 0 x (by rw[hm];rfl)
  have hsz:0<mes.size:=by grind
  have:(mes.all fun e=>decide (e.born>=last))=false:=by
   rw[<-Array.all_toList,hm]
   grind
  rw[this,Ara]
theorem aI{P:Program}{w:World}{r m:Nat}{seen:List Nat}{mes:Array MapEntry}{t:TypeId}(hr:w.heap[r]?=some (.mapIter (some m) mes.size seen.toArray mes.size))(hm:w.heap[m]?=some (.map mes mes.size))
  (hb:∀(k:Nat) (e:MapEntry),mes.toList[k]?=some e->e.born=k) :
  (∃(i:Nat) (e:MapEntry) (w1:World),(w1=w\/w1=w.drew)/\mes.toList[i]?=some e/\i∉seen/\(Instr.next (.pointer (some ⟨r,0,none⟩)) false t).run P w=.ok (.tuple #[.bool true,e.key,e.val]) { w1 with heap:=w1.heap.setIfInBounds r (.mapIter (some m) mes.size (seen++[i]).toArray mes.size) })\/
  ((∀i,i<mes.size->i∈seen)/\(Instr.next (.pointer (some ⟨r,0,none⟩)) false t).run P w=.ok (.tuple #[.bool false]) w):=by
 have hall:=QV hb (last:=mes.size) rfl
 have hguard:(!seen.toArray.isEmpty&&!mes.isEmpty&&mes.all fun e=>decide (e.born>=mes.size))=false:=by grind
 obtain⟨left,hleft⟩:∃left,left=mes.filter fun e=>!seen.toArray.contains e.born:=⟨_,rfl⟩
 have hin:∀e∈mes,e.born<mes.size:=by
  intro e he
  obtain⟨k,hk⟩:=ApX.1 (Array.mem_toList_iff.2 he)
  grind
 have hold:left.filter (fun e=>decide (e.born<mes.size))=left:=by
  rw[Array.filter_eq_self]
  grind
 have hnew:left.filter (fun e=>decide (e.born>=mes.size))=#[]:=by
  rw[Array.filter_eq_empty_iff]
  grind
 have hrun:(Instr.next (.pointer (some ⟨r,0,none⟩)) false t).run P w=((choose (.mapNext ((if left.isEmpty then #[none] else #[])++left.map some).size)).run P w).andThen fun j w1=>
   (match((if left.isEmpty then #[none] else #[])++left.map some)[j]? with
    | some (some e)=>do setObj r (.mapIter (some m) mes.size (seen.toArray.push e.born) mes.size);pure (.tuple #[.bool true,e.key,e.val])
    | some none=>pure (.tuple #[.bool false])
    | none => stuck "Next: no such candidate" : Sem Value).run P w1 := by
  have g1:(getObj r).run P w=.ok (.mapIter (some m) mes.size seen.toArray mes.size) w:=GK hr
  have g2:(getObj m).run P w=.ok (.map mes mes.size) w:=As0 hm
  simp only[Instr.next,Afu,g1,AfH,g2,hguard,AcL,if_false]
  rw[<-hleft,hold,hnew]
  simp only[Array.append_empty]
  rfl
 by_cases he:left.isEmpty
 ·refine .inr ⟨fun i hi=>?_,?_⟩
  ·have hi':i<mes.toList.length:=by simpa using hi
   have h0:mes.toList[i]?=some mes.toList[i]:=Ain hi'
   have hbi:=hb i _ h0
   cases hc:decide (i∈seen) with
   | true=>exact of_decide_eq_true hc
   | false=>
    exfalso
    have:mes.toList[i]∈left:=by
     grind
    grind
  ·have hz:left=#[]:=by simpa using he
   rw[hrun,hz]
   simp[Question.forced]
 ·have hne:0<left.size:=by
   grind
  rw[if_neg he] at hrun
  simp only[Array.empty_append,Array.size_map] at hrun
  obtain⟨j,w1,hj,hw1,hch⟩:∃j w1,j<left.size/\(w1=w\/w1=w.drew)/\(choose (.mapNext left.size)).run P w=.ok j w1:=by
   rw[run_choose_drew]
   split
   ·exact⟨0,w,hne,.inl rfl,rfl⟩
   ·exact⟨_,_,Nat.mod_lt _ hne,.inr rfl,rfl⟩
  have hjl:left[j]?=some left[j]:=ApZ hj
  have hmem:left[j]∈left:=Array.getElem_mem hj
  generalize left[j]=ej at hjl hmem
  rw[hleft,Array.mem_filter] at hmem
  obtain⟨i,hi⟩:=ApX.1 (Array.mem_toList_iff.2 hmem.1)
  have hbi:=hb i _ hi
  refine .inl ⟨i,ej,w1,hw1,hi,?_,?_⟩
  ·grind
  ·have hheap:w1.heap[r]?=some (.mapIter (some m) mes.size seen.toArray mes.size):=by rcases hw1 with rfl|rfl<;>exact hr
   have hmap:(left.map some)[j]?=some (some ej):=by simp[hjl]
   have hpush:seen.toArray.push i=(seen++[i]).toArray:=by simp
   rw[hrun,hch]
   simp only[AfH,hmap,Afu,Mo _ hheap,Ai0,hbi,hpush]
section
variable{P:Program}{W0:World}{nt:Nat}{Q:Exit→St→Prop}{st:St}
theorem Y6{d1 d2:Nat}{x:X}{live:List Nat}{id mid:Id}{es:List (V×V)}{seen:List Nat}(hx:ev (get st.env) x=.arr id)(hl:lk st.σ id=some (.mit mid es.length seen es.length))(hlm:lk st.σ mid=some (.map es))
  (hmore:∀i kv,es[i]?=some kv->i∉seen->Q .normal ⟨restrict live ((d2,.b true)::st.env),upd st.σ id (.mit mid es.length (seen++[i]) es.length),st.n+1⟩)
  (hend:(∀i,i<es.length->i∈seen)->Q .normal ⟨restrict live ((d2,.b false)::st.env),st.σ,st.n+1⟩)(hd1:d1∉live)(hlive:d1≠d2):Fz P W0 nt (.mnext d1 d2 x live) Q st:=by
 refine Hs fun code hc B a w hat=>?_
 obtain⟨rid,ops,rfl,hk⟩:∃rid ops,code=.region rid ops false/\SM nt ops d1 d2 x=true:=by
  cases code with
  | region rid ops draw=>
   cases draw with
   | true=>simp[Ay] at hc
   | false=>exact⟨rid,ops,rfl,by simpa[Ay] using hc⟩
  | _=>simp[Ay] at hc
 have hc0:False\/True:=.inr trivial
 rcases hc0 with h|_
 ·exact h.elim
 ·clear hc
  have hc:=hk
  unfold SM at hc
  split at hc
  ·rename_i o1 o2 hops
   simp only[Aav,beq_iff_eq,decide_eq_true_eq,Atw] at hc
   obtain⟨⟨⟨⟨⟨⟨⟨c1,c2⟩,c3⟩,c4⟩,c5⟩,c6⟩,c7⟩,c8⟩:=hc
   split at c3
   ·rename_i x' hop1
    split at c6
    ·rename_i t hop2
     have ht:d1=t:=(beq_iff_eq.1 c6).symm
     subst ht
     obtain⟨μ,H,hr,hp,hf,hold,hn,hds⟩:=hat
     have hxr:=Ao hr c3
     rw[hx] at hxr
     obtain⟨r,mb,hmu,_,hmm,hh⟩:=hp.ents _ _ hl
     obtain⟨bk,mes,clock,hmu2,_,hh2,hrel⟩:=hp.ents _ _ hlm
     rw[hmm] at hmu2
     cases hmu2
     have e1:a.eval x'=.pointer (some ⟨r,0,none⟩):=by
      have:=(hxr.arr_inv).1
      grind
     have hlen:es.length=mes.size:=by simpa using hrel.len
     have hclock:clock=mes.size:=by have:=hrel.now;simpa using this
     subst hclock
     rw[hlen] at hh
     have hsz:ops.size=2:=by have:ops.toList.length=2:=by rw[hops];rfl
                             simpa using this
     have ho1:ops[0]?=some o1:=by rw[<-AsA,hops];rfl
     have ho2:ops[1]?=some o2:=by rw[<-AsA,hops];rfl
     have two:∀(t:Bool) (val:List Value) (w':World) (σ':Ak),(Instr.next (.pointer (some ⟨r,0,none⟩)) false o1.type).run P w=.ok (.tuple (.bool t::val).toArray) w'->Hp W0 σ' st.n μ H w'->Fr μ H st.σ w μ H σ' w'->Q .normal ⟨restrict live ((d2,.b t)::st.env),σ',st.n+1⟩->
       (Code.region rid ops false).wpr P B.ro (fun e a' w'=>∃st',Q e st'/\At W0 nt B st' a' w') a w:=by
      intro t val w' σ' hrun hp' hfr hq
      refine Gg ?_
      rw[hsz]
      rw[show List.range 2=[0,1] from rfl,Dd]
      unfold Gv wpOpIn
      simp only[ho1]
      have w1:Region.wanted o1 (yielded ops a.tmps)=true:=by simp[Region.wanted,c2]
      rw[if_pos w1]
      have hx1:(execOp a.eval o1).run P w=.ok (.value (.tuple (.bool t::val).toArray)) w':=by
       simp only[execOp,hop1,e1,Afu,hrun,AfH,Ai0]
      refine Dz (by rw[hop1];simp) (Bb hx1 ?_)
      rw[Dd]
      unfold Gv wpOpIn
      simp only[ho2]
      have w2:Region.wanted o2 (yielded ops (a.put o1.dst (.tuple (.bool t::val).toArray)).tmps)=true:=by simp[Region.wanted,c5]
      rw[if_pos w2]
      have hev:(a.put o1.dst (.tuple (.bool t::val).toArray)).eval (.tmp d1)=.tuple (.bool t::val).toArray:=by
       have hd:d1<a.tmps.size:=by rw[hr.size];exact c7
       rw[c1]
       simp[Act.eval,Act.put,hd]
      have hx2:(execOp (a.put o1.dst (.tuple (.bool t::val).toArray)).eval o2).run P w'=.ok (.value (.bool t)) w':=by
       simp only[execOp,hop2,hev,Instr.extract,Afu]
       simp
      refine Dz (by rw[hop2];simp) (Bb hx2 ?_)
      show ∃st',Q .normal st'/\At W0 nt B st' ((a.put o1.dst (.tuple (.bool t::val).toArray)).put o2.dst (.bool t)) w'
      rw[c1,c4]
      have hr1:Rl μ H nt (put st.env (some d1) .any) (a.put (some d1) (.tuple (.bool t::val).toArray)):=hr.put (fun dd hdd=>by cases hdd;exact c7) (.any _)
      have hr2:Rl μ H nt (put (put st.env (some d1) .any) (some d2) (.b t)) ((a.put (some d1) (.tuple (.bool t::val).toArray)).put (some d2) (.bool t)):=hr1.put (fun dd hdd=>by cases hdd;exact c8) (.b _)
      refine⟨_,hq,μ,H,⟨hr2.size,fun s=>?_⟩,hp'.more (Ani _),hf.trans hfr,hold,Aiw hn (Ani _),by rw[Cb,Cb];exact hds⟩
      have hsame:restrict live ((d2,.b t)::st.env)=restrict live (put (put st.env (some d1) .any) (some d2) (.b t)):=by
       refine As6 fun s hs=>?_
       have hne:d1≠s:=by rintro rfl;exact hd1 hs
       simp[put,get,hne]
      simp only
      rw[hsame]
      rcases Bt live (put (put st.env (some d1) .any) (some d2) (.b t)) s with h|h
      ·rw[h];exact hr2.at_ s
      ·rw[h];exact .any _
     rcases aI (P:=P) (t:=o1.type) hh hh2 hrel.born with⟨i,e,w1,hw1,hi,hns,hrun⟩|⟨hall,hrun⟩
     ·have hi':i<es.length:=by grind
      have hp1:Hp W0 st.σ st.n μ H w1:=by rcases hw1 with rfl|rfl;exact hp;exact hp.drew
      have hh1:w1.heap[r]?=some (.mapIter (some mb) mes.size seen.toArray mes.size):=by rcases hw1 with rfl|rfl<;>exact hh
      have hset:=hp1.set_ (e:=.mit mid es.length (seen++[i]) es.length) hl ((AJ.setObj w1 r (.mapIter (some mb) mes.size (seen++[i]).toArray mes.size)).to (fun k hk=>by subst hk;simp[hmu,BI])) ⟨r,mb,hmu,by
       omega
,hmm,by
       grind
⟩
      have hfr0:Fr μ H st.σ w μ H st.σ w1:=by rcases hw1 with rfl|rfl;exact Fr.refl _ _ _ _;exact⟨fun _ _ h=>h,fun _ _ h=>h,AbG _,fun _ _ _=>rfl,fun _ _ _=>rfl,fun _ _ h=>h⟩
      have h0:es[i]?=some es[i]:=Ain hi'
      exact two true [e.key,e.val] _ _ hrun hset.1 (hfr0.trans hset.2) (hmore i _ h0 hns)
     ·exact two false [] w st.σ hrun hp (Fr.refl _ _ _ _) (hend (fun i hi=>hall i (by rw[<-hlen];exact hi)))
    ·cases c6
   ·cases c3
  ·cases hc
end
end Go.Ir
end
section
namespace Go.Ir
open Go.RowKit
variable[F1]
structure Ei (P:Program) (W0:World) (f:FuncId) (args:List V) (σ:Ak) (R:Nat->Nat->V->Ak->Prop):Prop where
 callable:callable P f=true
 run:∀n w μ H vals,Hp W0 σ n μ H w->VRels μ H args vals->Calls P f vals.toArray w fun e w'=>
  ∃val μ' H' n' v σ',e=.returned val/\R n n' v σ'/\Ap μ' H' v val/\Hp W0 σ' n' μ' H' w'/\n<=n'/\Fr μ H σ w μ' H' σ' w'/\∀id,id.1<n->μ id=none->μ' id=none
def Aek(P:Program)(vals:List Value)(w:World)(R:Ending->World->Prop):Prop:=
 ∃l rest fn tmps asg bd,vals=.func (.yield l) #[] #[]::rest/\(Instr.yield l rest.toArray).run P w=.ok (.round l fn tmps asg bd) w/\RoundIn Fence.wide 0 P l fn tmps asg bd w R
structure Sz (P:Program) (W0:World) (args:List V) (σ:Ak) (R:Nat->Nat->V->Ak->Prop):Prop where
 run:∀n w μ H vals,Hp W0 σ n μ H w->VRels μ H args vals->Aek P vals w fun e w'=>
  ∃val μ' H' n' v σ',e=.returned val/\R n n' v σ'/\Ap μ' H' v val/\Hp W0 σ' n' μ' H' w'/\n<=n'/\Fr μ H σ w μ' H' σ' w'/\∀id,id.1<n->μ id=none->μ' id=none
section
variable{P:Program}{W0:World}{nt:Nat}{ops:Array Oper}{ro:Option Nat}
def Ad9(P:Program)(W0:World)(ro:Option Nat)(o:Oper)(a:Act)(w:World)(μ:Id->Option Value)(H:Addr->Option Value)(n:Nat)(σi:Ak)(R:Nat->Nat->V->Ak->Prop):Prop:=
 ∀next QQ,(∀val w' μ' H' n2 v σo,R n n2 v σo->Ap μ' H' v val->Hp W0 σo n2 μ' H' w'->n<=n2->Fr μ H σi w μ' H' σo w'->(∀id,id.1<n->μ id=none->μ' id=none)->next (a.put o.dst val) w')->o.wpr P ro a w next QQ
theorem Ia{o:Oper}{a:Act}{w:World}{μ:Id->Option Value}{H:Addr->Option Value}{n:Nat}{σi:Ak}{R:Nat->Nat->V->Ak->Prop}{f:FuncId}{vals:Array Value}{vargs:List V}
  (hrun:(execOp a.eval o).run P w=.ok (.enter f vals) w)(hargs:VRels μ H vargs vals.toList)(hret:Ei P W0 f vargs σi R)(hp:Hp W0 σi n μ H w):Ad9 P W0 ro o a w μ H n σi R:=by
 intro next QQ K
 refine Dz (LL hrun) ?_
 unfold Oper.wp
 rw[hrun]
 have:=hret.run n w μ H vals.toList hp hargs
 simp only[Oper.upon]
 rw[AsI] at this
 refine AqY this ?_
 grind
theorem SQ{o:Oper}{c:Call}{g:Operand}{a:Act}{w:World}{μ:Id->Option Value}{H:Addr->Option Value}{n:Nat}{σi:Ak}{R:Nat->Nat->V->Ak->Prop}{vargs:List V}
  (hoc:o.op=.call c)(hc2:c.callee=.value g)(hargs:VRels μ H vargs (a.eval g::(c.args.map a.eval).toList))(hret:Sz P W0 vargs σi R)(hp:Hp W0 σi n μ H w):Ad9 P W0 ro o a w μ H n σi R:=by
 intro next QQ K
 obtain⟨l,rest,fn,tmps,asg,bd,e1,e2,e3⟩:=hret.run n w μ H _ hp hargs
 injection e1 with e1 e1'
 subst e1'
 refine⟨fun f _=>GA ro f,?_⟩
 have hx:(execOp a.eval o).run P w=(Instr.yield l (c.args.map a.eval).toList.toArray).run P w:=by
  rw[AsI]
  simp[execOp,hoc,resolve,hc2,e1,Deferred.ofValue,Afu,Ai0,AfH,invoke]
 rw[Oper.semAt_eq _ _ _ (fun c' hc'=>(by rw[hoc] at hc';cases hc')),hx,e2]
 refine⟨fun hh=>(by rw[G2] at hh;cases hh),(eL e3).mono ?_⟩
 rintro e w' ⟨val,μ',H',n2,v,σo,rfl,hR,hv,hp',hle,hfr,hfresh⟩
 exact K val w' μ' H' n2 v σo hR hv hp' hle hfr hfresh
theorem NT{B:HA}{ep:Nat}{QQ:Exit->Act->World->Prop}{tail:List Nat}{K:AD->Ak->Prop}(hBn:B.n<=ep)
  (hK:∀env σ a w n μ H,K env σ->Rl μ H nt env a->Hp W0 σ n μ H w->ep<n->Fr B.μ B.H B.σ B.w μ H σ w->(∀id,id.1<B.n->B.μ id=none->μ id=none)->a.defers=B.ds->EM P ro ops QQ tail a w) :
  ∀(l:List I) (k:Nat),(∀(j:Nat) (i:I),l[j]?=some i->∃o,ops[k+j]?=some o/\P2 P nt ops o i=true)->(l.filterMap (·.dst)).Nodup->
  ∀env σ a w n μ H,Rl μ H nt env a->Hp W0 σ n μ H w->ep<n->(∀i∈l,∀dd,i.dst=some dd->μ (ep,dd)=none)->Fr B.μ B.H B.σ B.w μ H σ w->(∀id,id.1<B.n->B.μ id=none->μ id=none)->a.defers=B.ds->
   Av P W0 ep l env σ K->EM P ro ops QQ (List.range' k l.length++tail) a w:=by
 intro l
 induction l with
 | nil=>intro k _ _ env σ a w n μ H hr hp hn _ hf hold hds hi;exact hK _ _ _ _ _ _ _ hi hr hp hn hf hold hds
 | cons i l ih=>
  intro k hat hnd env σ a w n μ H hr hp hn hfree hf hold hds hi
  obtain⟨o,ho,hok⟩:=hat 0 i rfl
  rw[Atj] at ho
  rw[AhU,List.range'_succ,Akk,Dd]
  simp only[Av] at hi
  rw[Cf] at hi
  obtain⟨v,σ',hstep,hi⟩:=hi
  refine Iv ho hok hr hp hn (fun d hd'=>hfree i (by simp) d hd') hstep _ QQ (fun val n' μ' H' w' hdone=>?_)
  have hnd2:(l.filterMap (·.dst)).Nodup:=by
   cases hd:i.dst with
   | none=>rwa [List.filterMap_cons_none hd] at hnd
   | some d=>rw[Atz hd] at hnd;exact(AqP.1 hnd).2
  have hnt:∀d,i.dst=some d->d<nt:=by
   intro d hd'
   unfold P2 at hok
   simp only[Aav] at hok
   have:=hok.1.1.2
   rw[hd'] at this
   simpa using this
  refine ih (k+1) (fun j i' hj=>?_) hnd2 _ _ _ _ n' μ' H' ((hr.mono hdone.fr.mu hdone.fr.hp).put hnt hdone.rel) hdone.hp (Alg hn hdone.le) (fun i' hi' d hd'=>?_) (hf.trans hdone.fr) (fun id hid h0=>?_) ((Cb _ _ _).trans hds) hi
  ·obtain⟨o',ho',hok'⟩:=hat (j+1) i' (by simpa using hj)
   exact⟨o',by rw[show k+1+j=k+(j+1) by omega];exact ho',hok'⟩
  ·refine hdone.fresh (ep,d) hn (fun dd hdd he=>?_) (hfree i' (by simp[hi']) d hd')
   cases he
   rw[Atz hdd] at hnd
   exact(AqP.1 hnd).1 (Aum.2 ⟨i',hi',hd'⟩)
  ·refine hdone.fresh id (by omega) (fun dd _ he=>?_) (hold id hid h0)
   rw[he] at hid;simp at hid;omega
def Jg(P:Program)(W0:World)(n:Nat)(d:Nat)(f:FuncId)(vs:List V)(env:AD)(σ:Ak)(K:Nat->AD->Ak->Prop):Prop:=
 ∃σi R,Ei P W0 f vs σi R/\(∀id e,lk σi id=some e->lk σ id=some e)/\∀n2 v σo,n<=n2->R n n2 v σo->K n2 ((d,v)::env) (over σi σo σ)
theorem LM{os:List Oper}{l:List I}(h:Dp P nt ops os l=true):os.length=l.length/\∀(j:Nat) (i:I),l[j]?=some i->∃o,os[j]?=some o/\P2 P nt ops o i=true:=by
 obtain⟨h1,h2⟩:=Hq h
 refine⟨h1,fun j i hj=>?_⟩
 have hlt:j<os.length:=by grind
 refine⟨os[j],Ain hlt,?_⟩
 have:=h2 j os[j] (Ain hlt)
 grind
theorem KZ{code:Code}{okc:Array Oper->Oper->Bool}{T:Nat->AD->Ak->(Nat->AD->Ak->Prop)->Prop}{l1 l2:List I}{live1 live:List Nat}{d:Nat}{Q:Exit->St->Prop}{st:St}{B:HA}
  (hT:∀ops o,okc ops o=true->o.dst=some d/\d<nt/\∀n env σ K a w μ H,T n env σ K->Rl μ H nt env a->Hp W0 σ n μ H w->(Region.wanted o (yielded ops a.tmps)=false/\K n ((d,.tup [])::env) σ)\/(Region.wanted o (yielded ops a.tmps)=true/\∃σi R,Ad9 P W0 B.ro o a w μ H n σi R/\(∀id e,lk σi id=some e->lk σ id=some e)/\∀n2 v σo,n<=n2->R n n2 v σo->K n2 ((d,v)::env) (over σi σo σ)))
  (hcode:∃rid ops,code=.region rid ops false/\Dp P nt ops (ops.toList.take l1.length) l1=true/\(∃o,ops[l1.length]?=some o/\okc ops o=true)/\Dp P nt ops (ops.toList.drop (l1.length+1)) l2=true/\B3 l1=true/\B3 l2=true)
  (h:Av P W0 st.n l1 st.env st.σ fun env σ=>∀n1,st.n<n1->T n1 (restrict live1 env) σ fun n2 env σ=>Av P W0 n2 l2 env σ fun env σ=>∀n3,n2<n3->Q .normal ⟨restrict live env,σ,n3⟩){a:Act}{w:World}(hat:At W0 nt B st a w) :
  code.wpr P B.ro (fun e a' w'=>∃st',Q e st'/\At W0 nt B st' a' w') a w:=by
 obtain⟨rid,ops,rfl,hc1,⟨o,ho,hoc⟩,hc2,hd1,hd2⟩:=hcode
 obtain⟨hdst,hdnt,hT⟩:=hT ops o hoc
 obtain⟨hl1,hat1⟩:=LM hc1
 obtain⟨hl2,hat2⟩:=LM hc2
 have hlen:l1.length<ops.size:=(AnS.1 ho).1
 have hsz:ops.size=l1.length+(1+l2.length):=by
  grind
 obtain⟨μ,H,hr,hp,hf,hold,hn,hds⟩:=hat
 refine Gg ?_
 have hrange:List.range ops.size=List.range' 0 l1.length++(l1.length::(List.range' (l1.length+1) l2.length++[])):=by
  rw[Aou,hsz,List.range_eq_range',<-List.range'_append,Atk,Nat.one_mul,Nat.add_comm 1 l2.length,List.range'_succ]
 rw[hrange]
 have free:∀{n:Nat} {σ:Ak} {μ:Id->Option Value} {H:Addr->Option Value} {w:World} (l:List I),Hp W0 σ n μ H w->∀i∈l,∀dd,i.dst=some dd->μ (n,dd)=none:=fun l hp i _ dd _=>hp.bd (_,dd) (AbG _)
 refine NT (B:=B) (ep:=st.n) hn ?_ l1 0 (fun j i hj=>?_) (of_decide_eq_true hd1) st.env st.σ a w (st.n+1) μ H hr (hp.more (Ani _)) (Acq _) (free l1 hp) hf hold hds h
 · -- at the call
  intro env σ a w n1 μ H hcall hr hp hn1 hf hold hds
  have hr1:Rl μ H nt (restrict live1 env) a:=⟨hr.size,fun s=>by
   rcases Bt live1 env s with h|h
   ·rw[h];exact hr.at_ s
   ·rw[h];exact .any _⟩
  rw[Dd]
  unfold Gv wpOpIn
  simp only[ho]
  rcases hT n1 _ _ _ a w μ H (hcall n1 hn1) hr1 hp with⟨hw,hk⟩|⟨hw,σi,R,hruns,hsub,hK⟩
  ·rw[if_neg (by rw[hw];simp)]
   refine⟨fun f _=>GA _ f,?_⟩
   have hr2:Rl μ H nt ((d,.tup [])::restrict live1 env) (a.put o.dst undef):=by
    rw[hdst]
    exact hr1.put (d:=some d) (fun dd hdd=>by cases hdd;exact hdnt) (.tup [] [] rfl (fun k c v hk=>by simp at hk))
   refine NT (B:=B) (ep:=n1) (by omega) ?_ l2 (l1.length+1) (fun j i hj=>?_) (of_decide_eq_true hd2) _ _ _ _ (n1+1) μ H hr2 (hp.more (Ani _)) (Acq _) (free l2 hp) hf hold ((Cb _ _ _).trans hds) hk
   ·intro env σ a w n3 μ H hq hr hp hn3 hf hold hds
    show ∃st',Q .normal st'/\At W0 nt B st' a w
    refine⟨_,hq n3 hn3,μ,H,⟨hr.size,fun s=>?_⟩,hp,hf,hold,by simp only;omega,hds⟩
    rcases Bt live env s with h|h
    ·simp only;rw[h];exact hr.at_ s
    ·simp only;rw[h];exact .any _
   ·obtain⟨o',ho',hok'⟩:=hat2 j i hj
    refine⟨o',?_,hok'⟩
    rw[At4] at ho'
    rw[<-AsA];exact ho'
  rw[if_pos hw]
  refine hruns _ _ fun val w' μ' H' n2 v σo hR hv hp' hle hfr hfresh=>?_
  have hb:=hp.back hsub hp' hfr
  have hk:=hK n2 v σo hle hR
  show EM P _ ops _ (List.range' (l1.length+1) l2.length++[]) (a.put o.dst val) w'
  have hr2:Rl μ' H' nt ((d,v)::restrict live1 env) (a.put o.dst val):=by
   rw[hdst]
   exact(hr1.mono hb.2.mu hb.2.hp).put (d:=some d) (fun dd hdd=>by cases hdd;exact hdnt) hv
  refine NT (B:=B) (ep:=n2) (by omega) ?_ l2 (l1.length+1) (fun j i hj=>?_) (of_decide_eq_true hd2) _ _ _ _ (n2+1) μ' H' hr2 (hb.1.more (Ani _)) (Acq _) (free l2 hb.1) (hf.trans hb.2) (fun id hid h0=>hfresh id (by omega) (hold id hid h0)) ((Cb _ _ _).trans hds) hk
  ·intro env σ a w n3 μ H hq hr hp hn3 hf hold hds
   show ∃st',Q .normal st'/\At W0 nt B st' a w
   refine⟨_,hq n3 hn3,μ,H,⟨hr.size,fun s=>?_⟩,hp,hf,hold,by simp only;omega,hds⟩
   rcases Bt live env s with h|h
   ·simp only;rw[h];exact hr.at_ s
   ·simp only;rw[h];exact .any _
  ·obtain⟨o',ho',hok'⟩:=hat2 j i hj
   refine⟨o',?_,hok'⟩
   rw[At4] at ho'
   rw[<-AsA];exact ho'
 ·obtain⟨o',ho',hok'⟩:=hat1 j i hj
  refine⟨o',?_,hok'⟩
  rw[AsW] at ho'
  split at ho'
  ·rw[Atk,<-AsA];exact ho'
  ·cases ho'
theorem Q3{ops:Array Oper}{l1 l2:List I}{d:Nat}{f:FuncId}{args:List X}(h:V8 P nt ops l1 d f args l2=true):Dp P nt ops (ops.toList.take l1.length) l1=true/\(∃o,ops[l1.length]?=some o/\Hr P nt o d f args=true)/\Dp P nt ops (ops.toList.drop (l1.length+1)) l2=true/\B3 l1=true/\B3 l2=true:=by
 unfold V8 at h
 grind
theorem NR{ops:Array Oper}{l1 l2:List I}{d:Nat}{x:X}{args:List X}(h:Px P nt ops l1 d x args l2=true):Dp P nt ops (ops.toList.take l1.length) l1=true/\(∃o,ops[l1.length]?=some o/\I7 nt o d x args=true)/\Dp P nt ops (ops.toList.drop (l1.length+1)) l2=true/\B3 l1=true/\B3 l2=true:=by
 unfold Px at h
 grind
theorem wL{l1 l2:List I}{live1 live:List Nat}{d:Nat}{f:FuncId}{args:List X}{Q:Exit->St->Prop}{st:St}
  (h:Av P W0 st.n l1 st.env st.σ fun env σ=>∀n1,st.n<n1->Jg P W0 n1 d f (args.map (ev (get (restrict live1 env)))) (restrict live1 env) σ fun n2 env σ=>Av P W0 n2 l2 env σ fun env σ=>∀n3,n2<n3->Q .normal ⟨restrict live env,σ,n3⟩) :
  Fz P W0 nt (.opx l1 live1 d f args l2 live) Q st:=by
 refine Hs fun code hc B a w hat=>?_
 obtain⟨rid,ops,rfl,hk⟩:∃rid ops,code=.region rid ops false/\V8 P nt ops l1 d f args l2=true:=by
  cases code with
  | region rid ops draw=>
   cases draw with
   | true=>simp[Ay] at hc
   | false=>exact⟨rid,ops,rfl,by simpa[Ay] using hc⟩
  | _=>simp[Ay] at hc
 refine KZ (d:=d) (okc:=fun _ o=>Hr P nt o d f args) (T:=fun n env σ K=>Jg P W0 n d f (args.map (ev (get env))) env σ K) (fun ops o hcc=>?_) ⟨rid,ops,rfl,Q3 hk⟩ h hat
 unfold Hr at hcc
 simp only[Aav,beq_iff_eq,decide_eq_true_eq,Atw] at hcc
 obtain⟨⟨⟨hdst,hdnt⟩,hgd⟩,hop⟩:=hcc
 refine⟨hdst,hdnt,fun n env σ K a w μ H hcall hr hp=>.inr ⟨by simp[Region.wanted,hgd],?_⟩⟩
 obtain⟨σi,R,hret,hsub,hK⟩:=hcall
 split at hop
 ·rename_i c hoc
  split at hop
  ·rename_i f' hcal
   simp only[Aav,beq_iff_eq] at hop
   obtain⟨rfl,hx⟩:=hop
   have hargs:VRels μ H (args.map (ev (get env))) (c.args.map a.eval).toList:=by
    have:=Cz hr hx
    simpa using this
   exact⟨σi,R,Ia (Cm (a:=a) hret.callable hoc hcal (show a.eval (.func f')=.func (.func f') #[] #[] from rfl) w) (by simpa using hargs) hret (hp.part hsub),hsub,hK⟩
  ·cases hop
 ·cases hop
theorem OZ{ops:Array Oper}{l1 l2:List I}{d g:Nat}{want:Bool}{f:FuncId}{args:List X}(h:NP P nt ops l1 d g want f args l2=true):Dp P nt ops (ops.toList.take l1.length) l1=true/\(∃o,ops[l1.length]?=some o/\IE P nt ops o d g want f args=true)/\Dp P nt ops (ops.toList.drop (l1.length+1)) l2=true/\B3 l1=true/\B3 l2=true:=by
 unfold NP at h
 grind
def gdQ(v:V)(want:Bool)(A B:Prop):Prop:=
 match v with
 | .b t=>(t=want->A)/\(t≠want->B)
 | .tup []=>B
 | _=>False
theorem cX{l1 l2:List I}{live1 live:List Nat}{d g:Nat}{want:Bool}{f:FuncId}{args:List X}{Q:Exit->St->Prop}{st:St}
  (h:Av P W0 st.n l1 st.env st.σ fun env σ=>∀n1,st.n<n1->gdQ (get (restrict live1 env) g) want
   (Jg P W0 n1 d f (args.map (ev (get (restrict live1 env)))) (restrict live1 env) σ fun n2 env σ=>Av P W0 n2 l2 env σ fun env σ=>∀n3,n2<n3->Q .normal ⟨restrict live env,σ,n3⟩)
   (Av P W0 n1 l2 ((d,.tup [])::restrict live1 env) σ fun env σ=>∀n3,n1<n3->Q .normal ⟨restrict live env,σ,n3⟩)) :
  Fz P W0 nt (.opxq l1 live1 d g want f args l2 live) Q st:=by
 refine Hs fun code hc B a w hat=>?_
 obtain⟨rid,ops,rfl,hk⟩:∃rid ops,code=.region rid ops false/\NP P nt ops l1 d g want f args l2=true:=by
  cases code with
  | region rid ops draw=>
   cases draw with
   | true=>simp[Ay] at hc
   | false=>exact⟨rid,ops,rfl,by simpa[Ay] using hc⟩
  | _=>simp[Ay] at hc
 refine KZ (d:=d) (okc:=fun ops o=>IE P nt ops o d g want f args) (T:=fun n env σ K=>gdQ (get env g) want (Jg P W0 n d f (args.map (ev (get env))) env σ K) (K n ((d,.tup [])::env) σ)) (fun ops o hcc=>?_) ⟨rid,ops,rfl,OZ hk⟩ h hat
 unfold IE at hcc
 simp only[Aav,beq_iff_eq,decide_eq_true_eq] at hcc
 obtain⟨⟨⟨hdst,hdnt⟩,hgd⟩,hop⟩:=hcc
 refine⟨hdst,hdnt,fun n env σ K a w μ H hcall hr hp=>?_⟩
 cases hg:o.guard with
 | none=>simp[hg,tC] at hgd
 | some jw=>
  obtain⟨j,want'⟩:=jw
  simp only[hg,tC,Aav,beq_iff_eq] at hgd
  obtain⟨rfl,hj⟩:=hgd
  have hrs:=hr.at_ g
  have hy:yielded ops a.tmps j=match a.tmps[g]? with|some (.bool b)=>some b|_=>none:=by
   unfold yielded
   rw[hj]
   rfl
  have hwant:∀b,yielded ops a.tmps j=b->Region.wanted o (yielded ops a.tmps)=(b==some want'):=by
   intro b hb
   simp[Region.wanted,hg,hb]
  unfold gdQ at hcall
  split at hcall
  ·rename_i t hgs
   rw[hgs] at hrs
   have hb:=hrs.b_inv
   have hts:a.tmps[g]?=some (.bool t):=by
    cases h:a.tmps[g]? with
    | none=>simp[AqE,h,undef] at hb
    | some x=>simp_all
   rw[hts] at hy
   have hw:=hwant _ hy
   by_cases ht:t=want'
   ·refine .inr ⟨by rw[hw,ht];simp,?_⟩
    obtain⟨σi,R,hret,hsub,hK⟩:=hcall.1 ht
    split at hop
    ·rename_i c hoc
     split at hop
     ·rename_i f' hcal
      simp only[Aav,beq_iff_eq] at hop
      obtain⟨rfl,hx⟩:=hop
      have hargs:VRels μ H (args.map (ev (get env))) (c.args.map a.eval).toList:=by
       have:=Cz hr hx
       simpa using this
      exact⟨σi,R,Ia (Cm (a:=a) hret.callable hoc hcal (show a.eval (.func f')=.func (.func f') #[] #[] from rfl) w) (by simpa using hargs) hret (hp.part hsub),hsub,hK⟩
     ·cases hop
    ·cases hop
   grind
  ·rename_i hgs
   rw[hgs] at hrs
   obtain⟨vals,hv,hvs⟩:=hrs.tup_inv
   have hn0:yielded ops a.tmps j=none:=by
    rw[hy]
    cases h:a.tmps[g]? with
    | none=>rfl
    | some x=>
     simp_all
   grind
  ·exact hcall.elim
def AaS(P:Program)(W0:World)(n:Nat)(d:Nat)(vs:List V)(env:AD)(σ:Ak)(K:Nat->AD->Ak->Prop):Prop:=
 ∃σi R,Sz P W0 vs σi R/\(∀id e,lk σi id=some e->lk σ id=some e)/\∀n2 v σo,n<=n2->R n n2 v σo->K n2 ((d,v)::env) (over σi σo σ)
def d9(P:Program)(W0:World)(n:Nat)(d:Nat)(h:V)(vs:List V)(env:AD)(σ:Ak)(K:Nat->AD->Ak->Prop):Prop:=
 (∃f first caps,h=.fn f first caps/\Jg P W0 n d f (first++vs++caps) env σ K)\/∃id,h=.arr id/\AaS P W0 n d (.arr id::vs) env σ K
theorem mL{l1 l2:List I}{live1 live:List Nat}{d:Nat}{x:X}{args:List X}{Q:Exit->St->Prop}{st:St}
  (h:Av P W0 st.n l1 st.env st.σ fun env σ=>∀n1,st.n<n1->d9 P W0 n1 d (ev (get (restrict live1 env)) x) (args.map (ev (get (restrict live1 env)))) (restrict live1 env) σ fun n2 env σ=>Av P W0 n2 l2 env σ fun env σ=>∀n3,n2<n3->Q .normal ⟨restrict live env,σ,n3⟩) :
  Fz P W0 nt (.opxv l1 live1 d x args l2 live) Q st:=by
 refine Hs fun code hc B a w hat=>?_
 obtain⟨rid,ops,rfl,hk⟩:∃rid ops,code=.region rid ops false/\Px P nt ops l1 d x args l2=true:=by
  cases code with
  | region rid ops draw=>
   cases draw with
   | true=>simp[Ay] at hc
   | false=>exact⟨rid,ops,rfl,by simpa[Ay] using hc⟩
  | _=>simp[Ay] at hc
 refine KZ (d:=d) (okc:=fun _ o=>I7 nt o d x args) (T:=fun n env σ K=>d9 P W0 n d (ev (get env) x) (args.map (ev (get env))) env σ K) (fun ops o hcc=>?_) ⟨rid,ops,rfl,NR hk⟩ h hat
 unfold I7 at hcc
 simp only[Aav,beq_iff_eq,decide_eq_true_eq,Atw] at hcc
 obtain⟨⟨⟨hdst,hdnt⟩,hgd⟩,hop⟩:=hcc
 refine⟨hdst,hdnt,fun n env σ K a w μ H hcall hr hp=>.inr ⟨by simp[Region.wanted,hgd],?_⟩⟩
 split at hop
 ·rename_i c hoc
  split at hop
  ·rename_i h' hcal
   simp only[Aav] at hop
   have hh:=Ao hr hop.1
   have hargs:VRels μ H (args.map (ev (get env))) (c.args.map a.eval).toList:=by
    have:=Cz hr hop.2
    simpa using this
   rcases hcall with⟨f,first,caps,eh,σi,R,hret,hsub,hK⟩|⟨id,eh,σi,R,hret,hsub,hK⟩
   ·rw[eh] at hh
    obtain⟨fv,cv,e1,r1,r2⟩:=hh.fn_inv
    exact⟨σi,R,Ia (Cm hret.callable hoc hcal e1 w) (by simpa using(r1.append hargs).append r2) hret (hp.part hsub),hsub,hK⟩
   ·rw[eh] at hh
    exact⟨σi,R,SQ hoc hcal (VRels.cons hh hargs) hret (hp.part hsub),hsub,hK⟩
  ·cases hop
 ·cases hop
theorem XU{ops:Array Oper}{k:Nat}{o:Oper}{QQ:Exit->Act->World->Prop}{K:Act->World->Prop}{a:Act}{w:World}{f:FuncId}{vals:Array Value}{post:Ending->World->Prop}(ho:ops[k]?=some o)(hgd:o.guard=none)
  (hrun:(execOp a.eval o).run P w=.ok (.enter f vals) w)(hc:Calls P f vals w post)(hK:∀e w',post e w'->∃val,e=.returned val/\K (a.put o.dst val) w'):Gv P ro ops QQ k K a w:=by
 unfold Gv wpOpIn
 simp only[ho]
 have hw:Region.wanted o (yielded ops a.tmps)=true:=by simp[Region.wanted,hgd]
 rw[if_pos hw]
 refine Dz (LL hrun) ?_
 unfold Oper.wp
 rw[hrun]
 simp only[Oper.upon]
 refine AqY hc fun e w' hp=>?_
 grind
theorem dF{l1:List I}{live1 live:List Nat}{d:Nat}{f:FuncId}{args:List X}{paths:List (List Nat)}{Q:Exit->St->Prop}{st:St}
  (h:Av P W0 st.n l1 st.env st.σ fun env σ=>∀n1,st.n<n1->Jg P W0 n1 d f (args.map (ev (get (restrict live1 env)))) (restrict live1 env) σ fun n2 env σ=>∀n3,n2<n3->Q .normal ⟨restrict live env,σ,n3⟩) :
  Fz P W0 nt (.opxd l1 live1 d f args live paths) Q st:=by
 refine Hs fun code hc B a w hat=>?_
 obtain⟨rid,ops,rfl,hk⟩:∃rid ops,code=.region rid ops true/\So P nt ops l1 d f args paths=true:=by
  cases code with
  | region rid ops draw=>
   cases draw with
   | false=>simp[Ay] at hc
   | true=>exact⟨rid,ops,rfl,by simpa[Ay] using hc⟩
  | _=>simp[Ay] at hc
 unfold So at hk
 simp only[Aav,decide_eq_true_eq] at hk
 obtain⟨⟨⟨⟨⟨hc1,hcc⟩,hsz⟩,hd⟩,⟨hmix,he⟩,hord⟩,hlast⟩:=hk
 obtain⟨μ,H,hr,hp,hf,hold,hn,hds⟩:=hat
 obtain⟨hl1,hat1⟩:=Hq hc1
 have hlt:l1.length<ops.size:=by omega
 have ho:ops[l1.length]?=some ops[l1.length]:=ApZ hlt
 rw[ho] at hcc
 simp only at hcc
 generalize ops[l1.length]=o at ho hcc
 unfold Hr at hcc
 simp only[Aav,beq_iff_eq,decide_eq_true_eq,Atw] at hcc
 obtain⟨⟨⟨hdst,hdnt⟩,hgd⟩,hop⟩:=hcc
 have hmap:(List.range l1.length).map (fun k=>l1.getD k default)=l1:=by
  apply AsQ
  grind
 replace h:Av P W0 st.n l1 st.env st.σ fun env σ=>∃τ,CQ σ τ/\∀n1,st.n<n1->Jg P W0 n1 d f (args.map (ev (get (restrict live1 env)))) (restrict live1 env) τ fun n2 env σ=>∀n3,n2<n3->Q .normal ⟨restrict live env,σ,n3⟩:=
  BL (fun env σ hh=>⟨σ,CQ.refl _,hh⟩) h
 have hK:RG fun env σ=>∃τ,CQ σ τ/\∀n1,st.n<n1->Jg P W0 n1 d f (args.map (ev (get (restrict live1 env)))) (restrict live1 env) τ fun n2 env σ=>∀n3,n2<n3->Q .normal ⟨restrict live env,σ,n3⟩:=by
  intro env env' σ σ' hg hs hh
  obtain⟨τ,h1,h2⟩:=hh
  have:restrict live1 env'=restrict live1 env:=As6 fun s _=>by rw[hg s]
  exact⟨τ,hs.symm.trans h1,by rw[this];exact h2⟩
 have free:∀(rem:List Nat),∀k∈rem,∀d,(l1.getD k default).dst=some d->μ (st.n,d)=none:=fun rem k _ d _=>hp.bd (st.n,d) (AbG _)
 refine Gu fun t=>?_
 simp only[Region.schedule,hmix,Bool.true_or,if_true]
 refine Jm ops.size t _ a _ ?_
 rw[hsz]
 have hfd:Fr B.μ B.H B.σ B.w μ H st.σ w.drew:=⟨hf.mu,hf.hp,hf.size,hf.keep,hf.pin,hf.dom⟩
 have hmem:∀k,l1.length<=k->k<ops.size->k=l1.length:=fun k h1 h2=>by omega
 rw[<-hsz]
 have hss:ops.size=(List.range l1.length).length+1:=by grind
 have key:=RH (W0:=W0) (ep:=st.n) (n0:=st.n) (μ0:=μ) (H0:=H) (σ0:=st.σ) (w0:=w.drew) (ops:=ops) (is:=l1) (nt:=nt) (P:=P) (m:=l1.length) (x:=1) (ro:=B.ro) (Q:=fun e a' w'=>∃st',Q e st'/\At W0 nt B st' a' w') (Nat.le_of_lt hlt) rfl
  (fun k o hk ho=>hat1 k o (by grind)) hd he hord (fun k h1 h2 j hj=>by
   have:=hmem k h1 h2
   subst this
   have h3:=Aiv.1 hlast j (by simpa using hj)
   obtain⟨p,_,hp⟩:=AsC.1 h3
   simp only[Aav,beq_iff_eq] at hp
   exact⟨p,hp.1.1,hp.1.2,hp.2⟩) hK ?_ l1.length (List.range l1.length) (Array.replicate ops.size false) st.env st.σ a w.drew (st.n+1) μ H (by simp) List.pairwise_lt_range (fun k=>?_) (fun k h1 h2=>by simp[Array.getD,h2]) (by simp) (fun i j hi hlt hh=>?_) ?_
   ⟨hr,hp.drew.more (Ani _),Acq _,AbG _,free _,Fr.refl _ _ _ _,fun _ _ h=>h,hds⟩
 ·rw[show ops.size=l1.length+1 from hsz]
  rw[show ops.size=l1.length+1 from hsz] at key
  exact key
 · -- at the call
  intro listed env σ a w n μ' H' hls hli hq hri
  obtain⟨τ,hs,hq⟩:=hq
  have hsub0:∀id e,lk τ id=some e->lk σ id=some e:=fun id e h=>by rw[hs id];exact h
  obtain⟨σi,R,hret,hsub,hKK⟩:=hq n hri.ep_lt
  have hfr:=hfd.trans hri.fr
  refine⟨fun hnil=>?_,fun k hk=>?_⟩
  ·exfalso
   have:l1.length∈Region.ready .any ops listed:=by
    unfold Region.ready
    simp only[As7,Atg,Aav,ho,AsU,AoL]
    refine⟨hlt,by grind,At5.2 fun e hem=>?_⟩
    unfold DH at he
    have hbi:=Aiv.1 he l1.length (by simpa using hlt)
    rw[ho] at hbi
    have hbe:=At5.1 hbi e hem
    cases hbnd:Region.binds .any e with
    | false=>rfl
    | true=>
     simp only[hbnd,AsH,AsV,decide_eq_true_eq] at hbe⊢
     have h2:¬(listed.getD e.on true=false):=fun h=>by have:=(hli _ (by omega)).1 h;omega
     have h3:listed.getD e.on true=listed.getD e.on false:=by
      have:e.on<listed.size:=by omega
      simp[Array.getD,this]
     rw[<-h3]
     simpa using h2
   grind
  ·unfold Region.ready at hk
   simp only[As7,Atg,Aav,AmN] at hk
   have hkl:=hmem k ((hli k hk.1).1 hk.2.1) hk.1
   subst hkl
   have hr1:Rl μ' H' nt (restrict live1 env) a:=⟨hri.rl.size,fun s=>by
    rcases Bt live1 env s with h|h
    ·rw[h];exact hri.rl.at_ s
    ·rw[h];exact .any _⟩
   have hpτ:Hp W0 τ n μ' H' w:=hri.hp.part hsub0
   split at hop
   ·rename_i c hoc
    split at hop
    ·rename_i f' hcal
     simp only[Aav,beq_iff_eq] at hop
     obtain⟨rfl,hx⟩:=hop
     have hargs:VRels μ' H' (args.map (ev (get (restrict live1 env)))) (c.args.map a.eval).toList:=by
      have:=Cz hr1 hx
      simpa using this
     have hrun:=Cm (a:=a) hret.callable hoc hcal (show a.eval (.func f')=.func (.func f') #[] #[] from rfl) w
     have hcalls:=hret.run n w μ' H' (c.args.map a.eval).toList (hpτ.part hsub) hargs
     rw[AsI] at hcalls
     simp only[Array.empty_append,Array.append_empty] at hrun
     refine XU ho hgd hrun hcalls ?_
     rintro e w' ⟨val,μ2,H2,n2,v,σo,rfl,hR,hv,hp',hle,hfr2,hfresh⟩
     have hb:=hpτ.back hsub hp' hfr2
     have hk2:=hKK n2 v σo hle hR
     refine⟨val,rfl,?_,?_⟩
     ·cases h:Region.ready .any ops (listed.setIfInBounds l1.length true) with
      | nil=>rfl
      | cons k r=>
       exfalso
       have hkr:k∈Region.ready .any ops (listed.setIfInBounds l1.length true):=by rw[h];simp
       unfold Region.ready at hkr
       simp only[As7,Atg,Aav,AmN] at hkr
       by_cases hkl:k=l1.length
       ·rw[hkl] at hkr
        simp[AqE,Array.getElem?_setIfInBounds] at hkr
        rw[if_pos (by omega)] at hkr
        simp at hkr
       ·have:=hkr.2.1
        rw[AqE,At1 (Ail hkl),<-AqE] at this
        exact hkl (hmem k ((hli k hkr.1).1 this) hkr.1)
     ·have hr2:Rl μ2 H2 nt ((d,v)::restrict live1 env) (a.put o.dst val):=by
       rw[hdst]
       exact(hr1.mono hb.2.mu hb.2.hp).put (d:=some d) (fun dd hdd=>by cases hdd;exact hdnt) hv
      have hfrτ:Fr B.μ B.H B.σ B.w μ' H' τ w:=⟨hfr.mu,hfr.hp,hfr.size,hfr.keep,hfr.pin,fun bk hbk ho=>hfr.dom bk hbk (by obtain⟨id,e,h1,h2⟩:=ho;exact⟨id,e,hsub0 _ _ h1,h2⟩)⟩
      refine⟨⟨restrict live ((d,v)::restrict live1 env),over σi σo τ,n2+1⟩,hk2 (n2+1) (Acq _),μ2,H2,⟨hr2.size,fun s=>?_⟩,hb.1.more (Ani _),hfrτ.trans hb.2,fun id hid h0=>hfresh id (by have:=hri.ep_lt;omega) (hri.old id (Alg hid hn) (hold id hid h0)),by have:=hri.ep_lt;simp only;omega,(Cb _ _ _).trans hri.dfs⟩
      rcases Bt live ((d,v)::restrict live1 env) s with h|h
      ·simp only;rw[h];exact hr2.at_ s
      ·simp only;rw[h];exact .any _
    ·cases hop
   ·cases hop
 ·simp only[Atg]
  constructor
  ·intro hk;exact⟨hk,by have:k<ops.size:=(by omega);simp[Array.getD,this]⟩
  grind
 ·simp[Array.getD,hlt] at hi
 ·rw[hmap];exact h
def AjT(rs:List R)(R:Nat->Nat->V->Ak->Prop)(n0:Nat):Exit->St->Prop
 | .normal,st|.ret,st=>∃vs σ',Dj st rs vs/\(∀id e,lk σ' id=some e->lk st.σ id=some e)/\R n0 st.n (Lz vs) σ'
 | _,_=>False
theorem xI{f:FuncId}{ic:IC}{rs:List R}(hck:Aw P f nt ic rs=true){args:List V}(hargs:args.length<=nt){σ:Ak}{R:Nat->Nat->V->Ak->Prop}
  (h:∀n,(∀id e,lk σ id=some e->id.1<n)->Fz P W0 nt ic (AjT rs R n) ⟨params 0 args,σ,n⟩):Ei P W0 f args σ R:=by
 obtain⟨fn,c,hf,hb,hcode,hnt,hrs,hcal⟩:=H3 hck
 refine⟨hcal,fun n w μ H vals hp hv=>?_⟩
 subst hnt
 have hids:∀id e,lk σ id=some e->id.1<n:=by
  intro id e hl
  rcases Ar9 id.1 n with h|h
  ·exact h
  ·have hm:=hp.bd id h
   obtain⟨_,hm'⟩:=(hp.ents id e hl).named
   grind
 refine DL hf hb hp (h n hids c hcode _ _ _ (.inr rfl) (KD hargs hp hv)) (fun e st hq=>?_) (fun e st' a μ' H' hq _ hn hold w' hr' hp' hf'=>?_)
 ·cases e with
  | normal=>exact .inl rfl
  | ret=>exact .inr rfl
  | _=>exact hq.elim
 have fin:(∃vs σ',Dj st' rs vs/\(∀id e,lk σ' id=some e->lk st'.σ id=some e)/\R n st'.n (Lz vs) σ')->∃v,(results fn a.tmps).run P w'=.ok v w'/\
   ∃val μ'' H'' n'' vv σ',Ending.returned v=Ending.returned val/\R n n'' vv σ'/\Ap μ'' H'' vv val/\Hp W0 σ' n'' μ'' H'' w'/\n<=n''/\Fr μ H σ w μ'' H'' σ' w'/\∀id:Id,id.1<n->μ id=none->μ'' id=none:=by
  rintro⟨vs,σ',hres,hsub,hR⟩
  obtain⟨val,hrun,hrel⟩:=EX hr' hp' hrs hres
  refine⟨val,hrun,val,μ',H',st'.n,_,σ',rfl,hR,hrel,hp'.part hsub,hn,⟨hf'.mu,hf'.hp,hf'.size,hf'.keep,hf'.pin,fun bk hb ho=>hf'.dom bk hb ?_⟩,hold⟩
  obtain⟨id,e,hl,hbk⟩:=ho
  exact⟨id,e,hsub _ _ hl,hbk⟩
 cases e with
 | normal=>exact fin hq
 | ret=>exact fin hq
 | _=>exact hq.elim
theorem H5{P:Program}{W0:World}{f:FuncId}{args args':List V}{σ σ':Ak}{v:V}(h:Am P W0 f args' σ v σ')(hl:args.length=args'.length)
  (ha:∀(k:Nat) (a a':V),args[k]?=some a->args'[k]?=some a'->K6 (fun _=>none) a a'):Am P W0 f args σ v σ' where
 callable:=h.callable
 dom:=h.dom
 run:=fun n w μ H vals hp hv=>h.run n w μ H vals hp ⟨by rw[<-hl];exact hv.len,fun k c x hc hx=>by
  have hk:k<args.length:=by grind
  have hg:args[k]?=some args[k]:=Ain hk
  exact Ap.le (fun _ _ h=>h) (fun _ _ h=>by cases h) (ha k _ _ hg hc) (hv.at_ k _ x hg hx)⟩
end
end Go.Ir
end
section
namespace Go.Ir
open Go.RowKit
variable[F1]
theorem AJ.trans0{w w1 w2:World}(h:AJ (fun _=>False) w w1)(k:AJ (fun _=>False) w1 w2):AJ (fun _=>False) w w2:=
 ⟨k.os.trans h.os,k.tape.trans h.tape,k.output.trans h.output,Aiw h.size k.size,fun b hb _=>(k.block b (Alg hb h.size) (fun h=>h)).trans (h.block b hb (fun h=>h))⟩
theorem AJ.putObj(w:World)(l:Nat)(o:Obj):AJ (fun k=>k=l) w (w.putObj l o):=
 ⟨rfl,rfl,rfl,by simp[World.putObj],fun k _ hk=>World.putObj_heap_other hk⟩
def eS:Option (Option Nat)->Exit
 | none=>.normal
 | some none=>.ret
 | some (some k)=>.exit k
def pdX:Exit->Option (Option (Option Nat))
 | .normal=>some none
 | .ret=>some (some none)
 | .exit k=>some (some (some k))
 | _=>none
theorem ZW{e:Exit}{pd:Option (Option Nat)}(h:pdX e=some pd):e=eS pd:=by
 cases e<;>simp only[pdX] at h<;>(try (cases h;done))<;>cases h<;>rfl
def JF:LoopState->Bool
 | .busy=>true
 | _=>false
theorem Zm{s:LoopState}(h:JF s=false):s≠.busy:=by rintro rfl;cases h
def HO:List Nat->List V->AD->AD
 | p::ps,v::vs,env=>HO ps vs ((p,v)::env)
 | _,_,env=>env
theorem N4{μ:Id->Option Value}{H:Addr->Option Value}{nt:Nat}:∀{ps:List Nat} {vs:List V} {vals:List Value} {env:AD} {tmps:Array Value},vs.length=ps.length->(ps.all fun p=>Nat.blt p nt)=true->VRels μ H vs vals->tmps.size=nt->(∀s,Ap μ H (get env s) (tmps.getD s undef))->
  ((ps.zip vals).foldl (fun t p=>t.setIfInBounds p.1 p.2) tmps).size=nt/\∀s,Ap μ H (get (HO ps vs env) s) (((ps.zip vals).foldl (fun t p=>t.setIfInBounds p.1 p.2) tmps).getD s undef)
 | [],[],vals,env,tmps,_,_,_,hs,he=>⟨by simpa using hs,by simpa[HO] using he⟩
 | [],_::_,_,_,_,hl,_,_,_,_=>by simp at hl
 | _::_,[],_,_,_,hl,_,_,_,_=>by simp at hl
 | p::ps,v::vs,[],env,tmps,_,_,hv,_,_=>by have:=hv.len;simp at this
 | p::ps,v::vs,val::vals,env,tmps,hl,ha,hv,hs,he=>by
  simp only[At3,Aav,Aud] at ha
  have hv1:Ap μ H v val:=hv.at_ 0 _ _ rfl rfl
  have hv2:VRels μ H vs vals:=⟨by have:=hv.len;simpa using this,fun k c x h1 h2=>hv.at_ (k+1) c x (by simpa using h1) (by simpa using h2)⟩
  refine N4 (ps:=ps) (vs:=vs) (vals:=vals) (env:=(p,v)::env) (tmps:=tmps.setIfInBounds p val) (by simpa using hl) ha.2 hv2 (by simpa using hs) fun s=>?_
  simp only[get]
  by_cases h:p=s
  ·simp_all
  simp_all
section
variable{P:Program}{W0:World}{nt:Nat}
theorem Q2(hP:Gw P){g:X}{ps:List Nat}{a b:IC}{en live:List Nat}{st:St}{Q:Exit->St->Prop}{f0:FuncId}{first caps:List V}(hg:ev (get st.env) g=.fn f0 first caps)(hcal:callable P f0=true)
  (hR:∀w μ H vals,Hp W0 (((st.n,0),AC.loop nt (restrict en st.env) ps a b .ready none)::st.σ) (st.n+1) μ H w->VRels μ H (first++[.arr (st.n,0)]++caps) vals->Calls P f0 vals.toArray w fun e w'=>
   ∃val μ' H' n' σ',e=.returned val/\(∃nt1 env1 ps1 a1 b1 s pd,lk σ' (st.n,0)=some (.loop nt1 env1 ps1 a1 b1 s pd)/\JF s=false/\Q (eS pd) ⟨restrict live st.env,del σ' (st.n,0),n'⟩)/\
    Hp W0 σ' n' μ' H' w'/\st.n+1<=n'/\Fr μ H (((st.n,0),AC.loop nt (restrict en st.env) ps a b .ready none)::st.σ) w μ' H' σ' w'/\∀id,id.1<st.n+1->μ id=none->μ' id=none)
  {code:Code}(hcode:Ay P nt code (.rfn g ps a b en live)=true){B:HA}{act:Act}{w:World}(hro:B.ro=none)(hat:At W0 nt B st act w) :
  code.wpr P B.ro (fun e a' w'=>∃B',(K5 B B'/\∀id,B'.n<=id.1->B'.μ id=none)/\∃st',Q e st'/\At W0 nt B' st' a' w') act w:=by
 obtain⟨g',ps',ca,cb,rfl,hk⟩:∃g' ps' ca cb,code=.rangeFunc g' ps' ca cb/\(BD g' g&&ps'.toList==ps&&(ps.all fun p=>decide (p<nt))&&Ay P nt ca a&&Ay P nt cb b)=true:=by
  cases code with
  | rangeFunc g' ps' ca cb=>exact⟨g',ps',ca,cb,rfl,by simpa[Ay] using hcode⟩
  | _=>simp[Ay] at hcode
 simp only[Aav,beq_iff_eq] at hk
 obtain⟨⟨⟨⟨hkg,hkp⟩,hkl⟩,hka⟩,hkb⟩:=hk
 obtain⟨μ,H,hr,hp,hf,hold,hn,hds⟩:=hat
 have hgr:=Ao hr hkg
 rw[hg] at hgr
 obtain⟨fv,cv,e1,r1,r2⟩:=hgr.fn_inv
 rw[hro]
 refine wpIn_rangeFunc fun fn _=>?_
 rw[eI]
 obtain⟨rec,hrec⟩:∃rec:Loop,rec={ state:=.ready,pending:=none,fn,tmps:=act.tmps,params:=ps',assign:=ca,body:=cb,defers:=w.heap.size }:=⟨_,rfl⟩
 obtain⟨w1,hw1⟩:∃w1,w1=(w.alloc (.deferred (some []))).alloc (.loop rec):=⟨_,rfl⟩
 have hL:w1.heap[w.heap.size+1]?=some (.loop rec):=by
  rw[hw1];have:=World.alloc_heap_new (w.alloc (.deferred (some []))) (.loop rec);rwa [World.size_alloc] at this
 have hD:w1.heap[w.heap.size]?=some (.deferred (some [])):=by
  rw[hw1];exact(heap_alloc_old _ _ _ (by simp)).trans (World.alloc_heap_new w _)
 have ht:AJ (fun _=>False) w w1:=by rw[hw1];exact(AJ.alloc w _).trans0 (AJ.alloc _ _)
 have hnone:μ (st.n,0)=none:=hp.bd _ (AbG _)
 have hmono:=Bv (v:=.func (.yield (w.heap.size+1)) #[] #[]) hnone
 have hent:Cu W0.heap.size (Ee μ (st.n,0) (.func (.yield (w.heap.size+1)) #[] #[])) H w1 (st.n,0) (.loop nt (restrict en st.env) ps a b .ready none):=by
  refine⟨w.heap.size+1,rec,Ar _ _ _,Aiw hp.base.size (Ani _),hL,⟨by rw[hrec],by rw[hrec];rfl,by rw[hrec];exact hkp,by rw[hrec];exact(hP _ _ _).2 hka,by rw[hrec];exact(hP _ _ _).2 hkb,by rw[hrec];exact hr.size⟩,fun s=>?_⟩
  rw[hrec]
  rcases Bt en st.env s with hx|hx
  ·rw[hx];exact(hr.at_ s).mono hmono (fun _ _ h=>h)
  ·rw[hx];exact .any _
 obtain⟨hp1,hf1⟩:=hp.new_ (n':=st.n+1) (σ1:=st.σ) ht (fun _ h=>h.elim) (fun id e h=>⟨h,fun _ _ h=>h⟩) hnone (Acq _) (Ani _) (fun bk hbk=>by simp[BI] at hbk;exact .inr (by omega)) hent
 have hargs1:VRels (Ee μ (st.n,0) (.func (.yield (w.heap.size+1)) #[] #[])) H (first++[.arr (st.n,0)]++caps) (fv++[.func (.yield (w.heap.size+1)) #[] #[]]++cv):=
  ((r1.mono hmono (fun _ _ h=>h)).append (VRels.cons (.arr _ _ (Ar _ _ _) rfl) VRels.nil_)).append (r2.mono hmono (fun _ _ h=>h))
 have hrun:=hR w1 _ H _ hp1 hargs1
 have hres:(resolve act.eval (rangeCall g' (w.heap.size+1)) 0).run P w1=.ok { target:=.fn (.func f0) cv.toArray,args:=fv.toArray++#[.func (.yield (w.heap.size+1)) #[] #[]] } w1:=by
  simp only[resolve,rangeCall,e1,Deferred.ofValue,Afu,Ai0,AfH]
  simp[Act.eval]
 refine⟨w.heap.size+1,[{ target:=.collected w.heap.size,args:=#[] }],w1,_,w1,f0,(fv++[Value.func (.yield (w.heap.size+1)) #[] #[]]++cv).toArray,w1,?_,hres,fun f' _=>GA none f',?_,fun hh=>(by rw[G2] at hh;cases hh),S7.2 (AqY hrun ?_)⟩
 ·rw[hw1,hrec];exact run_enterLoop_outer _ _ _ _ _
 ·have:=I8 (P:=P) hcal (fv++[Value.func (.yield (w.heap.size+1)) #[] #[]]++cv).toArray w1
  rw[<-this]
  simp[invoke]
 rintro ee w3 ⟨val,μ',H',n',σ',rfl,⟨nt1,env1,ps1,a1,b1,s,pd,hlk,hbz,hQ⟩,hp',hle,hf',hfresh⟩
 obtain⟨l',r',hmu,hBl,hh,⟨hst,hpd,_⟩,_⟩:=hp'.ents _ _ hlk
 have hl':l'=w.heap.size+1:=by
  have:=hf'.mu (st.n,0) _ (Ar _ _ _)
  rw[hmu] at this
  simpa using this
 subst hl'
 have hown:EK μ' σ' (w.heap.size+1):=⟨_,_,hlk,by rw[hmu];rfl⟩
 have hdel:∀id e,lk (del σ' (st.n,0)) id=some e->id≠(st.n,0)/\lk σ' id=some e:=by
  intro id e hl
  rw[C7] at hl
  split at hl
  ·cases hl
  ·rename_i hne;exact⟨fun h=>hne h.symm,hl⟩
 have hnown:¬EK μ' (del σ' (st.n,0)) (w.heap.size+1):=by
  rintro⟨id,e,hl,hbk⟩
  obtain⟨hne,hl⟩:=hdel id e hl
  exact hne (hp'.sep _ _ _ _ _ hl hlk hbk (by rw[hmu];rfl))
 refine⟨r'.pending,w3.putObj (w.heap.size+1) (.loop { r' with state:=.exhausted }),run_endLoop hh (by rw[hst];exact Zm hbz),?_⟩
 have hp4:Hp W0 (del σ' (st.n,0)) n' μ' H' (w3.putObj (w.heap.size+1) (.loop { r' with state:=.exhausted })):=by
  have hpp:=hp'.part fun id e hl=>(hdel id e hl).2
  have htp:=AJ.putObj w3 (w.heap.size+1) (.loop { r' with state:=.exhausted })
  refine⟨hp'.base_turned htp (fun k hk=>by subst hk;exact hown),hp'.pins_turned htp (fun k hk=>by subst hk;exact hown),fun id e hl=>?_,hpp.unp,hpp.sep,hpp.bd⟩
  exact(hpp.ents id e hl).keep (fun _ _ h=>h) (fun _ _ h=>h) fun bk hbk=>World.putObj_heap_other (by rintro rfl;exact hnown ⟨id,e,hl,hbk⟩)
 have hf4:Fr μ' H' σ' w3 μ' H' (del σ' (st.n,0)) (w3.putObj (w.heap.size+1) (.loop { r' with state:=.exhausted })):=
  ⟨fun _ _ h=>h,fun _ _ h=>h,by simp[World.putObj],fun bk _ ho=>World.putObj_heap_other (by rintro rfl;exact ho hown),fun _ _ _=>rfl,fun bk _ ho=>by obtain⟨id,e,hl,hbk⟩:=ho;exact⟨id,e,(hdel id e hl).2,hbk⟩⟩
 have hfa:=hf.trans (hf1.trans (hf'.trans hf4))
 obtain⟨B',hB'⟩:∃B':HA,B'=⟨μ',H',del σ' (st.n,0),w3.putObj (w.heap.size+1) (.loop { r' with state:=.exhausted }),n',none,{ target:=.collected w.heap.size,args:=#[] }::act.defers⟩:=⟨_,rfl⟩
 have hx:K5 B B'/\∀id,B'.n<=id.1->B'.μ id=none:=by
  subst hB'
  refine⟨⟨hfa,fun id hid h0=>?_,by simp only;omega,hro.symm,fun lo hlo hg=>?_,fun _ id hid=>hp'.bd id hid⟩,fun id hid=>hp'.bd id hid⟩
  ·refine hfresh id (by omega) ?_
   rw[B9 _ _ (by rintro rfl;simp at hid;omega)]
   exact hold id hid h0
  ·obtain⟨Ds,hnd,hDs,hall⟩:=hg
   have hsz:B.w.heap.size<=w.heap.size:=hf.size
   refine⟨w.heap.size::Ds,AqP.2 ⟨fun hm=>?_,hnd⟩,by simp only[Ait];rw[hds,hDs],fun D hm=>?_⟩
   ·obtain⟨_,h2,_⟩:=hall _ hm
    have:=(AnS.1 h2).1
    omega
   ·rcases Ao9.1 hm with rfl|hm
    ·have hlt1:w.heap.size<w1.heap.size:=(AnS.1 hD).1
     have hno:¬EK (Ee μ (st.n,0) (.func (.yield (w.heap.size+1)) #[] #[])) (((st.n,0),AC.loop nt (restrict en st.env) ps a b .ready none)::st.σ) w.heap.size:=by
      rintro⟨id,e,hl,hbk⟩
      simp only[lk] at hl
      split at hl
      ·rename_i h0
       subst h0
       rw[Ar] at hbk
       simp[BI] at hbk
      ·rename_i h0
       rw[B9 _ _ (fun h=>h0 h.symm)] at hbk
       have:=((hp.ents _ _ hl).block hbk).2
       omega
     refine⟨by omega,?_,fun ho=>?_⟩
     ·simp only
      rw[World.putObj_heap_other (by omega),hf'.keep _ hlt1 hno]
      exact hD
     ·exact hno (hf'.dom _ hlt1 (hf4.dom _ (Alg hlt1 hf'.size) ho))
    ·obtain⟨h1,h2,h3⟩:=hall D hm
     have hlt:=(AnS.1 h2).1
     exact⟨h1,(hfa.keep D hlt h3).trans h2,fun ho=>h3 (hfa.dom D hlt ho)⟩
 have hat':At W0 nt B' ⟨restrict live st.env,del σ' (st.n,0),n'⟩ { act with defers:=[{ target:=.collected w.heap.size,args:=#[] }]++act.defers } (w3.putObj (w.heap.size+1) (.loop { r' with state:=.exhausted })):=by
  subst hB'
  refine⟨μ',H',⟨hr.size,fun s=>?_⟩,hp4,Fr.refl _ _ _ _,fun _ _ h=>h,AbG _,rfl⟩
  rcases Bt live st.env s with hx|hx
  ·simp only;rw[hx];exact(hr.at_ s).mono (fun id x h=>hf'.mu _ _ (hmono id x h)) hf'.hp
  ·simp only;rw[hx];exact .any _
 generalize w3.putObj (w.heap.size+1) (.loop { r' with state:=.exhausted })=w4 at hat'
 rw[hpd]
 cases pd with
 | none=>exact⟨B',hx,_,hQ,hat'⟩
 | some k=>cases k with
  | none=>exact wpIn_ret ⟨B',hx,_,hQ,hat'⟩
  | some k=>exact wpIn_exit ⟨B',hx,_,hQ,hat'⟩
theorem Md{id:Id}{vs:List V}{σ:Ak}{n:Nat}{w:World}{μ:Id->Option Value}{H:Addr->Option Value}{vals:List Value}{env:AD}{ps:List Nat}{a b:IC}{pd:Option (Option Nat)}{R:Nat->Nat->V->Ak->Prop}
  (hp:Hp W0 σ n μ H w)(hargs:VRels μ H (.arr id::vs) vals)(hl0:lk σ id=some (.loop nt env ps a b .ready pd))(hlen:vs.length=ps.length)(hps:(ps.all fun p=>Nat.blt p nt)=true)
  (h:∀(l:Nat) (ca cb:Code),F1.ck nt ca a->F1.ck nt cb b->∀act,At W0 nt ⟨μ,H,σ,w,n,some l,[]⟩ ⟨HO ps vs env,σ,n⟩ act w->ca.wpr P (some l) (fun e act1 w1=>e=.normal/\∃B1 s1 nt1 env1 ps1 a1 b1 pd1,K5 ⟨μ,H,σ,w,n,some l,[]⟩ B1/\At W0 nt B1 s1 act1 w1/\
   lk s1.σ id=some (.loop nt1 env1 ps1 a1 b1 .ready pd1)/\∀w2,At W0 nt B1 ⟨s1.env,upd s1.σ id (.loop nt1 env1 ps1 a1 b1 .busy pd1),s1.n⟩ act1 w2->cb.wpr P (some l) (fun e act2 w3=>∃B2 s2 pd' nt2 env2 ps2 a2 b2 st2 pd2 σ',e=eS pd'/\K5 B1 B2/\At W0 nt B2 s2 act2 w3/\lk s2.σ id=some (.loop nt2 env2 ps2 a2 b2 st2 pd2)/\
    (∀j x,lk σ' j=some x->lk (upd s2.σ id (.loop nt2 env2 ps2 a2 b2 (bif pd'.isNone then .ready else .done) pd')) j=some x)/\R n s2.n (.b pd'.isNone) σ') act1 w2) act w) :
  Aek P vals w fun e w'=>∃val μ' H' n' v σ',e=.returned val/\R n n' v σ'/\Ap μ' H' v val/\Hp W0 σ' n' μ' H' w'/\n<=n'/\Fr μ H σ w μ' H' σ' w'/\∀id,id.1<n->μ id=none->μ' id=none:=by
 match vals,hargs with
 | [],hargs=>have:=hargs.len;simp at this
 | v0::rest,hargs=>
 have hv0:Ap μ H (.arr id) v0:=hargs.at_ 0 _ _ rfl rfl
 have hrest:VRels μ H vs rest:=⟨by have:=hargs.len;simpa using this,fun k c x h1 h2=>hargs.at_ (k+1) c x (by simpa using h1) (by simpa using h2)⟩
 obtain⟨l,r,hmu,hBl,hh,⟨hst,hpd0,hpp,hca,hcb,hsz⟩,hrel⟩:=hp.ents _ _ hl0
 have e0:v0=.func (.yield l) #[] #[]:=by
  have:=(hv0.arr_inv).1
  rw[hmu] at this
  exact(Option.some.inj this).symm
 subst e0
 have hsize:rest.toArray.size=r.params.size:=by
  have h1:=hrest.len
  have h2:r.params.toList.length=r.params.size:=by simp
  rw[hpp] at h2
  simp only[List.size_toArray]
  omega
 refine⟨l,rest,r.fn,_,r.assign,r.body,rfl,run_yield hh hsize,roundIn_of_wpIn (F:=Fence.wide) trivial ?_⟩
 have htm:(r.params.zip rest.toArray).foldl (fun tmps (x:Tmp×Value)=>tmps.setIfInBounds x.1 x.2) r.tmps=(ps.zip rest).foldl (fun t p=>t.setIfInBounds p.1 p.2) r.tmps:=by
  rw[<-hpp,<-Array.foldl_toList]
  simp
 have hpr:=N4 hlen hps hrest hsz hrel
 have hat0:At W0 nt ⟨μ,H,σ,w,n,some l,[]⟩ ⟨HO ps vs env,σ,n⟩ { tmps:=(r.params.zip rest.toArray).foldl (fun tmps (x:Tmp×Value)=>tmps.setIfInBounds x.1 x.2) r.tmps,defers:=[] } w:=by
  rw[htm]
  exact⟨μ,H,⟨hpr.1,hpr.2⟩,hp,Fr.refl _ _ _ _,fun _ _ h=>h,AbG _,rfl⟩
 refine wpIn_mono (h l _ _ hca hcb _ hat0) fun e1 act1 w1 hh1=>?_
 obtain⟨rfl,B1,s1,nt1,env1,ps1,a1,b1,pd1,hxt1,hat1,hl1,hbody⟩:=hh1
 obtain⟨μ1,H1,hr1,hp1,hf1,hold1,hn1,hds1⟩:=hat1
 obtain⟨l1,r1,hmu1,hBl1,hhh1,⟨hst1,hpd1,hps1,hca1,hcb1,hsz1⟩,hrel1⟩:=hp1.ents _ _ hl1
 have hmuc:μ1 id=some (.func (.yield l) #[] #[]):=hf1.mu _ _ (hxt1.fr.mu _ _ hmu)
 have hll:l1=l:=by rw[hmuc] at hmu1;simpa using hmu1.symm
 subst hll
 refine⟨_,run_beginRound hhh1 hst1,?_⟩
 have hlt1:l1<w1.heap.size:=(AnS.1 hhh1).1
 obtain⟨hp1',hf1'⟩:=hp1.set_ (e:=.loop nt1 env1 ps1 a1 b1 .busy pd1) hl1 ((AJ.putObj w1 l1 (.loop { r1 with state:=.busy })).to (fun k hk=>by subst hk;rw[hmu1];rfl)) ⟨l1,{ r1 with state:=.busy },hmu1,hBl1,World.putObj_heap_same hlt1,⟨rfl,hpd1,hps1,hca1,hcb1,hsz1⟩,hrel1⟩
 refine wpIn_mono (hbody _ ⟨μ1,H1,hr1,hp1',hf1.trans hf1',hold1,hn1,hds1⟩) fun e2 act2 w2 hh2=>?_
 obtain⟨B2,s2,pd',nt2,env2,ps2,a2,b2,st2,pd2,σ',rfl,hxt2,hat2,hl2,hsub,hR⟩:=hh2
 obtain⟨μ2,H2,hr2,hp2,hf2,hold2,hn2,hds2⟩:=hat2
 obtain⟨l2,r2,hmu2,hBl2,hhh2,⟨hst2,hpd2,hps2,hca2,hcb2,hsz2⟩,hrel2⟩:=hp2.ents _ _ hl2
 have hmuc2:μ2 id=some (.func (.yield l1) #[] #[]):=hf2.mu _ _ (hxt2.fr.mu _ _ (hxt1.fr.mu _ _ hmu))
 have hll2:l2=l1:=by rw[hmuc2] at hmu2;simpa using hmu2.symm
 subst hll2
 have hlt2:l2<w2.heap.size:=(AnS.1 hhh2).1
 have fin:∀(jump:Option Code),pdC pd'=jump->jump.isNone=pd'.isNone->∃v w',(Instr.endRound l2 jump).run P w2=.ok v w'/\∃val μ' H' n' vv σ',Ending.returned v=Ending.returned val/\R n n' vv σ'/\Ap μ' H' vv val/\Hp W0 σ' n' μ' H' w'/\n<=n'/\Fr μ H σ w μ' H' σ' w'/\∀id,id.1<n->μ id=none->μ' id=none:=by
  intro jump hj hjn
  have hstt:(if jump.isNone then LoopState.ready else .done)=(bif pd'.isNone then LoopState.ready else .done):=by rw[hjn];cases pd'.isNone<;>rfl
  obtain⟨hp3,hf3⟩:=hp2.set_ (e:=.loop nt2 env2 ps2 a2 b2 (bif pd'.isNone then .ready else .done) pd') hl2 ((AJ.putObj w2 l2 (.loop { r2 with state:=if jump.isNone then .ready else .done,pending:=jump })).to (fun k hk=>by subst hk;rw[hmu2];rfl)) ⟨l2,{ r2 with state:=if jump.isNone then .ready else .done,pending:=jump },hmu2,hBl2,World.putObj_heap_same hlt2,⟨hstt,hj.symm,hps2,hca2,hcb2,hsz2⟩,hrel2⟩
  have hfa:=(hxt1.trans hxt2).fr.trans (hf2.trans hf3)
  refine⟨_,_,run_endRound jump hhh2,_,μ2,H2,s2.n,_,σ',rfl,hR,by rw[hjn];exact .b _,hp3.part hsub,Aiw hxt1.le (Aiw hxt2.le hn2),⟨hfa.mu,hfa.hp,hfa.size,hfa.keep,hfa.pin,fun bk hbk ho=>hfa.dom bk hbk ?_⟩,fun id hid h0=>?_⟩
  ·obtain⟨j,x,hj,hbk2⟩:=ho
   exact⟨j,x,hsub _ _ hj,hbk2⟩
  ·exact hold2 id (Alg hid (Aiw hxt1.le hxt2.le)) ((hxt1.trans hxt2).old id hid h0)
 cases pd' with
 | none=>exact fin none rfl rfl
 | some k=>cases k with
  | none=>exact fin (some .ret) rfl rfl
  | some k=>exact fin (some (.exit k)) rfl rfl
theorem AaA(hP:Gw P){g:X}{ps:List Nat}{a b:IC}{en live:List Nat}{st:St}{Q:Exit->St->Prop}{f0:FuncId}{first caps:List V}(hg:ev (get st.env) g=.fn f0 first caps){σi:Ak}{R:Nat->Nat->V->Ak->Prop}
  (hR:Ei P W0 f0 (first++[.arr (st.n,0)]++caps) σi R)(hs:∀id e,lk σi id=some e->lk (((st.n,0),AC.loop nt (restrict en st.env) ps a b .ready none)::st.σ) id=some e)
  (hQ:∀n' v σo,st.n+1<=n'->R (st.n+1) n' v σo->∃nt1 env1 ps1 a1 b1 s pd,lk (over σi σo (((st.n,0),AC.loop nt (restrict en st.env) ps a b .ready none)::st.σ)) (st.n,0)=some (.loop nt1 env1 ps1 a1 b1 s pd)/\JF s=false/\Q (eS pd) ⟨restrict live st.env,del (over σi σo (((st.n,0),AC.loop nt (restrict en st.env) ps a b .ready none)::st.σ)) (st.n,0),n'⟩) :
  Fz P W0 nt (.rfn g ps a b en live) Q st:=by
 intro code hc B act w hn hat
 have hro:B.ro=none:=by
  rcases hn with h|h
  ·cases h
  ·exact h
 refine AZ (Q2 (Q:=Q) hP hg hR.callable (fun w μ H vals hp hv=>?_) hc hro hat) fun e a' w' ⟨B',hx,st',hq,ha⟩=>⟨B',hx.1,st',hq,ha⟩
 refine AqY (hR.run _ w μ H vals (hp.part hs) hv) ?_
 rintro e w' ⟨val,μ',H',n',v,σo,rfl,h1,hv',hp',hle,hf,hfresh⟩
 have hb:=hp.back hs hp' hf
 grind
theorem X4(hP:Gw P){id:Id}{vs:List V}{σ:Ak}{env:AD}{ps:List Nat}{a b:IC}{pd:Option (Option Nat)}{R:Nat->Nat->V->Ak->Prop}
  (hl0:lk σ id=some (.loop nt env ps a b .ready pd))(hlen:vs.length=ps.length)(hps:(ps.all fun p=>Nat.blt p nt)=true)(hnr:(a.nr&&b.nr)=true)
  (h:∀n,(∀id e,lk σ id=some e->id.1<n)->Fz P W0 nt a (fun e s1=>e=.normal/\∃nt1 env1 ps1 a1 b1 pd1,lk s1.σ id=some (.loop nt1 env1 ps1 a1 b1 .ready pd1)/\
   Fz P W0 nt b (fun e s2=>∃pd' nt2 env2 ps2 a2 b2 st2 pd2 σ',e=eS pd'/\lk s2.σ id=some (.loop nt2 env2 ps2 a2 b2 st2 pd2)/\(∀j x,lk σ' j=some x->lk (upd s2.σ id (.loop nt2 env2 ps2 a2 b2 (bif pd'.isNone then .ready else .done) pd')) j=some x)/\R n s2.n (.b pd'.isNone) σ') ⟨s1.env,upd s1.σ id (.loop nt1 env1 ps1 a1 b1 .busy pd1),s1.n⟩) ⟨HO ps vs env,σ,n⟩) :
  Sz P W0 (.arr id::vs) σ R:=by
 rw[Aav] at hnr
 refine⟨fun n w μ H vals hp hv=>?_⟩
 have hids:∀id e,lk σ id=some e->id.1<n:=by
  intro id e hl
  rcases Ar9 id.1 n with h|h
  ·exact h
  ·have hm:=hp.bd id h
   obtain⟨_,hm'⟩:=(hp.ents id e hl).named
   rw[hm] at hm';cases hm'
 refine Md hp hv hl0 hlen hps fun l ca cb hca hcb act hat=>?_
 refine AZ (h n hids ca ((hP _ _ _).1 hca) _ act w (.inl hnr.1) hat) fun e act1 w1 hh=>?_
 obtain⟨B1,hx,s1,⟨rfl,nt1,env1,ps1,a1,b1,pd1,hl1,hb⟩,hat1⟩:=hh
 refine⟨rfl,B1,s1,nt1,env1,ps1,a1,b1,pd1,hx,hat1,hl1,fun w2 hat2=>?_⟩
 have h2:=hb cb ((hP _ _ _).1 hcb) B1 act1 w2 (.inl hnr.2) hat2
 rw[hx.ro] at h2
 refine AZ h2 fun e2 act2 w3 hh=>?_
 obtain⟨B2,hx2,s2,⟨pd',nt2,env2,ps2,a2,b2,st2,pd2,σ',rfl,hl2,hsub,hR⟩,hat3⟩:=hh
 exact⟨B2,s2,pd',nt2,env2,ps2,a2,b2,st2,pd2,σ',rfl,hx2,hat3,hl2,hsub,hR⟩
end
end Go.Ir
end
namespace Go.Ir
open Go.Proofs
instance prgHere:F1:=⟨fun nt c ic=>Ay Tryz.prog nt c ic=true⟩
theorem bV:Gw Tryz.prog:=fun _ _ _=>Iff.rfl
end Go.Ir
section
namespace Go.Ir
def xsO:Option X->List X
 | none=>[]
 | some x=>[x]
def AE.xs:AE->List X
 | .mv x|.not x|.neg x|.cvi _ x|.cvs x|.fld x _ _ _|.faddr x _|.load x _ _|.box x|.lenS x|.lenL x|.ext x _|.nilck x|.frz x _|.mrange x|.mentry x|.btos x=>[x]
 | .pick c a b=>[c,a,b]
 | .bin _ x y|.eqb _ x y|.eqr _ x y|.iaddr x y _ _|.idx x y|.store x y _|.app x y _ _|.apps x y _|.slT x y _|.mksl x y _ _ _=>[x,y]
 | .alloc _=>[]
 | .build _ ps=>ps.map (·.2.2)
 | .msl _ _ _ xs|.pu _ xs|.mkm _ xs=>xs
 | .slS x lo hi|.slL x lo hi _=>x::(xsO lo++xsO hi)
 | .call _ xs|.calls _ xs|.calln _ xs|.callr _ xs=>xs
 | .callv x xs|.callvs x xs|.callw x xs|.mx _ x xs|.rdm _ x xs|.wrm _ x xs=>x::xs
 | .mkfn _ a c=>a++c
def AE.zs:AE->List V
 | .alloc z=>[z]
 | .build z _=>z
 | .mksl _ _ z _ _=>[z]
 | .rdm (.mget _ z _) _ _=>[z]
 | .mkm (.tnew _ z) _=>[z]
 | _=>[]
mutual
def Wo:V->Bool
 | .sl es|.agg es|.tup es=>Qq es
 | .ref _ _|.arr _|.aref _ _ _ _|.ep _ _=>false
 | .fn _ a c=>Qq a&&Qq c
 | _=>true
def Qq:List V->Bool
 | []=>true
 | v::vs=>Wo v&&Qq vs
end
def X.cl:X->Bool
 | .t _=>true
 | .c v=>Wo v
def I.cl(i:I):Bool:=i.op.xs.all X.cl&&Qq i.op.zs
def IC.cl:IC->Bool
 | .seqr l _|.ops l _ _=>l.all I.cl
 | .opxe l i _ _=>l.all I.cl&&i.cl
 | .anyr l _ _=>l.all I.cl
 | .seq a b|.cond _ a b=>a.cl&&b.cl
 | .block _ c|.loop c|.wk c=>c.cl
 | .exit _|.ret|.skip=>true
 | .rfn g _ a b _ _=>(X.cl g&&(a.cl&&b.cl))&&(a.nr&&b.nr)
 | _=>false
end Go.Ir
end
section
namespace Go.Ir
open Go.RowKit
variable[F1]
inductive AW (S:Id->Prop):V->Prop where
 | b (x:Bool):AW S (.b x)
 | i (k:IntKind) (n:Int):AW S (.i k n)
 | s (l:List UInt8):AW S (.s l)
 | nil:AW S .nil
 | sl (es:List V) (h:∀e∈es,AW S e):AW S (.sl es)
 | agg (es:List V) (h:∀e∈es,AW S e):AW S (.agg es)
 | tup (es:List V) (h:∀e∈es,AW S e):AW S (.tup es)
 | ref (id:Id) (o:Nat) (h:S id):AW S (.ref id o)
 | arr (id:Id) (h:S id):AW S (.arr id)
 | aref (id:Id) (ix sz o:Nat) (h:S id):AW S (.aref id ix sz o)
 | ep (e:V) (o:Nat) (h:AW S e):AW S (.ep e o)
 | fn (f:FuncId) (a c:List V) (ha:∀e∈a,AW S e) (hc:∀e∈c,AW S e):AW S (.fn f a c)
 | np:AW S .np
 | nf:AW S .nf
 | ni:AW S .ni
 | nm:AW S .nm
 | ub:AW S .ub
 | iv:AW S .iv
 | any:AW S .any
section
variable{S T:Id→Prop}
theorem AW.mono{v:V}(h:AW S v)(hs:∀id,S id->T id):AW T v:=by
 induction h with
 | b x=>exact .b x
 | i k n=>exact .i k n
 | s l=>exact .s l
 | nil=>exact .nil
 | sl es _ ih=>exact .sl es ih
 | agg es _ ih=>exact .agg es ih
 | tup es _ ih=>exact .tup es ih
 | ref id o h=>exact .ref id o (hs _ h)
 | arr id h=>exact .arr id (hs _ h)
 | aref id ix sz o h=>exact .aref id ix sz o (hs _ h)
 | ep e o _ ih=>exact .ep e o ih
 | fn f a c _ _ iha ihc=>exact .fn f a c iha ihc
 | np=>exact .np
 | nf=>exact .nf
 | ni=>exact .ni
 | nm=>exact .nm
 | ub=>exact .ub
 | iv=>exact .iv
 | any=>exact .any
theorem AW.cells{v:V}(h:AW S v):∀c∈cells v,AW S c:=by
 intro c hc
 cases h with
 | agg es h=>exact h c hc
 | _=>simp only[Go.Ir.cells,AsB] at hc;subst hc;first|exact .b _|exact .i _ _|exact .s _|exact .nil|exact .sl _ (by assumption)|exact .tup _ (by assumption)|exact .ref _ _ (by assumption)|exact .arr _ (by assumption)|exact .aref _ _ _ _ (by assumption)|exact .ep _ _ (by assumption)|exact .fn _ _ _ (by assumption) (by assumption)|exact .np|exact .nf|exact .ni|exact .nm|exact .ub|exact .iv|exact .any
theorem AW.sl_inv{es:List V}(h:AW S (.sl es)):∀e∈es,AW S e:=by cases h;assumption
theorem AW.agg_inv{es:List V}(h:AW S (.agg es)):∀e∈es,AW S e:=by cases h;assumption
theorem AW.tup_inv{es:List V}(h:AW S (.tup es)):∀e∈es,AW S e:=by cases h;assumption
theorem AW.ref_inv{id:Id}{o:Nat}(h:AW S (.ref id o)):S id:=by cases h;assumption
theorem AW.arr_inv{id:Id}(h:AW S (.arr id)):S id:=by cases h;assumption
theorem AW.aref_inv{id:Id}{ix sz o:Nat}(h:AW S (.aref id ix sz o)):S id:=by cases h;assumption
theorem AW.ep_inv{e:V}{o:Nat}(h:AW S (.ep e o)):AW S e:=by cases h;assumption
theorem AW.fn_inv{f:FuncId}{a c:List V}(h:AW S (.fn f a c)):(∀e∈a,AW S e)/\∀e∈c,AW S e:=by cases h;grind
theorem V7{es:List V}(h:∀e∈es,AW S e):∀c∈AF es,AW S c:=by
 intro c hc
 simp only[AF,Aty] at hc
 obtain⟨e,he,hc⟩:=hc
 exact(h e he).cells c hc
theorem CA{es:List V}(h:∀e∈es,AW S e){k:Nat}{c:V}(hk:es[k]?=some c):AW S c:=h c (Ai1 hk)
theorem HT{u v:V}{off n:Nat}{ag:Bool}(h:sub u off n ag=some v)(hu:AW S u):AW S v:=by
 unfold sub at h
 split at h
 ·split at h
  ·cases h;exact .agg _ hu.cells
  ·split at h
   ·cases h
    exact .agg _ fun c hc=>hu.cells c (Att (Ar0 hc))
   ·cases h
 ·exact CA hu.cells h
theorem KO{u x u':V}{off n:Nat}(h:De u off n x=some u')(hu:AW S u)(hx:AW S x):AW S u':=by
 unfold De at h
 split at h
 ·split at h
  ·cases h;exact hx
  ·split at h
   ·cases h
    refine .agg _ fun c hc=>?_
    simp only[Aio] at hc
    rcases hc with(hc|hc)|hc
    ·exact hu.cells c (Ar0 hc)
    ·exact hx.cells c hc
    ·exact hu.cells c (Att hc)
   ·cases h
 ·cases h
theorem Rv:∀{ps:List (Nat×Nat×V)} {z cs:List V},El z ps=some cs->(∀c∈z,AW S c)->(∀p∈ps,AW S p.2.2)->∀c∈cs,AW S c
 | [],z,cs,h,hz,_=>by cases h;exact hz
 | (off,n,v)::r,z,cs,h,hz,hp=>by
  rw[El] at h
  split at h
  ·refine Rv h (fun c hc=>?_) (fun p hp'=>hp p (by simp[hp']))
   simp only[Aio] at hc
   rcases hc with(hc|hc)|hc
   ·grind
   ·exact(hp (off,n,v) (by simp)).cells c hc
   grind
  ·cases h
theorem vG{op:BinOp}{k:IntKind}{a b:Int}{v:V}(h:PW op k a b v):AW S v:=by
 unfold PW at h
 split at h<;>first|(subst h;first|exact .i _ _|exact .b _)|(obtain⟨_,rfl⟩:=h;exact .i _ _)|exact h.elim
theorem yO{op:BinOp}{a b:List UInt8}{v:V}(h:Rj op a b v):AW S v:=by
 unfold Rj at h
 split at h<;>first|(subst h;first|exact .s _|exact .b _)|(obtain⟨_,rfl⟩:=h;exact .s _)|exact h.elim
theorem zO{op:BinOp}{x y v:V}(h:OE op x y v):AW S v:=by
 unfold OE at h
 split at h
 ·exact vG h.2
 ·exact yO h
 ·exact h.elim
theorem Ad2{lo:Bool}{v:V}(xs:List V):∀{x:V},OO lo x xs=some v->AW S x->AW S v:=by
 induction xs with
 | nil=>intro x h hx;cases x<;>(simp only[OO] at h;cases h;exact hx)
 | cons y ys ih=>
  intro x h hx
  unfold OO at h
  split at h
  ·rename_i h1;cases h1
  ·rename_i h1
   cases h1
   split at h
   ·exact ih h (.i _ _)
   ·cases h
  ·cases h
theorem AdE{k:PuK}{xs:List V}{v:V}(h:F9 k xs=some v)(hx:∀x∈xs,AW S x):AW S v:=by
 unfold F9 at h
 split at h
 ·cases h;exact .b _
 ·cases h;exact .ub
 ·cases h;exact .b _
 ·cases h;exact .s _
 ·rename_i es
  cases hb:Ey es with
  | none=>rw[hb] at h;cases h
  | some l=>rw[hb] at h;cases h;exact .s _
 ·cases h;exact .s _
 ·split at h
  ·cases h
   exact .ref _ _ (hx _ (Afi ..)).ref_inv
  ·cases h
 ·split at h
  ·unfold o9 at h
   split at h<;>(try (cases h;done))<;>(cases h;exact .i _ _)
  ·cases h
 ·split at h
  ·unfold Aeb at h
   split at h<;>(try (cases h;done))<;>(cases h;exact .i _ _)
  ·cases h
 ·split at h
  ·exact HT h (hx _ (Afi ..))
  ·cases h
 ·obtain⟨r,_,rfl⟩:=Adc.1 h;exact .b _
 ·obtain⟨r,_,rfl⟩:=Adc.1 h;exact .b _
 ·obtain⟨r,_,rfl⟩:=Adc.1 h;exact .b _
 ·cases h;exact .i _ _
 ·cases h
inductive Iz (S:Id->Prop):AC->Prop where
 | box (v:V) (h:AW S v):Iz S (.box v)
 | tbox (t:TypeId) (v:V) (h:AW S v):Iz S (.tbox t v)
 | arr (e sz:Nat) (es:List V) (h:∀x∈es,AW S x):Iz S (.arr e sz es)
 | map (es:List (V×V)) (h:∀x∈es,AW S x.1/\AW S x.2):Iz S (.map es)
 | it (l:List UInt8) (p:Nat):Iz S (.it l p)
 | mit (mid:Id) (since:Nat) (seen:List Nat) (st:Nat) (h:S mid):Iz S (.mit mid since seen st)
 | loop (nt:Nat) (env:AD) (ps:List Nat) (a b:IC) (st:LoopState) (pd:Option (Option Nat)) (h:∀s,AW S (get env s)) (hc:((a.cl&&b.cl)&&(a.nr&&b.nr))=true):Iz S (.loop nt env ps a b st pd)
theorem Iz.mono{e:AC}(h:Iz S e)(hs:∀id,S id->T id):Iz T e:=by
 cases h with
 | box v h=>exact .box v (h.mono hs)
 | tbox t v h=>exact .tbox t v (h.mono hs)
 | arr e sz es h=>exact .arr e sz es fun x hx=>(h x hx).mono hs
 | map es h=>exact .map es fun x hx=>⟨(h x hx).1.mono hs,(h x hx).2.mono hs⟩
 | it l p=>exact .it l p
 | mit mid since seen st h=>exact .mit mid since seen st (hs _ h)
 | loop nt env ps a b st pd h hc=>exact .loop _ _ _ _ _ _ _ (fun s=>(h s).mono hs) hc
theorem Iz.box_inv{v:V}(h:Iz S (.box v)):AW S v:=by cases h;assumption
theorem Iz.tbox_inv{t:TypeId}{v:V}(h:Iz S (.tbox t v)):AW S v:=by cases h;assumption
theorem Iz.arr_inv{e sz:Nat}{es:List V}(h:Iz S (.arr e sz es)):∀x∈es,AW S x:=by cases h;assumption
theorem Iz.map_inv{es:List (V×V)}(h:Iz S (.map es)):∀x∈es,AW S x.1/\AW S x.2:=by cases h;assumption
theorem Iz.loop_inv{nt:Nat}{env:AD}{ps:List Nat}{a b:IC}{st:LoopState}{pd:Option (Option Nat)}(h:Iz S (.loop nt env ps a b st pd)):(∀s,AW S (get env s))/\((a.cl&&b.cl)&&(a.nr&&b.nr))=true:=by cases h;grind
def Cc(S:Id->Prop)(σ:Ak):Prop:=∀id e,lk σ id=some e->S id/\Iz S e
theorem Cc.nil:Cc S []:=fun id e h=>by cases h
theorem Cc.mono{σ:Ak}(h:Cc S σ)(hs:∀id,S id->T id):Cc T σ:=fun id e hl=>⟨hs _ (h id e hl).1,(h id e hl).2.mono hs⟩
theorem Cc.cons{σ:Ak}{id:Id}{e:AC}(h:Cc S σ)(hi:S id)(he:Iz S e):Cc S ((id,e)::σ):=by
 intro k x hl
 simp only[lk] at hl
 split at hl
 ·grind
 ·exact h k x hl
theorem Cc.upd{σ:Ak}{id:Id}{x e:AC}(h:Cc S σ)(hl:lk σ id=some x)(he:Iz S e):Cc S (upd σ id e):=by
 intro k y hk
 rw[Eh hl] at hk
 split at hk
 ·rename_i h1;subst h1;cases hk;exact⟨(h _ _ hl).1,he⟩
 ·exact h k y hk
theorem Cc.del{σ:Ak}(id:Id)(h:Cc S σ):Cc S (del σ id):=by
 intro k y hk
 rw[C7] at hk
 split at hk
 ·cases hk
 ·exact h k y hk
theorem Cc.over{σi σo σ:Ak}(h:Cc S σ)(ho:Cc S σo):Cc S (over σi σo σ):=by
 intro k y hk
 rw[FW] at hk
 split at hk
 ·rename_i e he;cases hk;exact ho k _ he
 ·split at hk
  ·exact h k y hk
  ·cases hk
theorem qB{σ:Ak}{v:V}{es:List V}(h:Az σ v=some es)(hv:AW S v)(hs:Cc S σ):∀e∈es,AW S e:=by
 unfold Az at h
 split at h
 ·cases h;exact hv.sl_inv
 ·grind
 ·split at h
  ·rename_i hl;cases h;exact(hs _ _ hl).2.arr_inv
  ·cases h
 ·cases h
def AE.isC:AE->Bool
 | .call ..|.calls ..|.calln ..|.callr ..|.callv ..|.callvs ..|.callw ..=>true
 | _=>false
theorem Eg{g:Nat->V}{xs:List X}(h:∀x∈xs,AW S (ev g x)):∀v∈xs.map (ev g),AW S v:=by
 grind
theorem Qs{kk:Cy}{k:V}:∀{es:List (V×V)} {n:Nat} {r:Nat×V},Bl kk k es n=some (some r)->(∀x∈es,AW S x.1/\AW S x.2)->AW S r.2
 | [],n,r,h,_=>by unfold Bl at h;split at h<;>cases h
 | e::es,n,r,h,hx=>by
  unfold Bl at h
  split at h
  ·grind
  ·exact Qs h fun x hx'=>hx x (by simp[hx'])
  ·cases h
theorem AdI{P:Program}{W0:World}{ep:Nat}{d:Option Nat}{op:AE}{g:Nat->V}{σ σ':Ak}{v:V}(hc:op.isC=false)(hd:∀dd,d=some dd->S (ep,dd))(hx:∀x∈op.xs,AW S (ev g x))(hz:∀z∈op.zs,AW S z)(hs:Cc S σ)
  (h:E P W0 ep d op g σ v σ'):AW S v/\Cc S σ':=by
 cases op with
 | mv x=>simp only[E] at h;obtain⟨rfl,rfl⟩:=h;exact⟨hx x (by simp[AE.xs]),hs⟩
 | pick c a b=>
  simp only[E] at h
  obtain⟨t,_,rfl,rfl⟩:=h
  refine⟨?_,hs⟩
  cases t
  ·exact hx b (by simp[AE.xs])
  ·exact hx a (by simp[AE.xs])
 | bin op x y=>simp only[E] at h;obtain⟨h,rfl⟩:=h;exact⟨zO h,hs⟩
 | eqb ne x y=>simp only[E] at h;obtain⟨a,b,_,_,rfl,rfl⟩:=h;exact⟨.b _,hs⟩
 | not x=>simp only[E] at h;obtain⟨a,_,rfl,rfl⟩:=h;exact⟨.b _,hs⟩
 | neg x=>simp only[E] at h;obtain⟨k,n,_,rfl,rfl⟩:=h;exact⟨.i _ _,hs⟩
 | cvi k x=>simp only[E] at h;obtain⟨k,n,_,rfl,rfl⟩:=h;exact⟨.i _ _,hs⟩
 | cvs x=>simp only[E] at h;obtain⟨l,_,rfl,rfl⟩:=h;exact⟨.s _,hs⟩
 | fld x off n ag=>simp only[E] at h;obtain⟨_,h,rfl⟩:=h;exact⟨HT h (hx x (by simp[AE.xs])),hs⟩
 | faddr x off=>
  simp only[E] at h
  obtain⟨h,rfl⟩:=h
  have hv:=hx x (by simp[AE.xs])
  refine⟨?_,hs⟩
  split at h
  ·rename_i e;rw[e] at hv;subst h;exact .ref _ _ hv.ref_inv
  ·rename_i e;rw[e] at hv;subst h;exact .aref _ _ _ _ hv.aref_inv
  ·rename_i e;rw[e] at hv;subst h;exact .ep _ _ hv.ep_inv
  ·exact h.elim
 | iaddr x i e sz=>
  simp only[E] at h
  obtain⟨h,rfl⟩:=h
  have hv:=hx x (by simp[AE.xs])
  refine⟨?_,hs⟩
  split at h
  ·obtain⟨_,h⟩:=h
   split at h
   ·rename_i e;rw[e] at hv
    obtain⟨el,h1,_,rfl⟩:=h
    exact .ep _ _ (CA hv.sl_inv h1)
   ·rename_i e;rw[e] at hv
    obtain⟨_,_,_,_,rfl⟩:=h
    exact .aref _ _ _ _ hv.arr_inv
   ·exact h.elim
  ·exact h.elim
 | idx x i=>simp only[E] at h;obtain⟨_,_,_,_,_,_,_,_,rfl,rfl⟩:=h;exact⟨.i _ _,hs⟩
 | load x n ag=>
  simp only[E] at h
  obtain⟨h,rfl⟩:=h
  have hv:=hx x (by simp[AE.xs])
  refine⟨?_,hs⟩
  split at h
  ·obtain⟨en,h1,h2⟩:=h
   have hen:=(hs _ _ h1).2
   obtain⟨u,he,h2⟩:=QL h2
   rcases he with rfl|⟨t,rfl⟩
   ·exact HT h2 hen.box_inv
   ·exact HT h2 hen.tbox_inv
  ·obtain⟨_,es,el,h1,h2,h3⟩:=h;exact HT h3 (CA (hs _ _ h1).2.arr_inv h2)
  ·rename_i e;rw[e] at hv;exact HT h hv.ep_inv
  ·exact h.elim
 | store a x n=>
  simp only[E] at h
  obtain⟨_,rfl,h⟩:=h
  have hv:=hx x (by simp[AE.xs])
  refine⟨.tup _ (by simp),?_⟩
  split at h
  ·obtain⟨en,en',h1,h2,rfl⟩:=h
   have hen:=(hs _ _ h1).2
   obtain⟨u,u',h3,he⟩:=Rf h2
   rcases he with⟨rfl,rfl⟩|⟨t,rfl,rfl⟩
   ·exact hs.upd h1 (.box _ (KO h3 hen.box_inv hv))
   ·exact hs.upd h1 (.tbox _ _ (KO h3 hen.tbox_inv hv))
  ·obtain⟨_,es,el,el',h1,h2,h3,rfl⟩:=h
   have hes:=(hs _ _ h1).2.arr_inv
   refine hs.upd h1 (.arr _ _ _ fun y hy=>?_)
   rcases List.mem_or_eq_of_mem_set hy with hy|rfl
   ·exact hes y hy
   ·exact KO h3 (CA hes h2) hv
  ·exact h.elim
 | box x=>simp only[E] at h;obtain⟨dd,hdd,_,rfl,rfl⟩:=h;exact⟨.ref _ _ (hd dd hdd),hs.cons (hd dd hdd) (.box _ (hx x (by simp[AE.xs])))⟩
 | alloc z=>simp only[E] at h;obtain⟨dd,hdd,rfl,rfl⟩:=h;exact⟨.ref _ _ (hd dd hdd),hs.cons (hd dd hdd) (.box _ (hz z (by simp[AE.zs])))⟩
 | build z ps=>
  simp only[E] at h
  obtain⟨_,⟨cs,h,rfl⟩,rfl⟩:=h
  refine⟨.agg _ (Rv h (fun c hc=>hz c hc) fun p hp=>?_),hs⟩
  obtain⟨q,hq,rfl⟩:=Apq.1 hp
  exact hx q.2.2 (Apq.2 ⟨q,hq,rfl⟩)
 | msl own e sz xs=>
  simp only[E] at h
  obtain⟨_,h⟩:=h
  split at h
  ·obtain⟨dd,hdd,rfl,rfl⟩:=h
   exact⟨.arr _ (hd dd hdd),hs.cons (hd dd hdd) (.arr _ _ _ (Eg hx))⟩
  ·obtain⟨rfl,rfl⟩:=h
   exact⟨.sl _ (Eg hx),hs⟩
 | slS x lo hi=>simp only[E] at h;obtain⟨_,_,_,_,_,_,_,_,rfl,rfl⟩:=h;exact⟨.s _,hs⟩
 | slL x lo hi sz=>
  simp only[E] at h
  obtain⟨es,a,b,h1,_,_,_,_,_,rfl,rfl⟩:=h
  have hv:=hx x (by simp[AE.xs])
  refine⟨.sl _ fun e he=>?_,hs⟩
  rcases h1 with h1|⟨_,rfl⟩
  ·rw[h1] at hv;exact hv.sl_inv e (Ar0 (Att he))
  ·simp at he
 | lenS x=>simp only[E] at h;obtain⟨_,_,rfl,rfl⟩:=h;exact⟨.i _ _,hs⟩
 | lenL x=>simp only[E] at h;obtain⟨_,_,rfl,rfl⟩:=h;exact⟨.i _ _,hs⟩
 | app s x e sz=>
  simp only[E] at h
  obtain⟨dd,xs,hdd,h1,_,rfl,h⟩:=h
  have hxs:=qB h1 (hx x (by simp[AE.xs])) hs
  refine⟨.arr _ (hd dd hdd),?_⟩
  split at h
  ·obtain⟨_,rfl⟩:=h;exact hs.cons (hd dd hdd) (.arr _ _ _ hxs)
  ·obtain⟨es,h2,_,rfl⟩:=h
   refine(hs.del _).cons (hd dd hdd) (.arr _ _ _ fun y hy=>?_)
   rcases Aio.1 hy with hy|hy
   ·exact(hs _ _ h2).2.arr_inv y hy
   ·exact hxs y hy
  ·exact h.elim
 | apps s x e=>
  simp only[E] at h
  obtain⟨dd,l,hdd,h1,rfl,h⟩:=h
  have hxs:∀y∈Ax l,AW S y:=by
   intro y hy
   obtain⟨c,_,rfl⟩:=Apq.1 hy
   exact .i _ _
  refine⟨.arr _ (hd dd hdd),?_⟩
  split at h
  ·obtain⟨_,rfl⟩:=h;exact hs.cons (hd dd hdd) (.arr _ _ _ hxs)
  ·obtain⟨es,h2,_,rfl⟩:=h
   refine(hs.del _).cons (hd dd hdd) (.arr _ _ _ fun y hy=>?_)
   rcases Aio.1 hy with hy|hy
   ·exact(hs _ _ h2).2.arr_inv y hy
   ·exact hxs y hy
  ·exact h.elim
 | slT x hi sz=>
  simp only[E] at h
  obtain⟨dd,id,e,es,q,hdd,_,h2,_,_,rfl,rfl⟩:=h
  exact⟨.arr _ (hd dd hdd),(hs.del _).cons (hd dd hdd) (.arr _ _ _ fun y hy=>(hs _ _ h2).2.arr_inv y (Ar0 hy))⟩
 | ext x k=>
  simp only[E] at h
  obtain⟨vs,h1,h2,rfl⟩:=h
  have hv:=hx x (by simp[AE.xs])
  rw[h1] at hv
  exact⟨CA hv.tup_inv h2,hs⟩
 | mkfn f first caps=>
  simp only[E] at h
  obtain⟨rfl,rfl⟩:=h
  exact⟨.fn _ _ _ (Eg fun x hx'=>hx x (by simp[AE.xs,hx'])) (Eg fun x hx'=>hx x (by simp[AE.xs,hx'])),hs⟩
 | mksl l c z e sz=>
  simp only[E] at h
  obtain⟨dd,_,_,n,m,hdd,_,_,_,_,rfl,rfl⟩:=h
  refine⟨.arr _ (hd dd hdd),hs.cons (hd dd hdd) (.arr _ _ _ fun y hy=>?_)⟩
  rw[(List.mem_replicate.1 hy).2]
  exact hz z (by simp[AE.zs])
 | mx lo x xs=>simp only[E] at h;obtain⟨h,rfl⟩:=h;exact⟨Ad2 _ h (hx x (by simp[AE.xs])),hs⟩
 | nilck x=>simp only[E] at h;obtain⟨_,rfl,rfl⟩:=h;exact⟨hx x (by simp[AE.xs]),hs⟩
 | pu k xs=>simp only[E] at h;obtain⟨h,rfl⟩:=h;exact⟨AdE h (Eg hx),hs⟩
 | rdm k m xs=>
  simp only[E] at h
  obtain⟨⟨id,e,_,h1,h2⟩,rfl⟩:=h
  refine⟨?_,hs⟩
  have he:=(hs _ _ h1).2
  unfold wX at h2
  split at h2
  ·rename_i kk z ok es k hk
   obtain⟨r,h3,rfl⟩:=Adc.1 h2
   have hz':=hz z (by simp[AE.zs])
   split
   ·have hv:=Qs h3 he.map_inv
    split
    ·refine .tup _ fun y hy=>?_
     simp only[Ao9,Asm,or_false] at hy
     rcases hy with rfl|rfl
     ·exact hv
     ·exact .b _
    ·exact hv
   ·split
    ·refine .tup _ fun y hy=>?_
     simp only[Ao9,Asm,or_false] at hy
     rcases hy with rfl|rfl
     ·exact hz'
     ·exact .b _
    ·exact hz'
  ·cases h2;exact .i _ _
  ·cases h2
 | wrm k m xs=>
  simp only[E] at h
  obtain⟨id,e,e',_,h1,h2,rfl⟩:=h
  have he:=(hs _ _ h1).2
  have hxs:=Eg (S:=S) (g:=g) (xs:=xs) fun x hx'=>hx x (by simp[AE.xs,hx'])
  generalize xs.map (ev g)=ws at *
  unfold ZH at h2
  split at h2
  ·rename_i kk es k v0
   obtain⟨r,h3,h4⟩:=Adc.1 h2
   have hk:=hxs k (by simp)
   have hv:=hxs v0 (by simp)
   split at h4
   ·cases h4
    refine⟨.tup _ (by simp),hs.upd h1 (.map _ fun y hy=>?_)⟩
    obtain⟨j,hj⟩:=ApX.1 hy
    rw[Atu] at hj
    obtain⟨y0,hy0,rfl⟩:=Adc.1 hj
    have:=he.map_inv y0 (Ai1 hy0)
    split
    ·exact⟨this.1,hv⟩
    ·exact this
   ·cases h4
    refine⟨.tup _ (by simp),hs.upd h1 (.map _ fun y hy=>?_)⟩
    rcases Aio.1 hy with hy|hy
    ·exact he.map_inv y hy
    ·simp only[AsB] at hy;subst hy;exact⟨hk,hv⟩
  ·split at h2
   ·cases h2
    refine⟨.tup _ fun y hy=>?_,hs.upd h1 (.it _ _)⟩
    simp only[Ao9,Asm,or_false] at hy
    rcases hy with rfl|rfl|rfl
    ·exact .b _
    ·exact .i _ _
    ·exact .i _ _
   ·cases h2
    refine⟨.tup _ fun y hy=>?_,hs.upd h1 (.it _ _)⟩
    simp only[Ao9,Asm,or_false] at hy
    subst hy;exact .b _
  ·cases h2
 | mkm k xs=>
  simp only[E] at h
  obtain⟨dd,e,hdd,h1,rfl,rfl⟩:=h
  refine⟨?_,hs.cons (hd dd hdd) ?_⟩
  ·unfold tA
   split<;>first|exact .ref _ _ (hd dd hdd)|exact .arr _ (hd dd hdd)
  unfold Vn at h1
  split at h1
  ·cases h1;exact .map _ (by simp)
  ·cases h1;exact .it _ _
  ·cases h1;exact .tbox _ _ (hz _ (by simp[AE.zs]))
  ·rename_i t x hxs
   split at h1
   ·cases h1
    refine .tbox _ _ (Eg (fun y hy=>hx y (by simpa[AE.xs] using hy)) x ?_)
    rw[hxs];exact Afi ..
   ·cases h1
  ·cases h1
 | frz m n=>
  simp only[E] at h
  obtain⟨id,cs,_,h1,_,_,rfl,rfl⟩:=h
  exact⟨.sl _ (hs _ _ h1).2.box_inv.agg_inv,hs.del _⟩
 | mrange m=>
  simp only[E] at h
  obtain⟨dd,mid,es,hdd,_,h1,rfl,rfl⟩:=h
  exact⟨.arr _ (hd dd hdd),hs.cons (hd dd hdd) (.mit _ _ _ _ (hs _ _ h1).1)⟩
 | mentry m=>
  simp only[E] at h
  obtain⟨id,mid,since,seen,i,es,kv,_,_,_,h1,h2,rfl,rfl⟩:=h
  have:=(hs _ _ h1).2.map_inv kv (Ai1 h2)
  refine⟨.tup _ fun y hy=>?_,hs⟩
  simp only[Ao9,Asm,or_false] at hy
  rcases hy with rfl|rfl
  ·exact this.1
  ·exact this.2
 | call f args=>simp[AE.isC] at hc
 | calls f args=>simp[AE.isC] at hc
 | calln f args=>simp[AE.isC] at hc
 | callr f args=>simp[AE.isC] at hc
 | eqr ne x y=>
  simp only[E] at h
  obtain⟨h1,rfl⟩:=h
  obtain⟨r,_,rfl⟩:=Adc.1 h1
  exact⟨.b _,hs⟩
 | callw f args=>simp[AE.isC] at hc
 | btos x=>
  simp only[E] at h
  obtain⟨es,_,h1,rfl⟩:=h
  obtain⟨l,_,rfl⟩:=Adc.1 h1
  exact⟨.s _,hs⟩
 | callv f args=>simp[AE.isC] at hc
 | callvs f args=>simp[AE.isC] at hc
end
def cut(m:Nat)(μ:Id->Option Value):Id->Option Value:=fun id=>if id.1<m then μ id else none
def Lt(m:Nat):Id->Prop:=fun id=>id.1<m
theorem Fx{m:Nat}{μ:Id->Option Value}{id:Id}(h:Lt m id):cut m μ id=μ id:=if_pos h
theorem Ap.agree{S:Id->Prop}{μ μ2:Id->Option Value}{H:Addr->Option Value}{v:V}{val:Value}(h:Ap μ H v val)(hs:∀id,S id->μ2 id=μ id)(hv:AW S v):Ap μ2 H v val:=by
 induction h with
 | b x=>exact .b x
 | i k n=>exact .i k n
 | s l h=>exact .s l h
 | nil=>exact .nil
 | slE a cap=>exact .slE a cap
 | slC es ad cap sz vals hc hl hsz hn h1 hp _ ih=>exact .slC es ad cap sz vals hc hl hsz hn h1 hp (fun k c v hk hv'=>ih k c v hk hv' (CA (V7 hv.sl_inv) hk))
 | agg cs vals hn h1 _ ih=>exact .agg cs vals hn h1 (fun k c v hk hv'=>ih k c v hk hv' (CA hv.agg_inv hk))
 | tup cs vals hn _ ih=>exact .tup cs vals hn (fun k c v hk hv'=>ih k c v hk hv' (CA hv.tup_inv hk))
 | ref id off bk h=>exact .ref id off bk (by rw[hs _ hv.ref_inv];exact h)
 | arr id v h h1=>exact .arr id v (by rw[hs _ hv.arr_inv];exact h) h1
 | aref id ix sz off bk len cap h=>exact .aref id ix sz off bk len cap (by rw[hs _ hv.aref_inv];exact h)
 | ep e off ad vals hn h1 hp _ ih=>exact .ep e off ad vals hn h1 hp (fun k c v hk hv'=>ih k c v hk hv' (CA hv.ep_inv.cells hk))
 | fn f first caps fvals cvals hnf hnc _ _ ihf ihc=>exact .fn f first caps fvals cvals hnf hnc (fun k c v hk hv'=>ihf k c v hk hv' (CA hv.fn_inv.1 hk)) (fun k c v hk hv'=>ihc k c v hk hv' (CA hv.fn_inv.2 hk))
 | np=>exact .np
 | nf=>exact .nf
 | ni=>exact .ni
 | nm=>exact .nm
 | ub t=>exact .ub t
 | iv t x=>exact .iv t x
 | any v=>exact .any v
section agree
variable{S:Id→Prop}{μ μ2:Id→Option Value}{H:Addr→Option Value}
theorem VRels.agree{cs:List V}{vals:List Value}(h:VRels μ H cs vals)(hs:∀id,S id->μ2 id=μ id)(hv:∀c∈cs,AW S c):VRels μ2 H cs vals:=
 ⟨h.len,fun k c v hk hv'=>(h.at_ k c v hk hv').agree hs (CA hv hk)⟩
theorem AG.agree{cs:List V}{vals:List Value}(h:AG μ H cs vals)(hs:∀id,S id->μ2 id=μ id)(hv:∀c∈cs,AW S c):AG μ2 H cs vals:=
 ⟨h.toVRels.agree hs hv,h.one⟩
theorem Cu.agree{B:Nat}{w:World}{id:Id}{e:AC}(h:Cu B μ H w id e)(hs:∀id,S id->μ2 id=μ id)(hi:S id)(he:Iz S e):Cu B μ2 H w id e:=by
 cases he with
 | box v hv=>
  obtain⟨bk,vals,t,h1,h2,h3,h4⟩:=h
  exact⟨bk,vals,t,by grind,h2,h3,h4.agree hs hv.cells⟩
 | tbox t v hv=>
  obtain⟨bk,vals,h1,h2,h3,h4⟩:=h
  exact⟨bk,vals,by grind,h2,h3,h4.agree hs hv.cells⟩
 | arr e sz es hv=>
  obtain⟨v,vals,h1,h2,h3,h4,h5,h6⟩:=h
  exact⟨v,vals,by grind,h2,h3,h4,h5,h6.agree hs (V7 hv)⟩
 | map es hv=>
  obtain⟨r,mes,clock,h1,h2,h3,h4⟩:=h
  exact⟨r,mes,clock,by grind,h2,h3,⟨h4.len,fun k c mm hk hm=>⟨(h4.at_ k c mm hk hm).1.agree hs (hv c (Ai1 hk)).1,(h4.at_ k c mm hk hm).2.agree hs (hv c (Ai1 hk)).2⟩,h4.born,h4.now⟩⟩
 | it l p=>
  obtain⟨r,h1,h2,h3⟩:=h
  exact⟨r,by grind,h2,h3⟩
 | mit mid since seen st hm=>
  obtain⟨r,mm,h1,h2,h3,h4⟩:=h
  exact⟨r,mm,by grind,h2,by grind,h4⟩
 | loop nt env ps a b st pd hv hc=>
  obtain⟨l,r,h1,h2,h3,h4,h5⟩:=h
  exact⟨l,r,by grind,h2,h3,h4,fun s=>(h5 s).agree hs (hv s)⟩
theorem JY{σ:Ak}{bk:Nat}(hσ:Cc S σ)(hs:∀id,S id->μ2 id=μ id)(h:EK μ2 σ bk):EK μ σ bk:=by
 obtain⟨id,e,hl,hb⟩:=h
 exact⟨id,e,hl,by rw[<-hs _ (hσ _ _ hl).1];exact hb⟩
theorem Hp.agree{W0:World}{σ:Ak}{n m:Nat}{w:World}(h:Hp W0 σ n μ H w)(hσ:Cc S σ)(hs:∀id,S id->μ2 id=μ id)(hb:∀id,m<=id.1->μ2 id=none):Hp W0 σ m μ2 H w where
 base:=h.base
 pins:=h.pins
 ents id e hl:=(h.ents id e hl).agree hs (hσ id e hl).1 (hσ id e hl).2
 unp bk ho:=h.unp bk (JY hσ hs ho)
 sep id e id' e' bk h1 h2 b1 b2:=by
  rw[hs _ (hσ _ _ h1).1] at b1
  rw[hs _ (hσ _ _ h2).1] at b2
  exact h.sep id e id' e' bk h1 h2 b1 b2
 bd:=hb
end agree
theorem JB{m:Nat}{μ:Id->Option Value}:∀id,Lt m id->cut m μ id=μ id:=fun _ h=>Fx h
theorem Ap.cut{m:Nat}{μ:Id->Option Value}{H:Addr->Option Value}{v:V}{val:Value}(h:Ap μ H v val)(hv:AW (Lt m) v):Ap (cut m μ) H v val:=h.agree JB hv
theorem VRels.cut{m:Nat}{μ:Id->Option Value}{H:Addr->Option Value}{cs:List V}{vals:List Value}(h:VRels μ H cs vals)(hv:∀c∈cs,AW (Lt m) c):VRels (Go.Ir.cut m μ) H cs vals:=h.agree JB hv
theorem Gp{m:Nat}{μ:Id->Option Value}{σ:Ak}{bk:Nat}(h:EK (cut m μ) σ bk):EK μ σ bk:=by
 obtain⟨id,e,hl,hb⟩:=h
 refine⟨id,e,hl,?_⟩
 unfold cut at hb
 split at hb
 ·exact hb
 ·simp[BI] at hb
theorem Hp.cut{W0:World}{σ:Ak}{n m:Nat}{μ:Id->Option Value}{H:Addr->Option Value}{w:World}(h:Hp W0 σ n μ H w)(hs:Cc (Lt m) σ):Hp W0 σ m (Go.Ir.cut m μ) H w:=h.agree hs JB fun id hid=>if_neg (Auc.2 hid)
end Go.Ir
end
section
namespace Go.Ir
open Go.RowKit
variable[F1]
def Hl:FuncId:=4000000000
def E3(P:Program)(f:FuncId)(vals:List Value)(w:World)(R:Ending->World->Prop):Prop:=
 if f=Hl then Aek P vals w R
 else Calls P f vals.toArray w R
theorem E3.mono{P:Program}{f:FuncId}{vals:List Value}{w:World}{R R':Ending->World->Prop}(h:E3 P f vals w R)(hr:∀e w',R e w'->R' e w'):E3 P f vals w R':=by
 unfold E3 at *
 split
 ·rename_i hf
  rw[if_pos hf] at h
  obtain⟨l,rest,fn,tmps,asg,bd,h1,h2,h3⟩:=h
  exact⟨l,rest,fn,tmps,asg,bd,h1,h2,h3.mono hr⟩
 ·rename_i hf
  rw[if_neg hf] at h
  exact AqY h hr
theorem Cg{P:Program}{f:FuncId}{vals:List Value}{w:World}{R:Ending->World->Prop}(hf:f≠Hl):E3 P f vals w R↔Calls P f vals.toArray w R:=by
 unfold E3
 rw[if_neg hf]
structure Fe (P:Program) (W0:World) (f:FuncId) (args:List V) (σ:Ak) (n:Nat) (v:V) (σ':Ak) (n':Nat):Prop where
 callable:f≠Hl->callable P f=true
 le:n<=n'
 vin:AW (Lt n') v
 sin:Cc (Lt n') σ'
 run:∀w μ H vals,Hp W0 σ n μ H w->VRels μ H args vals->E3 P f vals w fun e w'=>
  ∃val μ' H',e=.returned val/\Ap μ' H' v val/\Hp W0 σ' n' μ' H' w'/\Fr μ H σ w μ' H' σ' w'/\∀id,id.1<n->μ id=none->μ' id=none
abbrev AO:=FuncId->List V->Ak->Nat->Option (V×Ak×Nat)
def AU(P:Program)(W0:World)(C:AO):Prop:=∀f args σ n v σ' n',C f args σ n=some (v,σ',n')->(∀a∈args,AW (Lt n) a)->Cc (Lt n) σ->Fe P W0 f args σ n v σ' n'
def s8(f:FuncId)(l:List V):Option (FuncId×List V):=bif Nat.beq f Hl then none else some (f,l)
theorem GX{f g:FuncId}{l args:List V}(h:s8 f l=some (g,args)):f=g/\l=args/\f≠Hl:=by
 unfold s8 at h
 cases hb:Nat.beq f Hl with
 | true=>rw[hb] at h;cases h
 | false=>
  rw[hb] at h
  cases h
  exact⟨rfl,rfl,fun he=>by rw[he] at hb;simp at hb⟩
def GZ(g:Nat->V):AE->Option (FuncId×List V)
 | .call f xs|.calls f xs|.calln f xs|.callr f xs=>s8 f (xs.map (ev g))
 | .callv x xs|.callvs x xs=>match ev g x with
  | .fn f a c=>s8 f (a++xs.map (ev g)++c)
  | _=>none
 | .callw x xs=>match ev g x with
  | .fn f a c=>s8 f (a++xs.map (ev g)++c)
  | .arr id=>some (Hl,.arr id::xs.map (ev g))
  | _=>none
 | _=>none
def M5(env:AD):Option (Nat×Bool)->Option Bool
 | none=>some true
 | some (s,want)=>match get env s with
  | .b t=>some (t==want)
  | .tup []=>some false
  | _=>none
def B0(S:Id->Prop)(env:AD):Prop:=∀s,AW S (get env s)
theorem B0.mono{S T:Id->Prop}{env:AD}(h:B0 S env)(hs:∀id,S id->T id):B0 T env:=fun s=>(h s).mono hs
theorem B0.put{S:Id->Prop}{env:AD}{d:Option Nat}{v:V}(h:B0 S env)(hv:AW S v):B0 S (put env d v):=by
 intro s
 rw[Gt]
 split
 ·exact hv
 ·exact h s
theorem B0.restrict{S:Id->Prop}{env:AD}(h:B0 S env)(live:List Nat):B0 S (restrict live env):=by
 intro s
 rcases Bt live env s with e|e
 ·rw[e];exact h s
 ·rw[e];exact .any
theorem Lt.mono{m n:Nat}(h:m<=n):∀id,Lt m id->Lt n id:=fun id hid=>Alg hid h
theorem Oh{S:Id->Prop}:(∀v:V,Wo v=true->AW S v)/\∀vs:List V,Qq vs=true->∀v∈vs,AW S v:=by
 have key:∀n:Nat,(∀v:V,SizeOf.sizeOf v<n->Wo v=true->AW S v)/\∀vs:List V,SizeOf.sizeOf vs<n->Qq vs=true->∀v∈vs,AW S v:=by
  intro n
  induction n with
  | zero=>grind
  | succ n ih=>
   refine⟨fun v hs h=>?_,fun vs hs h=>?_⟩
   ·cases v with
    | sl es=>simp at hs;simp only[Wo] at h;exact .sl _ (ih.2 es (by omega) h)
    | agg es=>simp at hs;simp only[Wo] at h;exact .agg _ (ih.2 es (by omega) h)
    | tup es=>simp at hs;simp only[Wo] at h;exact .tup _ (ih.2 es (by omega) h)
    | fn f a c=>simp at hs;simp only[Wo,Aav] at h;exact .fn _ _ _ (ih.2 a (by omega) h.1) (ih.2 c (by omega) h.2)
    | b x=>exact .b x
    | i k n=>exact .i k n
    | s l=>exact .s l
    | nil=>exact .nil
    | np=>exact .np
    | nf=>exact .nf
    | ni=>exact .ni
    | nm=>exact .nm
    | ub=>exact .ub
    | iv=>exact .iv
    | any=>exact .any
    | ref=>simp[Wo] at h
    | arr=>simp[Wo] at h
    | aref=>simp[Wo] at h
    | ep=>simp[Wo] at h
   ·cases vs with
    | nil=>intro v hv;cases hv
    | cons x xs=>
     simp at hs
     simp only[Qq,Aav] at h
     grind
 exact⟨fun v=>(key (SizeOf.sizeOf v+1)).1 v (Acq _),fun vs=>(key (SizeOf.sizeOf vs+1)).2 vs (Acq _)⟩
theorem X.cl_in{S:Id->Prop}{x:X}{env:AD}(h:x.cl=true)(he:B0 S env):AW S (ev (get env) x):=by
 cases x with
 | t s=>exact he s
 | c v=>exact Oh.1 v h
theorem I.cl_xs{S:Id->Prop}{i:I}{env:AD}(h:i.cl=true)(he:B0 S env):∀x∈i.op.xs,AW S (ev (get env) x):=by
 intro x hx
 unfold I.cl at h
 simp only[Aav,Aiv] at h
 exact X.cl_in (h.1 x hx) he
theorem I.cl_zs{S:Id->Prop}{i:I}(h:i.cl=true):∀z∈i.op.zs,AW S z:=by
 unfold I.cl at h
 simp only[Aav] at h
 exact Oh.2 _ h.2
theorem MN{S:Id->Prop}{i:I}{env:AD}{f:FuncId}{args:List V}(h:GZ (get env) i.op=some (f,args))(hc:i.cl=true)(he:B0 S env):∀a∈args,AW S a:=by
 have hx:=I.cl_xs (S:=S) hc he
 generalize i.op=op at h hx
 have direct:∀{g:FuncId} {xs:List X},s8 g (xs.map (ev (get env)))=some (f,args)->(∀x∈xs,AW S (ev (get env) x))->∀a∈args,AW S a:=fun h1 h2=>by
  obtain⟨_,h3,_⟩:=GX h1
  grind
 have fnv:∀{x:X} {xs:List X} {f':FuncId} {a' c':List V},ev (get env) x=.fn f' a' c'->(∀y∈x::xs,AW S (ev (get env) y))->s8 f' (a'++xs.map (ev (get env))++c')=some (f,args)->∀a∈args,AW S a:=by
  intro x xs f' a' c' hv hy h
  obtain⟨_,rfl,_⟩:=GX h
  have h0:=hy x (by simp)
  rw[hv] at h0
  intro a ha
  simp only[Ask,Aio] at ha
  rcases ha with ha|ha|ha
  ·exact h0.fn_inv.1 a ha
  ·grind
  ·exact h0.fn_inv.2 a ha
 cases op<;>simp only[GZ] at h<;>try (cases h;done)
 case call=>exact direct h hx
 case calls=>exact direct h hx
 case calln=>exact direct h hx
 case callr=>exact direct h hx
 case callv=>split at h;· rename_i hv;exact fnv hv hx h
             ·cases h
 case callvs=>split at h;· rename_i hv;exact fnv hv hx h
              ·cases h
 case callw x xs=>
  split at h
  ·rename_i hv;exact fnv hv hx h
  ·rename_i id hv
   cases h
   intro a ha
   rcases Ao9.1 ha with rfl|ha
   ·have:=hx x (by simp[AE.xs])
    grind
   ·exact Eg (fun z hz=>hx z (by simp[AE.xs,hz])) a ha
  ·cases h
section
variable{P:Program}{W0:World}{nt ep:Nat}{ops:Array Oper}
theorem wI{ro:Option Nat}{k:Nat}{o:Oper}{i:I}{env:AD}{μ:Id->Option Value}{H:Addr->Option Value}{a:Act}{w:World}(ho:ops[k]?=some o)(hok:P2 P nt ops o i=true)(hr:Rl μ H nt env a)(next:Act->World->Prop)(Q:Exit->Act->World->Prop) :
  (M5 env i.gd=some true->o.wpr P ro a w next Q->Gv P ro ops Q k next a w)/\(M5 env i.gd=some false->next (a.put i.dst undef) w->Gv P ro ops Q k next a w):=by
 unfold P2 at hok
 simp only[Aav,beq_iff_eq] at hok
 obtain⟨⟨⟨⟨h1,h2⟩,h3⟩,h4⟩,h5⟩:=hok
 unfold Gv wpOpIn
 simp only[ho]
 cases hg:o.guard with
 | none=>
  have hw:Region.wanted o (yielded ops a.tmps)=true:=by simp[Region.wanted,hg]
  rw[if_pos hw]
  refine⟨fun _ h=>h,fun h=>?_⟩
  cases hgi:i.gd with
  | some x=>obtain⟨x,y⟩:=x;simp[hg,hgi,tC] at h4
  | none=>rw[hgi] at h;cases h
 | some jw=>
  obtain⟨j,want⟩:=jw
  cases hgi:i.gd with
  | none=>simp[hg,hgi,tC] at h4
  | some sw=>
   obtain⟨s,want'⟩:=sw
   simp only[hg,hgi,tC,Aav,beq_iff_eq] at h4
   obtain⟨rfl,hj⟩:=h4
   have hrs:=hr.at_ s
   have hy:yielded ops a.tmps j=match a.tmps[s]? with|some (.bool b)=>some b|_=>none:=by
    unfold yielded
    rw[hj]
    rfl
   have hwant:∀b,yielded ops a.tmps j=b->Region.wanted o (yielded ops a.tmps)=(b==some want):=by
    intro b hb
    simp[Region.wanted,hg,hb]
   cases hgs:get env s with
   | b t=>
    rw[hgs] at hrs
    have hb:=hrs.b_inv
    have hts:a.tmps[s]?=some (.bool t):=by
     cases h:a.tmps[s]? with
     | none=>simp[AqE,h,undef] at hb
     | some x=>simp_all
    rw[hts] at hy
    have hw:=hwant _ hy
    simp only[M5,hgs]
    refine⟨fun ht h=>?_,fun ht h=>?_⟩
    ·simp only[Aiq,beq_iff_eq] at ht
     subst ht
     rw[if_pos (by rw[hw];simp)]
     exact h
    ·simp only[Aiq,beq_eq_false_iff_ne,ne_eq] at ht
     rw[if_neg (by rw[hw];simpa using ht),h2]
     exact⟨fun f _=>GA _ f,h⟩
   | tup l=>
    cases l with
    | cons x l=>simp only[M5,hgs];grind
    | nil=>
     rw[hgs] at hrs
     obtain⟨vals,hv,hvs⟩:=hrs.tup_inv
     have hn0:yielded ops a.tmps j=none:=by
      rw[hy]
      cases h:a.tmps[s]? with
      | none=>rfl
      | some x=>
       simp_all
     simp only[M5,hgs]
     refine⟨fun ht=>(by cases ht),fun _ h=>?_⟩
     rw[if_neg (by rw[hwant _ hn0];simp),h2]
     exact⟨fun f _=>GA _ f,h⟩
   | _=>simp only[M5,hgs];grind
theorem Ls{μ:Id->Option Value}{H:Addr->Option Value}{env:AD}{a:Act}{c:Call}{args:List X}(hr:Rl μ H nt env a)(hx:A5 c.args.toList args=true):VRels μ H (args.map (ev (get env))) (c.args.map a.eval).toList:=by
 have:=Cz hr hx
 simpa using this
theorem sW{i:AE}{o:Oper}{env:AD}{a:Act}{μ:Id->Option Value}{H:Addr->Option Value}{f:FuncId}{args:List V}(hok:ME P o.op i=true)(hr:Rl μ H nt env a)(h:GZ (get env) i=some (f,args))(hcal:f≠Hl->callable P f=true) :
  ∃vals:List Value,VRels μ H args vals/\(f≠Hl->∀w,(execOp a.eval o).run P w=.ok (.enter f vals.toArray) w)/\
   (f=Hl->(∀c,o.op≠.defer c)/\∀l rest w,vals=.func (.yield l) #[] #[]::rest->(execOp a.eval o).run P w=(Instr.yield l rest.toArray).run P w):=by
 have direct:∀{g:FuncId} {xs:List X},(match o.op with|.call c=>(match c.callee with|.value (.func f')=>f'==g&&A5 c.args.toList xs|_=>false)|_=>false)=true->s8 g (xs.map (ev (get env)))=some (f,args)->
   ∃vals:List Value,VRels μ H args vals/\(f≠Hl->∀w,(execOp a.eval o).run P w=.ok (.enter f vals.toArray) w)/\(f=Hl->(∀c,o.op≠.defer c)/\∀l rest w,vals=.func (.yield l) #[] #[]::rest->(execOp a.eval o).run P w=(Instr.yield l rest.toArray).run P w):=by
  intro g xs hop he
  obtain⟨rfl,rfl,hne⟩:=GX he
  split at hop
  ·rename_i c hoc
   split at hop
   ·rename_i f' hc2
    simp only[Aav,beq_iff_eq] at hop
    obtain⟨rfl,hx⟩:=hop
    refine⟨(c.args.map a.eval).toList,Ls hr hx,fun hf w=>?_,fun hf=>absurd hf hne⟩
    have:=Cm (a:=a) (hcal hf) hoc hc2 (show a.eval (.func f')=.func (.func f') #[] #[] from rfl) w
    rw[AsI]
    simpa using this
   ·cases hop
  ·cases hop
 have val:∀{x:X} {xs:List X} {f':FuncId} {a' c':List V},(match o.op with|.call c=>(match c.callee with|.value h'=>BD h' x&&A5 c.args.toList xs|_=>false)|_=>false)=true->ev (get env) x=.fn f' a' c'->s8 f' (a'++xs.map (ev (get env))++c')=some (f,args)->
   ∃vals:List Value,VRels μ H args vals/\(f≠Hl->∀w,(execOp a.eval o).run P w=.ok (.enter f vals.toArray) w)/\(f=Hl->(∀c,o.op≠.defer c)/\∀l rest w,vals=.func (.yield l) #[] #[]::rest->(execOp a.eval o).run P w=(Instr.yield l rest.toArray).run P w):=by
  intro x xs f' a' c' hop hv he
  obtain⟨rfl,rfl,hne⟩:=GX he
  split at hop
  ·rename_i c hoc
   split at hop
   ·rename_i h' hc2
    simp only[Aav] at hop
    have hh:=Ao hr hop.1
    rw[hv] at hh
    obtain⟨fv,cv,e1,r1,r2⟩:=hh.fn_inv
    refine⟨fv++(c.args.map a.eval).toList++cv,(r1.append (Ls hr hop.2)).append r2,fun hf w=>?_,fun hf=>absurd hf hne⟩
    have:=Cm (hcal hf) hoc hc2 e1 w
    simp_all
   ·cases hop
  ·cases hop
 cases i with
 | call g xs=>exact direct (g:=g) (xs:=xs) hok h
 | calls g xs=>exact direct (g:=g) (xs:=xs) hok h
 | calln g xs=>exact direct (g:=g) (xs:=xs) hok h
 | callr g xs=>exact direct (g:=g) (xs:=xs) hok h
 | callv x xs=>
  simp only[GZ] at h
  split at h
  ·rename_i hv;exact val (x:=x) (xs:=xs) hok hv h
  ·cases h
 | callvs x xs=>
  simp only[GZ] at h
  split at h
  ·rename_i hv;exact val (x:=x) (xs:=xs) hok hv h
  ·cases h
 | callw x xs=>
  simp only[GZ] at h
  split at h
  ·rename_i hv;exact val (x:=x) (xs:=xs) hok hv h
  ·rename_i id hv
   cases h
   have hop:(match o.op with|.call c=>(match c.callee with|.value h'=>BD h' x&&A5 c.args.toList xs|_=>false)|_=>false)=true:=hok
   split at hop
   ·rename_i c hoc
    split at hop
    ·rename_i h' hc2
     simp only[Aav] at hop
     have hh:=Ao hr hop.1
     rw[hv] at hh
     refine⟨a.eval h'::(c.args.map a.eval).toList,VRels.cons hh (Ls hr hop.2),fun hf=>absurd rfl hf,fun _=>⟨fun c' hc'=>(by rw[hoc] at hc';cases hc'),fun l rest w he=>?_⟩⟩
     injection he with e1 e2
     subst e2
     rw[AsI]
     simp[execOp,hoc,resolve,hc2,e1,Deferred.ofValue,Afu,Ai0,AfH,invoke]
    ·cases hop
   ·cases hop
  ·cases h
 | _=>simp[GZ] at h
end
end Go.Ir
end
section
namespace Go.Ir
open Go.RowKit
noncomputable section
variable[F1]
def chk{α:Type}(b:Bool)(o:Option α):Option α:=bif b then o else none
theorem A4{α:Type}{b:Bool}{o:Option α}{x:α}:chk b o=some x↔b=true/\o=some x:=by cases b<;>simp[chk]
def tD:Int->Int->Bool
 | .ofNat a,.ofNat b=>Nat.ble a b
 | .negSucc a,.negSucc b=>Nat.ble b a
 | .ofNat _,.negSucc _=>false
 | .negSucc _,.ofNat _=>true
theorem KM{a b:Int}:tD a b=true↔a<=b:=by
 cases a<;>cases b<;>simp only[tD,AtH,AtZ,Int.negSucc_eq,AcL,false_iff,true_iff]<;>omega
theorem O3{a b:Int}:tD a b=decide (a<=b):=by
 rw[ApH,KM,decide_eq_true_iff]
def s9:Int->Int->Bool
 | .ofNat a,.ofNat b=>Nat.beq a b
 | .negSucc a,.negSucc b=>Nat.beq b a
 | .ofNat _,.negSucc _=>false
 | .negSucc _,.ofNat _=>false
theorem K9{a b:Int}:s9 a b=true↔a=b:=by
 cases a<;>cases b<;>simp only[s9,As9,AtZ,Int.negSucc_eq,AcL,false_iff,true_iff]<;>omega
theorem p8{a b:Int}:s9 a b=(a==b):=by
 rw[ApH,K9,beq_iff_eq]
def Ng(k:IntKind)(n:Int):Int:=
 match k,n with
 | .i64,.ofNat m=>bif Nat.blt m 9223372036854775808 then .ofNat m else k.wrap n
 | _,_=>k.wrap n
theorem I6{k:IntKind}{n:Int}:Ng k n=k.wrap n:=by
 unfold Ng
 split
 ·rename_i m
  cases h:Nat.blt m 9223372036854775808 with
  | false=>rfl
  | true=>
   have:=(Aud ▸ h:m<9223372036854775808)
   simp only[cond_true]
   unfold IntKind.wrap
   simp only[IntKind.signed,IntKind.bits]
   simp
   omega
 ·rfl
def Ah2(op:BinOp)(k:IntKind)(a b:Int):Option V:=
 match op with
 | .add=>some (.i k (Ng k (a+b)))
 | .sub=>some (.i k (Ng k (a-b)))
 | .mul=>some (.i k (Ng k (a*b)))
 | .quo=>bif s9 b 0 then none else some (.i k (k.wrap (a.tdiv b)))
 | .rem=>bif s9 b 0 then none else some (.i k (a.tmod b))
 | .eql=>some (.b (s9 a b))
 | .neq=>some (.b (!s9 a b))
 | .lss=>some (.b (!tD b a))
 | .leq=>some (.b (tD a b))
 | .gtr=>some (.b (!tD a b))
 | .geq=>some (.b (tD b a))
 | _=>none
theorem Td{op:BinOp}{k:IntKind}{a b:Int}{v:V}(h:Ah2 op k a b=some v):PW op k a b v:=by
 unfold Ah2 at h
 unfold PW
 split at h
 ·cases h;simp only[I6]
 ·cases h;simp only[I6]
 ·cases h;simp only[I6]
 ·cases hb:s9 b 0 with
  | true=>rw[hb] at h;cases h
  | false=>
   rw[hb] at h;cases h
   exact⟨fun he=>(by rw[<-K9,hb] at he;cases he),rfl⟩
 ·cases hb:s9 b 0 with
  | true=>rw[hb] at h;cases h
  | false=>
   rw[hb] at h;cases h
   exact⟨fun he=>(by rw[<-K9,hb] at he;cases he),rfl⟩
 ·cases h;simp only[p8]
 ·cases h;simp only[p8];rfl
 ·cases h;exact congrArg V.b (ApH.2 (by rw[AmN,O3,decide_eq_false_iff_not,decide_eq_true_iff];omega))
 ·cases h;simp only[O3]
 ·cases h;exact congrArg V.b (ApH.2 (by rw[AmN,O3,decide_eq_false_iff_not,decide_eq_true_iff];omega))
 ·cases h;exact congrArg V.b (ApH.2 (by rw[O3,decide_eq_true_iff]))
 ·cases h
def Oi:List UInt8->List UInt8->Bool
 | [],[]=>true
 | a::x,b::y=>Nat.beq a.toNat b.toNat&&Oi x y
 | _,_=>false
theorem Gh:∀{x y:List UInt8},Oi x y=(x==y)
 | [],[]=>rfl
 | a::x,b::y=>by
  rw[Oi,Gh,List.cons_beq_cons]
  congr 1
  rw[ApH,As9]
  simp only[beq_iff_eq,Aue]
 | [],b::y=>rfl
 | a::x,[]=>rfl
def Ad6(op:BinOp)(a b:List UInt8):Option V:=
 match op with
 | .add=>chk (Nat.ble (a.length+b.length) A9) (some (.s (a++b)))
 | .eql=>some (.b (Oi a b))
 | .neq=>some (.b (!Oi a b))
 | .lss=>some (.b (Op.bytesLess a b))
 | .leq=>some (.b (Op.bytesLess a b||Oi a b))
 | .gtr=>some (.b (!(Op.bytesLess a b||Oi a b)))
 | .geq=>some (.b (!Op.bytesLess a b))
 | _=>none
theorem SK{op:BinOp}{a b:List UInt8}{v:V}(h:Ad6 op a b=some v):Rj op a b v:=by
 unfold Ad6 at h
 unfold Rj
 split at h
 ·obtain⟨h1,h2⟩:=A4.1 h;simp_all
 ·cases h;simp only[Gh]
 ·cases h;simp only[Gh]
 ·cases h;rfl
 ·cases h;simp only[Gh]
 ·cases h;simp only[Gh]
 ·cases h;rfl
 ·cases h
def AhA(op:BinOp):V->V->Option V
 | .i k a,.i k' b=>chk (decide (k=k')) (Ah2 op k a b)
 | .s a,.s b=>Ad6 op a b
 | _,_=>none
theorem Ss{op:BinOp}{x y v:V}(h:AhA op x y=some v):OE op x y v:=by
 unfold AhA at h
 unfold OE
 split at h
 ·obtain⟨h1,h2⟩:=A4.1 h;exact⟨of_decide_eq_true h1,Td h2⟩
 ·exact SK h
 ·cases h
def PH(a b:Id):Bool:=Bool.rec (motive:=fun _=>Bool) false (Nat.beq a.2 b.2) (Nat.beq a.1 b.1)
theorem Ep{a b:Id}:PH a b=true↔a=b:=by
 unfold PH
 cases h:Nat.beq a.1 b.1 with
 | false=>
  constructor
  ·intro h1;cases h1
  ·intro h1;simp_all
 | true=>
  have h1:=ApD h
  constructor
  ·intro h2;exact Prod.ext h1 (ApD h2)
  simp_all
def Gz(σ:Ak)(id:Id):Option AC:=List.rec (motive:=fun _=>Option AC) none (fun p _ ih=>Bool.rec (motive:=fun _=>Option AC) ih (some p.2) (PH p.1 id)) σ
theorem Bo:∀{σ:Ak} {id:Id},Gz σ id=lk σ id
 | [],id=>rfl
 | (k,e)::r,id=>by
  have h1:Gz ((k,e)::r) id=Bool.rec (motive:=fun _=>Option AC) (Gz r id) (some e) (PH k id):=rfl
  rw[h1,lk,Bo]
  by_cases h:k=id
  ·rw[if_pos h,Ep.2 h]
  ·rw[if_neg h]
   cases hb:PH k id with
   | false=>rfl
   | true=>exact absurd (Ep.1 hb) h
def Xs(σ:Ak)(id:Id)(e:AC):Ak:=List.rec (motive:=fun _=>Ak) [] (fun p r ih=>Bool.rec (motive:=fun _=>Ak) (p::ih) ((p.1,e)::r) (PH p.1 id)) σ
theorem KB:∀{σ:Ak} {id:Id} {e:AC},Xs σ id e=upd σ id e
 | [],id,e=>rfl
 | (k,x)::r,id,e=>by
  have h1:Xs ((k,x)::r) id e=Bool.rec (motive:=fun _=>Ak) ((k,x)::Xs r id e) ((k,e)::r) (PH k id):=rfl
  rw[h1,upd,KB]
  by_cases h:k=id
  ·rw[if_pos h,Ep.2 h]
  ·rw[if_neg h]
   cases hb:PH k id with
   | false=>rfl
   | true=>exact absurd (Ep.1 hb) h
def X3(σ:Ak)(id:Id):Ak:=List.rec (motive:=fun _=>Ak) [] (fun p _ ih=>Bool.rec (motive:=fun _=>Ak) (p::ih) ih (PH p.1 id)) σ
theorem Pg:∀{σ:Ak} {id:Id},X3 σ id=del σ id
 | [],id=>rfl
 | (k,x)::r,id=>by
  have h1:X3 ((k,x)::r) id=Bool.rec (motive:=fun _=>Ak) ((k,x)::X3 r id) (X3 r id) (PH k id):=rfl
  rw[h1,del,Pg]
  by_cases h:k=id
  ·rw[if_pos h,Ep.2 h]
  ·rw[if_neg h]
   cases hb:PH k id with
   | false=>rfl
   | true=>exact absurd (Ep.1 hb) h
def Ama:V->Bool
 | .ref _ _|.aref _ _ _ _|.ep _ _|.fn _ _ _=>true
 | _=>false
def AaY(ep:Nat)(d:Option Nat)(z:V)(e sz:Nat)(σ:Ak):V->V->Option (V×Ak)
 | .i _ (.ofNat n),.i _ (.ofNat m)=>match d with
  | some dd=>chk (Nat.ble n m&&Nat.ble m AM) (some (.arr (ep,dd),((ep,dd),.arr e sz (List.replicate n z))::σ))
  | none=>none
 | _,_=>none
def MB(ep:Nat)(d:Option Nat)(v:Id->V)(e:AC)(σ:Ak):Option (V×Ak):=
 match d with
 | some dd=>some (v (ep,dd),((ep,dd),e)::σ)
 | none=>none
def nB(σ:Ak)(sz:Nat):V->V->Option V
 | .i _ n,.sl es=>chk (tD 0 n) ((es[n.toNat]?).bind fun el=>chk (Nat.beq (cells el).length sz) (some (.ep el 0)))
 | .i _ n,.arr id=>chk (tD 0 n) (match Gz σ id with
  | some (.arr _ sz' es)=>chk (Nat.beq sz' sz&&Nat.blt n.toNat es.length) (some (.aref id n.toNat sz 0))
  | _=>none)
 | _,_=>none
def Ab8(σ:Ak)(n:Nat)(ag:Bool):V->Option V
 | .ref id off=>match Gz σ id with
  | some e=>ldB e off n ag
  | none=>none
 | .aref id ix sz off=>match Gz σ id with
  | some (.arr _ sz' es)=>chk (Nat.beq sz' sz) ((es[ix]?).bind fun el=>sub el off n ag)
  | _=>none
 | .ep u off=>sub u off n ag
 | _=>none
def mF(σ:Ak)(n:Nat)(x:V):V->Option Ak
 | .ref id off=>match Gz σ id with
  | some e=>(Vv e off n x).map fun e'=>upd σ id e'
  | none=>none
 | .aref id ix sz off=>match Gz σ id with
  | some (.arr e sz' es)=>chk (Nat.beq sz' sz) ((es[ix]?).bind fun el=>(De el off n x).map fun el'=>upd σ id (.arr e sz (es.set ix el')))
  | _=>none
 | _=>none
def Aas(ep:Nat)(d:Option Nat)(e sz:Nat)(xs:List V)(σ:Ak):V->Option (V×Ak)
 | .nil=>chk (Nat.ble xs.length AM) (MB ep d .arr (.arr e sz xs) σ)
 | .arr id=>match Gz σ id with
  | some (.arr e' sz' es)=>chk (Nat.beq e' e&&Nat.beq sz' sz&&Nat.ble (es.length+xs.length) AM) (MB ep d .arr (.arr e sz (es++xs)) (del σ id))
  | _=>none
 | _=>none
def AhH(g:Nat->V)(lo hi:Option X)(sz:Nat)(es:List V):Option V:=
 (Fs g 0 lo).bind fun a=>(Fs g es.length hi).bind fun b=>chk (Nat.ble a b&&Nat.ble b es.length&&es.all fun y=>Nat.beq (cells y).length sz) (some (.sl ((es.take b).drop a)))
def Lx(σ:Ak):V->Option (List V)
 | .sl xs=>some xs
 | .nil=>some []
 | .arr id=>match Gz σ id with
  | some (.arr _ _ es)=>some es
  | _=>none
 | _=>none
theorem JD{σ:Ak}{v:V}:Lx σ v=Az σ v:=by
 cases v with
 | arr id=>
  simp only[Lx,Az,Bo]
  grind
 | _=>rfl
def AnI(σ:Ak):V->V->Option Bool
 | .np,y=>J9 .p y
 | x,.np=>J9 .p x
 | .ref id o,.ref id' o'=>bif PH id id' then some (o==o') else(Gz σ id).bind fun e=>(Gz σ id').bind fun e'=>if Oa e&&Oa e' then some false else none
 | _,_=>none
theorem uW{σ:Ak}{x y:V}:AnI σ x y=QA σ x y:=by
 cases x<;>cases y<;>first|rfl|skip
 rename_i id o id' o'
 show(bif PH id id' then some (o==o') else(Gz σ id).bind fun e=>(Gz σ id').bind fun e'=>if(Oa e&&Oa e')=true then some false else none)=(if id=id' then some (o==o') else(lk σ id).bind fun e=>(lk σ id').bind fun e'=>if(Oa e&&Oa e')=true then some false else none)
 simp only[Bo]
 by_cases h:id=id'
 ·rw[if_pos h,Ep.2 h];rfl
 ·have:PH id id'=false:=by
   cases hb:PH id id' with
   | false=>rfl
   | true=>exact absurd (Ep.1 hb) h
  grind
def AiK(σ:Ak)(n:Nat):V->Option (V×Ak)
 | .ref id 0=>match Gz σ id with
  | some (.box (.agg cs))=>chk (Nat.beq cs.length n&&cs.all fun c=>!P0 c) (some (.sl cs,del σ id))
  | _=>none
 | _=>none
def fE(ep:Nat)(d:Option Nat)(op:AE)(g:Nat->V)(σ:Ak):Option (V×Ak):=
 match op with
 | .mv x=>some (ev g x,σ)
 | .pick c a b=>match ev g c with
  | .b t=>some (bif t then ev g a else ev g b,σ)
  | _=>none
 | .bin op x y=>(AhA op (ev g x) (ev g y)).map fun v=>(v,σ)
 | .eqb ne x y=>match ev g x,ev g y with
  | .b a,.b b=>some (.b (bif ne then !(a==b) else a==b),σ)
  | _,_=>none
 | .not x=>match ev g x with
  | .b a=>some (.b (!a),σ)
  | _=>none
 | .neg x=>match ev g x with
  | .i k n=>some (.i k (k.wrap (0-n)),σ)
  | _=>none
 | .cvi k x=>match ev g x with
  | .i _ n=>some (.i k (Ng k n),σ)
  | _=>none
 | .cvs x=>match ev g x with
  | .s l=>some (.s l,σ)
  | _=>none
 | .fld x off n ag=>chk (P0 (ev g x)) ((sub (ev g x) off n ag).map fun v=>(v,σ))
 | .faddr x off=>match ev g x with
  | .ref id o=>some (.ref id (o+off),σ)
  | .aref id ix sz o=>some (.aref id ix sz (o+off),σ)
  | .ep e o=>some (.ep e (o+off),σ)
  | _=>none
 | .iaddr x i _ sz=>(nB σ sz (ev g i) (ev g x)).map fun v=>(v,σ)
 | .idx x i=>match ev g x,ev g i with
  | .s l,.i _ n=>chk (tD 0 n) ((l[n.toNat]?).map fun c=>(.i .u8 c.toNat,σ))
  | _,_=>none
 | .load x n ag=>(Ab8 σ n ag (ev g x)).map fun v=>(v,σ)
 | .store a x n=>chk (ev g x).ok ((mF σ n (ev g x) (ev g a)).map fun τ=>(.tup [],τ))
 | .box x=>chk (ev g x).ok (MB ep d (fun id=>.ref id 0) (.box (ev g x)) σ)
 | .alloc z=>MB ep d (fun id=>.ref id 0) (.box z) σ
 | .build z ps=>chk (ps.all fun p=>(ev g p.2.2).ok) ((El z (ps.map fun p=>(p.1,p.2.1,ev g p.2.2))).map fun cs=>(.agg cs,σ))
 | .msl own e sz xs=>chk ((xs.map (ev g)).all fun x=>x.ok&&Nat.beq (cells x).length sz) (bif own then MB ep d .arr (.arr e sz (xs.map (ev g))) σ else some (.sl (xs.map (ev g)),σ))
 | .slS x lo hi=>match ev g x with
  | .s l=>(Fs g 0 lo).bind fun a=>(Fs g l.length hi).bind fun b=>chk (Nat.ble a b&&Nat.ble b l.length) (some (.s ((l.take b).drop a),σ))
  | _=>none
 | .slL x lo hi sz=>match ev g x with
  | .sl es=>(AhH g lo hi sz es).map fun v=>(v,σ)
  | .nil=>(AhH g lo hi sz []).map fun v=>(v,σ)
  | _=>none
 | .lenS x=>match ev g x with
  | .s l=>some (.i .i64 l.length,σ)
  | _=>none
 | .lenL x=>(Lx σ (ev g x)).map fun es=>(.i .i64 es.length,σ)
 | .app s x e sz=>(Lx σ (ev g x)).bind fun xs=>chk (xs.all fun y=>Nat.beq (cells y).length sz) (Aas ep d e sz xs σ (ev g s))
 | .apps s x e=>match ev g x with
  | .s l=>Aas ep d e 1 (Ax l) σ (ev g s)
  | _=>none
 | .slT x hi sz=>match ev g x with
  | .arr id=>match Gz σ id with
   | some (.arr e sz' es)=>(Fs g es.length (some hi)).bind fun q=>chk (Nat.beq sz' sz&&Nat.ble q es.length) (MB ep d .arr (.arr e sz (es.take q)) (del σ id))
   | _=>none
  | _=>none
 | .ext x k=>match ev g x with
  | .tup vs=>(vs[k]?).map fun v=>(v,σ)
  | _=>none
 | .mkfn f a c=>some (.fn f (a.map (ev g)) (c.map (ev g)),σ)
 | .mksl l c z e sz=>AaY ep d z e sz σ (ev g l) (ev g c)
 | .mx lo x xs=>(OO lo (ev g x) (xs.map (ev g))).map fun v=>(v,σ)
 | .nilck x=>chk (Ama (ev g x)) (some (ev g x,σ))
 | .pu k xs=>(F9 k (xs.map (ev g))).map fun v=>(v,σ)
 | .rdm k m xs=>match ev g m with
  | .arr id=>(Gz σ id).bind fun e=>(wX k e (xs.map (ev g))).map fun v=>(v,σ)
  | _=>none
 | .wrm k m xs=>match ev g m with
  | .arr id=>(Gz σ id).bind fun e=>(ZH k e (xs.map (ev g))).map fun r=>(r.2,upd σ id r.1)
  | _=>none
 | .mkm k xs=>(Vn k (xs.map (ev g))).bind fun e=>MB ep d (tA k) e σ
 | .frz m n=>AiK σ n (ev g m)
 | .mrange m=>match ev g m with
  | .arr mid=>match Gz σ mid with
   | some (.map es)=>MB ep d .arr (.mit mid es.length [] es.length) σ
   | _=>none
  | _=>none
 | .mentry m=>match ev g m with
  | .arr id=>match Gz σ id with
   | some (.mit mid _ seen st)=>match Gz σ mid with
    | some (.map es)=>chk (Nat.beq st es.length) (seen.getLast?.bind fun i=>(es[i]?).map fun kv=>(.tup [kv.1,kv.2],σ))
    | _=>none
   | _=>none
  | _=>none
 | .eqr ne x y=>(AnI σ (ev g x) (ev g y)).map fun r=>(eqN ne r,σ)
 | .btos x=>(Lx σ (ev g x)).bind fun es=>(Ey es).map fun l=>(.s l,σ)
 | _=>none
theorem Cs{ep:Nat}{d:Option Nat}{f:Id->V}{e:AC}{σ σ':Ak}{v:V}(h:MB ep d f e σ=some (v,σ')):∃dd,d=some dd/\v=f (ep,dd)/\σ'=((ep,dd),e)::σ:=by
 cases d with
 | none=>cases h
 | some dd=>cases h;grind
theorem BO{α β:Type}{o:Option α}{f:α->V}{σ σ':Ak}{v:V}(h:(o.map fun a=>(f a,σ))=some (v,σ')):∃a,o=some a/\v=f a/\σ'=σ:=by
 obtain⟨a,h1,h2⟩:=Adc.1 h
 grind
theorem LH{P:Program}{W0:World}{ep:Nat}{d:Option Nat}{op:AE}{g:Nat->V}{σ σ':Ak}{v:V}(h:fE ep d op g σ=some (v,σ')):E P W0 ep d op g σ v σ':=by
 cases op with
 | mv x=>cases h;exact⟨rfl,rfl⟩
 | pick c a b=>
  simp only[fE] at h
  split at h
  ·rename_i t e;cases h;exact⟨t,e,rfl,rfl⟩
  ·cases h
 | bin op x y=>obtain⟨a,h1,rfl,rfl⟩:=BO (β:=V) h;exact⟨Ss h1,rfl⟩
 | eqb ne x y=>
  simp only[fE] at h
  split at h
  ·rename_i a b e1 e2;cases h;exact⟨a,b,e1,e2,by cases ne<;>rfl,rfl⟩
  ·cases h
 | not x=>
  simp only[fE] at h
  split at h
  ·rename_i a e;cases h;exact⟨a,e,rfl,rfl⟩
  ·cases h
 | neg x=>
  simp only[fE] at h
  split at h
  ·rename_i k n e;cases h;exact⟨k,n,e,rfl,rfl⟩
  ·cases h
 | cvi k x=>
  simp only[fE] at h
  split at h
  ·rename_i k' n e;cases h;exact⟨k',n,e,by rw[I6],rfl⟩
  ·cases h
 | cvs x=>
  simp only[fE] at h
  split at h
  ·rename_i l e;cases h;exact⟨l,e,rfl,rfl⟩
  ·cases h
 | fld x off n ag=>
  obtain⟨h1,h2⟩:=A4.1 h
  obtain⟨a,h3,rfl,rfl⟩:=BO (β:=V) h2
  exact⟨h1,h3,rfl⟩
 | faddr x off=>
  simp only[fE] at h
  split at h
  ·rename_i e;cases h;simp[E,e]
  ·rename_i e;cases h;simp[E,e]
  ·rename_i e;cases h;simp[E,e]
  ·cases h
 | iaddr x i e sz=>
  obtain⟨a,h3,rfl,rfl⟩:=BO (β:=V) h
  unfold nB at h3
  split at h3
  ·rename_i ei ex
   obtain⟨h1,h2⟩:=A4.1 h3
   obtain⟨el,h4,h5⟩:=AcD.1 h2
   obtain⟨h6,h7⟩:=A4.1 h5
   cases h7
   simp only[E,ei,ex]
   exact⟨⟨KM.1 h1,el,h4,ApD h6,by trivial⟩,by trivial⟩
  ·rename_i ei ex
   obtain⟨h1,h2⟩:=A4.1 h3
   split at h2
   ·rename_i e' sz' es hl
    obtain⟨h6,h7⟩:=A4.1 h2
    cases h7
    rw[Bo] at hl
    simp only[Aav,As9,Aud] at h6
    obtain⟨rfl,h6⟩:=h6
    simp only[E,ei,ex]
    exact⟨⟨KM.1 h1,e',es,hl,h6,by trivial⟩,by trivial⟩
   ·cases h2
  ·cases h3
 | idx x i=>
  simp only[fE] at h
  split at h
  ·rename_i l k n e1 e2
   obtain⟨h1,h2⟩:=A4.1 h
   obtain⟨c,h3,h4⟩:=Adc.1 h2
   cases h4
   exact⟨l,k,n,c,e1,e2,KM.1 h1,h3,rfl,rfl⟩
  ·cases h
 | load x n ag=>
  obtain⟨a,h3,rfl,rfl⟩:=BO (β:=V) h
  unfold Ab8 at h3
  split at h3
  ·rename_i ex
   split at h3
   ·rename_i u hl;rw[Bo] at hl;simp only[E,ex];grind
   ·cases h3
  ·rename_i ex
   split at h3
   ·rename_i e' sz' es hl
    obtain⟨h1,h2⟩:=A4.1 h3
    obtain⟨el,h4,h5⟩:=AcD.1 h2
    rw[Bo] at hl
    obtain rfl:=ApD h1
    simp only[E,ex];grind
   ·cases h3
  ·rename_i ex;simp only[E,ex];grind
  ·cases h3
 | store a x n=>
  obtain⟨h1,h2⟩:=A4.1 h
  obtain⟨τ,h3,h4⟩:=Adc.1 h2
  cases h4
  unfold mF at h3
  split at h3
  ·rename_i ex
   split at h3
   ·rename_i u hl
    rw[Bo] at hl
    obtain⟨u',h5,rfl⟩:=Adc.1 h3
    simp only[E,ex];grind
   ·cases h3
  ·rename_i ex
   split at h3
   ·rename_i e' sz' es hl
    rw[Bo] at hl
    obtain⟨h6,h7⟩:=A4.1 h3
    obtain⟨el,h4,h5⟩:=AcD.1 h7
    obtain⟨el',h8,rfl⟩:=Adc.1 h5
    obtain rfl:=ApD h6
    simp only[E,ex];grind
   ·cases h3
  ·cases h3
 | box x=>
  obtain⟨h1,h2⟩:=A4.1 h
  obtain⟨dd,hd,rfl,rfl⟩:=Cs h2
  exact⟨dd,hd,h1,rfl,rfl⟩
 | alloc z=>
  have h:MB ep d (fun id=>.ref id 0) (.box z) σ=some (v,σ'):=h
  obtain⟨dd,hd,rfl,rfl⟩:=Cs h
  exact⟨dd,hd,rfl,rfl⟩
 | build z ps=>
  obtain⟨h1,h2⟩:=A4.1 h
  obtain⟨cs,h3,rfl,rfl⟩:=BO (β:=V) h2
  exact⟨Aiv.1 h1,⟨cs,h3,rfl⟩,rfl⟩
 | msl own e sz xs=>
  obtain⟨h1,h2⟩:=A4.1 h
  refine⟨fun x hx=>?_,?_⟩
  ·have:=Aiv.1 h1 x hx
   simp_all
  ·cases own
   ·grind
   ·obtain⟨dd,hd,rfl,rfl⟩:=Cs h2
    grind
 | slS x lo hi=>
  simp only[fE] at h
  split at h
  ·rename_i l e
   obtain⟨a,h1,h2⟩:=AcD.1 h
   obtain⟨b,h3,h4⟩:=AcD.1 h2
   obtain⟨h5,h6⟩:=A4.1 h4
   cases h6
   simp only[Aav,AtH] at h5
   exact⟨l,a,b,e,h1,h3,h5.1,h5.2,rfl,rfl⟩
  ·cases h
 | slL x lo hi sz=>
  have key:∀es v,AhH g lo hi sz es=some v->∃a b,Fs g 0 lo=some a/\Fs g es.length hi=some b/\a<=b/\b<=es.length/\(∀y∈es,(cells y).length=sz)/\v=.sl ((es.take b).drop a):=by
   intro es v h
   obtain⟨a,h1,h2⟩:=AcD.1 h
   obtain⟨b,h3,h4⟩:=AcD.1 h2
   obtain⟨h5,h6⟩:=A4.1 h4
   simp_all
  simp only[fE] at h
  split at h
  ·rename_i es e
   obtain⟨_,h3,rfl,rfl⟩:=BO (β:=V) h
   obtain⟨a,b,h⟩:=key _ _ h3
   exact⟨es,a,b,.inl e,h.1,h.2.1,h.2.2.1,h.2.2.2.1,h.2.2.2.2.1,h.2.2.2.2.2,rfl⟩
  ·rename_i e
   obtain⟨_,h3,rfl,rfl⟩:=BO (β:=V) h
   obtain⟨a,b,h⟩:=key _ _ h3
   exact⟨[],a,b,.inr ⟨e,rfl⟩,h.1,h.2.1,h.2.2.1,h.2.2.2.1,h.2.2.2.2.1,h.2.2.2.2.2,rfl⟩
  ·cases h
 | lenS x=>
  simp only[fE] at h
  split at h
  ·rename_i l e;cases h;exact⟨l,e,rfl,rfl⟩
  ·cases h
 | lenL x=>
  obtain⟨a,h3,rfl,rfl⟩:=BO (β:=V) h
  rw[JD] at h3
  exact⟨a,h3,rfl,rfl⟩
 | app s x e sz=>
  obtain⟨xs,h1,h2⟩:=AcD.1 h
  obtain⟨h3,h4⟩:=A4.1 h2
  rw[JD] at h1
  have h3':∀y∈xs,(cells y).length=sz:=fun y hy=>ApD (Aiv.1 h3 y hy)
  unfold Aas at h4
  split at h4
  ·rename_i es'
   obtain⟨h5,h6⟩:=A4.1 h4
   obtain⟨dd,hd,rfl,rfl⟩:=Cs h6
   simp only[E,es']
   simp_all
  ·rename_i id es'
   split at h4
   ·rename_i e' sz' es hl
    obtain⟨h5,h6⟩:=A4.1 h4
    obtain⟨dd,hd,rfl,rfl⟩:=Cs h6
    rw[Bo] at hl
    simp only[Aav,As9,AtH] at h5
    obtain⟨⟨rfl,rfl⟩,h5⟩:=h5
    simp only[E,es']
    grind
   ·cases h4
  ·cases h4
 | apps s x e=>
  simp only[fE] at h
  split at h
  ·rename_i l ex
   have hbl:(Ax l).length=l.length:=by simp[Ax]
   unfold Aas at h
   split at h
   ·rename_i es'
    obtain⟨h5,h6⟩:=A4.1 h
    obtain⟨dd,hd,rfl,rfl⟩:=Cs h6
    simp only[E,es']
    simp_all
   ·rename_i id es'
    split at h
    ·rename_i e' sz' es hl
     obtain⟨h5,h6⟩:=A4.1 h
     obtain⟨dd,hd,rfl,rfl⟩:=Cs h6
     rw[Bo] at hl
     simp only[Aav,As9,AtH] at h5
     obtain⟨⟨rfl,rfl⟩,h5⟩:=h5
     simp only[E,es']
     grind
    ·cases h
   ·cases h
  ·cases h
 | slT x hi sz=>
  simp only[fE] at h
  split at h
  ·rename_i id ex
   split at h
   ·rename_i e sz' es hl
    rw[Bo] at hl
    obtain⟨q,h1,h2⟩:=AcD.1 h
    obtain⟨h3,h4⟩:=A4.1 h2
    obtain⟨dd,hd,rfl,rfl⟩:=Cs h4
    simp only[Aav,As9,AtH] at h3
    obtain⟨rfl,h3⟩:=h3
    exact⟨dd,id,e,es,q,hd,ex,hl,h1,h3,rfl,rfl⟩
   ·cases h
  ·cases h
 | ext x k=>
  simp only[fE] at h
  split at h
  ·rename_i vs e
   obtain⟨a,h3,rfl,rfl⟩:=BO (β:=V) h
   exact⟨vs,e,h3,rfl⟩
  ·cases h
 | mkfn f first caps=>cases h;exact⟨rfl,rfl⟩
 | mksl l c z e sz=>
  simp only[fE] at h
  unfold AaY at h
  split at h
  ·rename_i k n k' m el ec
   split at h
   ·rename_i dd
    obtain⟨h5,h6⟩:=A4.1 h
    cases h6
    simp only[Aav,AtH] at h5
    exact⟨dd,k,k',n,m,rfl,el,ec,h5.1,h5.2,rfl,rfl⟩
   ·cases h
  ·cases h
 | mx lo x xs=>obtain⟨a,h3,rfl,rfl⟩:=BO (β:=V) h;exact⟨h3,rfl⟩
 | nilck x=>
  obtain⟨h1,h2⟩:=A4.1 h
  cases h2
  refine⟨?_,rfl,rfl⟩
  unfold Ama at h1
  split at h1<;>simp_all
 | pu k xs=>obtain⟨a,h3,rfl,rfl⟩:=BO (β:=V) h;exact⟨h3,rfl⟩
 | rdm k m xs=>
  simp only[fE] at h
  split at h
  ·rename_i id e
   obtain⟨en,h1,h2⟩:=AcD.1 h
   obtain⟨a,h3,rfl,rfl⟩:=BO (β:=V) h2
   rw[Bo] at h1
   exact⟨⟨id,en,e,h1,h3⟩,rfl⟩
  ·cases h
 | wrm k m xs=>
  simp only[fE] at h
  split at h
  ·rename_i id e
   obtain⟨en,h1,h2⟩:=AcD.1 h
   obtain⟨r,h3,h4⟩:=Adc.1 h2
   cases h4
   rw[Bo] at h1
   exact⟨id,en,r.1,e,h1,h3,rfl⟩
  ·cases h
 | mkm k xs=>
  obtain⟨e,h1,h2⟩:=AcD.1 h
  obtain⟨dd,hd,rfl,rfl⟩:=Cs h2
  exact⟨dd,e,hd,h1,rfl,rfl⟩
 | frz m n=>
  simp only[fE] at h
  unfold AiK at h
  split at h
  ·rename_i id e
   split at h
   ·rename_i cs hl
    obtain⟨h5,h6⟩:=A4.1 h
    cases h6
    rw[Bo] at hl
    simp only[Aav,As9,Aiv,AmN] at h5
    exact⟨id,cs,e,hl,h5.1,fun c hc=>(by have:=h5.2 c hc;cases c<;>first|rfl|simp[P0] at this),rfl,rfl⟩
   ·cases h
  ·cases h
 | mrange m=>
  simp only[fE] at h
  split at h
  ·rename_i mid e
   split at h
   ·rename_i es hl
    obtain⟨dd,hd,rfl,rfl⟩:=Cs h
    rw[Bo] at hl
    exact⟨dd,mid,es,hd,e,hl,rfl,rfl⟩
   ·cases h
  ·cases h
 | mentry m=>
  simp only[fE] at h
  split at h
  ·rename_i id e
   split at h
   ·rename_i mid since seen st hl
    split at h
    ·rename_i es hlm
     obtain⟨h5,h6⟩:=A4.1 h
     obtain⟨i,h7,h8⟩:=AcD.1 h6
     obtain⟨kv,h9,rfl,rfl⟩:=BO (β:=V) h8
     rw[Bo] at hl hlm
     obtain rfl:=ApD h5
     exact⟨id,mid,since,seen,i,es,kv,e,hl,h7,hlm,h9,rfl,rfl⟩
    ·cases h
   ·cases h
  ·cases h
 | eqr ne x y=>
  obtain⟨a,h3,rfl,rfl⟩:=BO (β:=V) h
  exact⟨by rw[<-uW,h3];rfl,rfl⟩
 | btos x=>
  obtain⟨es,h1,h2⟩:=AcD.1 h
  obtain⟨l,h3,rfl,rfl⟩:=BO (β:=V) h2
  rw[JD] at h1
  exact⟨es,h1,by rw[h3];rfl,rfl⟩
 | callw f args=>cases h
 | call f args=>cases h
 | calls f args=>cases h
 | calln f args=>cases h
 | callr f args=>cases h
 | callv f args=>cases h
 | callvs f args=>cases h
theorem Abf{ep:Nat}{d:Option Nat}{op:AE}{g:Nat->V}{σ:Ak}{r:V×Ak}(h:fE ep d op g σ=some r):op.isC=false:=by
 cases op<;>first|rfl|(cases h;done)
end
end Go.Ir
end
section
namespace Go.Ir
open Go.RowKit
noncomputable section
variable[F1]
def xop(C:AO)(ep:Nat)(i:I)(env:AD)(σ:Ak)(n:Nat):Option (V×Ak×Nat):=
 match M5 env i.gd with
 | some true=>match GZ (get env) i.op with
  | some (f,args)=>C f args σ n
  | none=>(fE ep i.dst i.op (get env) σ).map fun r=>(r.1,r.2,n)
 | some false=>some (.tup [],σ,n)
 | none=>none
def SI(C:AO)(ep:Nat):List I->AD->Ak->Nat->Option (AD×Ak×Nat)
 | [],env,σ,n=>some (env,σ,n)
 | i::l,env,σ,n=>match xop C ep i env σ n with
  | some (v,σ',n')=>SI C ep l (put env i.dst v) σ' n'
  | none=>none
section
variable{P:Program}{W0:World}{nt:Nat}{ops:Array Oper}{ro:Option Nat}
structure XI (W0:World) (nt:Nat) (B:HA) (ep:Nat) (env:AD) (σ:Ak) (n:Nat) (μ:Id->Option Value) (H:Addr->Option Value) (a:Act) (w:World):Prop where
 rl:Rl μ H nt env a
 hp:Hp W0 σ n μ H w
 lt:ep<n
 fr:Fr B.μ B.H B.σ B.w μ H σ w
 old:∀id,id.1<B.n->B.μ id=none->μ id=none
 ein:B0 (Lt n) env
 sin:Cc (Lt n) σ
 dfs:a.defers=B.ds
theorem Y1{C:AO}(hC:AU P W0 C){B:HA}{ep:Nat}(hBn:B.n<=ep){i:I}{k:Nat}{o:Oper}(ho:ops[k]?=some o)(hok:P2 P nt ops o i=true)(hcl:i.cl=true)
  {env:AD}{σ:Ak}{n:Nat}{μ:Id->Option Value}{H:Addr->Option Value}{a:Act}{w:World}(hx:XI W0 nt B ep env σ n μ H a w)(hfree:∀dd,i.dst=some dd->μ (ep,dd)=none)
  {v:V}{σ':Ak}{n':Nat}(h:xop C ep i env σ n=some (v,σ',n'))(next:Act->World->Prop)(QQ:Exit->Act->World->Prop)
  (K:∀a w μ' H',XI W0 nt B ep (put env i.dst v) σ' n' μ' H' a w->(∀id,id.1<n->(∀dd,i.dst=some dd->id≠(ep,dd))->μ id=none->μ' id=none)->n<=n'->next a w):Gv P ro ops QQ k next a w:=by
 have hgo:=wI (ro:=ro) (w:=w) ho hok hx.rl next QQ
 have hok2:=hok
 unfold P2 at hok2
 simp only[Aav,beq_iff_eq] at hok2
 obtain⟨⟨⟨⟨h1,h2⟩,h3⟩,h4⟩,h5⟩:=hok2
 have hnt:∀d,i.dst=some d->d<nt:=by
  intro d hd'
  rw[hd'] at h3
  simpa using h3
 unfold xop at h
 split at h
 ·rename_i hg
  refine hgo.1 hg ?_
  split at h
  ·rename_i f args hcall
   have hR:=hC f args σ n v σ' n' h (MN hcall hcl hx.ein) hx.sin
   obtain⟨vals,hargs,hfn,hyl⟩:=sW h1 hx.rl hcall hR.callable
   have hrun:=hR.run w μ H vals hx.hp hargs
   have fin:∀val w' μ' H',Ap μ' H' v val->Hp W0 σ' n' μ' H' w'->Fr μ H σ w μ' H' σ' w'->(∀id,id.1<n->μ id=none->μ' id=none)->next (a.put o.dst val) w':=by
    intro val w' μ' H' hv hp' hf hfresh
    rw[h2]
    exact K _ _ μ' H' ⟨(hx.rl.mono hf.mu hf.hp).put hnt hv,hp',Alg hx.lt hR.le,hx.fr.trans hf,fun id hid h0=>hfresh id (by have:=hx.lt;omega) (hx.old id hid h0),(hx.ein.mono (Lt.mono hR.le)).put hR.vin,hR.sin,(Cb _ _ _).trans hx.dfs⟩ (fun id hid _ h0=>hfresh id hid h0) hR.le
   by_cases hf:f=Hl
   ·obtain⟨hnd,hyl⟩:=hyl hf
    unfold E3 at hrun
    rw[if_pos hf] at hrun
    obtain⟨l,rest,fn,tmps,asg,bd,e1,e2,e3⟩:=hrun
    refine⟨fun f _=>GA ro f,?_⟩
    rw[Oper.semAt_eq _ _ _ hnd,hyl l rest w e1,e2]
    refine⟨fun hh=>(by rw[G2] at hh;cases hh),(eL e3).mono ?_⟩
    rintro e w' ⟨val,μ',H',rfl,hv,hp',hf,hfresh⟩
    exact fin val w' μ' H' hv hp' hf hfresh
   ·refine Dz (LL (hfn hf w)) ?_
    unfold Oper.wp
    rw[hfn hf w]
    rw[Cg hf] at hrun
    simp only[Oper.upon]
    refine AqY hrun ?_
    rintro e w' ⟨val,μ',H',rfl,hv,hp',hf,hfresh⟩
    exact fin val w' μ' H' hv hp' hf hfresh
  ·rename_i hcall
   obtain⟨⟨v1,τ⟩,hE0,he⟩:=Adc.1 h
   cases he
   have hE:=LH (P:=P) (W0:=W0) hE0
   have hst:KE i.op=true->i.dst=none:=by
    intro hh
    rw[hh] at h5
    simpa using h5
   have hnc:i.op.isC=false:=Abf hE0
   have hin:=AdI (S:=Lt n) hnc (fun dd hdd=>hx.lt) (I.cl_xs hcl hx.ein) (I.cl_zs hcl) hx.sin hE
   refine Dz (VE h1 (Aja hE)) <| Q5 hx.rl hx.hp h1 h2 hx.lt hfree hst hE next QQ (fun val n1 μ1 H1 w1 hd=>?_)
   rw[h2]
   have hmu:∀id x,μ id=some x->cut n μ1 id=some x:=by
    intro id x hid
    have hlt:id.1<n:=by
     rcases Ar9 id.1 n with h|h
     ·exact h
     ·rw[hx.hp.bd id h] at hid;cases hid
    rw[Fx (m:=n) hlt]
    exact hd.fr.mu id x hid
   have hfr:Fr μ H σ w (cut n μ1) H1 τ w1:=⟨hmu,hd.fr.hp,hd.fr.size,hd.fr.keep,hd.fr.pin,fun bk hb ho=>hd.fr.dom bk hb (Gp ho)⟩
   have hfresh:∀id,id.1<n->(∀dd,i.dst=some dd->id≠(ep,dd))->μ id=none->cut n μ1 id=none:=by
    intro id hid hne h0
    rw[Fx (m:=n) hid]
    exact hd.fresh id hid hne h0
   refine K _ _ (cut n μ1) H1 ⟨(hx.rl.mono hfr.mu hfr.hp).put hnt (hd.rel.cut hin.1),hd.hp.cut hin.2,hx.lt,hx.fr.trans hfr,fun id hid h0=>hfresh id (by have:=hx.lt;omega) (fun dd _ he=>?_) (hx.old id hid h0),hx.ein.put hin.1,hin.2,(Cb _ _ _).trans hx.dfs⟩ hfresh (AbG _)
   rw[he] at hid;simp at hid;omega
 ·rename_i hg
  cases h
  refine hgo.2 hg ?_
  refine K _ _ μ H ⟨hx.rl.put hnt (.tup [] [] rfl (fun k c v hk=>by simp at hk)),hx.hp,hx.lt,hx.fr,hx.old,hx.ein.put (.tup _ (by simp)),hx.sin,(Cb _ _ _).trans hx.dfs⟩ (fun id _ _ h0=>h0) (AbG _)
 ·cases h
theorem RS{C:AO}(hC:AU P W0 C){B:HA}{ep:Nat}(hBn:B.n<=ep){QQ:Exit->Act->World->Prop}{tail:List Nat} :
  ∀(l:List I) (k:Nat),(∀(j:Nat) (i:I),l[j]?=some i->∃o,ops[k+j]?=some o/\P2 P nt ops o i=true)->(l.filterMap (·.dst)).Nodup->(∀i∈l,i.cl=true)->
  ∀(env:AD) (σ:Ak) (n:Nat) (μ:Id->Option Value) (H:Addr->Option Value) (a:Act) (w:World) (env':AD) (σ':Ak) (n':Nat),SI C ep l env σ n=some (env',σ',n')->XI W0 nt B ep env σ n μ H a w->(∀i∈l,∀dd,i.dst=some dd->μ (ep,dd)=none)->
   (∀a w μ H,XI W0 nt B ep env' σ' n' μ H a w->n<=n'->EM P ro ops QQ tail a w)->EM P ro ops QQ (List.range' k l.length++tail) a w:=by
 intro l
 induction l with
 | nil=>
  intro k _ _ _ env σ n μ H a w env' σ' n' h hx _ hK
  cases h
  grind
 | cons i l ih=>
  intro k hat hnd hcl env σ n μ H a w env' σ' n' h hx hfree hK
  obtain⟨o,ho,hok⟩:=hat 0 i rfl
  rw[Atj] at ho
  rw[AhU,List.range'_succ,Akk,Dd]
  rw[SI] at h
  split at h
  ·rename_i v σ1 n1 h1
   refine Y1 hC hBn ho hok (hcl i (by simp)) hx (fun d hd'=>hfree i (by simp) d hd') h1 _ QQ (fun a w μ1 H1 hx1 hfresh hle=>?_)
   have hnd2:(l.filterMap (·.dst)).Nodup:=by
    cases hd:i.dst with
    | none=>rwa [List.filterMap_cons_none hd] at hnd
    | some d=>rw[Atz hd] at hnd;exact(AqP.1 hnd).2
   refine ih (k+1) (fun j i' hj=>?_) hnd2 (fun j hj=>hcl j (by simp[hj])) _ _ _ μ1 H1 a w env' σ' n' h hx1 (fun i' hi' d hd'=>?_) (fun a w μ H hx2 hle2=>hK a w μ H hx2 (Aiw hle hle2))
   ·obtain⟨o',ho',hok'⟩:=hat (j+1) i' (by simpa using hj)
    exact⟨o',by rw[show k+1+j=k+(j+1) by omega];exact ho',hok'⟩
   ·refine hfresh (ep,d) hx.lt (fun dd hdd he=>?_) (hfree i' (by simp[hi']) d hd')
    cases he
    rw[Atz hdd] at hnd
    exact(AqP.1 hnd).1 (Aum.2 ⟨i',hi',hd'⟩)
  ·cases h
end
def Sr(W0:World)(nt:Nat)(B:HA)(st:St)(a:Act)(w:World):Prop:=At W0 nt B st a w/\B0 (Lt st.n) st.env/\Cc (Lt st.n) st.σ/\∀id,B.n<=id.1->B.μ id=none
def MZ(P:Program)(W0:World)(nt:Nat)(r:Bool)(ic:IC)(Q:Exit->St->Prop)(st:St):Prop:=
 ∀code,Ay P nt code ic=true->∀B a w,(r=true->B.ro=none)->Sr W0 nt B st a w->code.wpr P B.ro (fun e a' w'=>∃B',K5 B B'/\∃st',Q e st'/\Sr W0 nt B' st' a' w') a w
theorem W2{P:Program}{W0:World}{nt:Nat}{r:Bool}{ic:IC}{Q:Exit->St->Prop}{st:St}(h:∀code,Ay P nt code ic=true->∀B a w,(r=true->B.ro=none)->Sr W0 nt B st a w->code.wpr P B.ro (fun e a' w'=>∃st',Q e st'/\Sr W0 nt B st' a' w') a w):MZ P W0 nt r ic Q st:=
 fun code hc B a w hB hat=>AZ (h code hc B a w hB hat) fun e a w hh=>⟨B,K5.refl B,hh⟩
theorem Sr.low{W0:World}{nt:Nat}{B:HA}{env:AD}{σ:Ak}{n m:Nat}{a:Act}{w:World}(h:At W0 nt B ⟨env,σ,n⟩ a w)(hb:∀id,B.n<=id.1->B.μ id=none)(hBn:B.n<=m)(he:B0 (Lt m) env)(hs:Cc (Lt m) σ):Sr W0 nt B ⟨env,σ,m⟩ a w:=by
 obtain⟨μ,H,hr,hp,hf,hold,hn,hds⟩:=h
 refine⟨⟨cut m μ,H,⟨hr.size,fun s=>(hr.at_ s).cut (he s)⟩,hp.cut hs,⟨fun id x hid=>?_,hf.hp,hf.size,hf.keep,hf.pin,fun bk hb ho=>hf.dom bk hb (Gp ho)⟩,fun id hid h0=>?_,hBn,hds⟩,he,hs,hb⟩
 ·have hlt:id.1<m:=by
   grind
  rw[Fx (m:=m) hlt]
  exact hf.mu id x hid
 ·rw[Fx (m:=m) (Alg hid hBn)]
  exact hold id hid h0
section
variable{P:Program}{W0:World}{nt:Nat}{Q Q':Exit→St→Prop}{st:St}{r:Bool}
theorem FG{ic:IC}(h:MZ P W0 nt r ic Q st)(hq:∀e st,Q e st->Q' e st):MZ P W0 nt r ic Q' st:=
 fun code hc B a w hB hat=>AZ (h code hc B a w hB hat) fun e a w ⟨B',hx,st',hq',ha⟩=>⟨B',hx,st',hq _ _ hq',ha⟩
theorem nG{C:AO}(hC:AU P W0 C){l:List I}{live:List Nat}(hcl:l.all I.cl=true){env':AD}{σ':Ak}{n':Nat}(h:SI C st.n l st.env st.σ (st.n+1)=some (env',σ',n'))(hq:Q .normal ⟨restrict live env',σ',n'⟩):MZ P W0 nt r (.seqr l live) Q st:=by
 refine W2 fun code hc B a w _ hat=>?_
 obtain⟨rid,ops,rfl,hk⟩:∃rid ops,code=.region rid ops false/\(Dp P nt ops ops.toList l&&B3 l)=true:=by
  cases code with
  | region rid ops draw=>
   cases draw with
   | true=>simp[Ay] at hc
   | false=>exact⟨rid,ops,rfl,by simpa[Ay] using hc⟩
  | _=>simp[Ay] at hc
 simp only[Aav] at hk
 obtain⟨hok,hd⟩:=hk
 obtain⟨⟨μ,H,hr,hp,hf,hold,hn,hds⟩,he,hs,hb⟩:=hat
 obtain⟨hlen,hat'⟩:=LM hok
 refine Gg ?_
 have hrange:List.range ops.size=List.range' 0 l.length++[]:=by
  rw[Aou,List.range_eq_range',<-hlen]
  simp
 rw[hrange]
 refine RS (B:=B) (ep:=st.n) hC hn l 0 (fun j i hj=>?_) (of_decide_eq_true hd) (fun i hi=>Aiv.1 hcl i hi) st.env st.σ (st.n+1) μ H a w env' σ' n' h
  ⟨hr,hp.more (Ani _),Acq _,hf,hold,he.mono (Lt.mono (Ani _)),hs.mono (Lt.mono (Ani _)),hds⟩ (fun i _ dd _=>hp.bd _ (AbG _)) (fun a w μ H hx hle=>?_)
 ·grind
 ·show ∃st',Q .normal st'/\Sr W0 nt B st' a w
  refine⟨_,hq,⟨μ,H,⟨hx.rl.size,fun s=>?_⟩,hx.hp,hx.fr,hx.old,by simp only;omega,hx.dfs⟩,hx.ein.restrict _,hx.sin,hb⟩
  rcases Bt live env' s with h|h
  ·simp only;rw[h];exact hx.rl.at_ s
  ·simp only;rw[h];exact .any _
theorem xZ{ic:IC}{env':AD}{σ':Ak}{m:Nat}(h:Anv P W0 nt ic (fun e s=>e=.normal/\∃n,s=⟨env',σ',n⟩) st)(hm:st.n<=m)(hin:B0 (Lt st.n) st.env->Cc (Lt st.n) st.σ->B0 (Lt m) env'/\Cc (Lt m) σ')(hq:Q .normal ⟨env',σ',m⟩):MZ P W0 nt r ic Q st:=by
 refine W2 fun code hc B a w _ hat=>?_
 obtain⟨hat,he,hs,hb⟩:=hat
 have hBn:B.n<=st.n:=by obtain⟨_,_,_,_,_,_,hn,_⟩:=hat;exact hn
 refine AZ (h code hc B a w hat) fun e a w hh=>?_
 obtain⟨_,⟨rfl,n,rfl⟩,ha⟩:=hh
 exact⟨_,hq,Sr.low ha hb (Aiw hBn hm) (hin he hs).1 (hin he hs).2⟩
theorem VX{x y:IC}(h:MZ P W0 nt r x (fun e s=>match e with|.normal=>MZ P W0 nt r y Q s|e=>Q e s) st):MZ P W0 nt r (.seq x y) Q st:=by
 intro code hc B a w hB hat
 unfold Ay at hc
 split at hc<;>try (cases hc;done)
 all_goals rename_i heq
 all_goals try (cases heq;done)
 rename_i c1 c2 x' y'
 cases heq
 simp only[Aav] at hc
 refine UM (AZ (h c1 hc.1 B a w hB hat) fun e a w hh=>?_)
 obtain⟨B',hx,st',hq,ha⟩:=hh
 cases e with
 | normal=>
  have h2:=hq c2 hc.2 B' a w (fun h=>hx.ro.trans (hB h)) ha
  rw[hx.ro] at h2
  exact AZ h2 fun e a w ⟨B2,hx2,hh⟩=>⟨B2,hx.trans hx2,hh⟩
 | exit id=>exact⟨B',hx,st',hq,ha⟩
 | goto l=>exact⟨B',hx,st',hq,ha⟩
 | ret=>exact⟨B',hx,st',hq,ha⟩
 | panic ch=>exact⟨B',hx,st',hq,ha⟩
 | outgrown=>exact⟨B',hx,st',hq,ha⟩
theorem lW(h:Q .normal st):MZ P W0 nt r .skip Q st:=by
 intro code hc B a w hB hat
 cases code<;>simp[Ay] at hc
 exact RA ⟨B,K5.refl B,st,h,hat⟩
theorem tI(h:Q .ret st):MZ P W0 nt r .ret Q st:=by
 intro code hc B a w hB hat
 cases code<;>simp[Ay] at hc
 exact WC ⟨B,K5.refl B,st,h,hat⟩
theorem rI{id:Nat}(h:Q (.exit id) st):MZ P W0 nt r (.exit id) Q st:=by
 intro code hc B a w hB hat
 cases code<;>simp[Ay] at hc
 subst hc
 exact Rb ⟨B,K5.refl B,st,h,hat⟩
theorem AfA{ic:IC}(h:MZ P W0 nt r ic Q st):MZ P W0 nt r (.wk ic) Q st:=fun code hc=>h code (by cases code<;>simpa only[Ay] using hc)
theorem JE{id:Nat}{x:IC}(h:MZ P W0 nt r x (Dl id Q) st):MZ P W0 nt r (.block id x) Q st:=by
 intro code hc B a w hB hat
 cases code<;>simp[Ay] at hc
 obtain⟨rfl,hc⟩:=hc
 refine N3 (AZ (h _ hc B a w hB hat) fun e a w hh=>?_)
 obtain⟨B',hx,st',hq,ha⟩:=hh
 cases e with
 | exit id'=>
  simp only[Dl] at hq
  simp only[Exit.inBlock]
  grind
 | normal=>exact⟨B',hx,st',hq,ha⟩
 | goto l=>exact⟨B',hx,st',hq,ha⟩
 | ret=>exact⟨B',hx,st',hq,ha⟩
 | panic ch=>exact⟨B',hx,st',hq,ha⟩
 | outgrown=>exact⟨B',hx,st',hq,ha⟩
theorem Rw{c:X}{x y:IC}{t:Bool}(ht:ev (get st.env) c=.b t)(h:MZ P W0 nt r (bif t then x else y) Q st):MZ P W0 nt r (.cond c x y) Q st:=by
 intro code hc B a w hB hat
 cases code<;>simp[Ay] at hc
 obtain⟨⟨h1,h2⟩,h3⟩:=hc
 have hat':=hat
 obtain⟨⟨μ,H,hr,_⟩,_⟩:=hat
 have:=Ao hr h1
 rw[ht] at this
 exact EI this.b_inv (fun hh=>by subst hh;exact h _ h2 B a w hB hat') (fun hh=>by subst hh;exact h _ h3 B a w hB hat')
theorem rG{c:IC}{Inv:Nat->St->Prop}(round:∀m st,Inv m st->MZ P W0 nt r c (fun e s=>match e with|.normal=>∃m',m'<m/\Inv m' s|e=>Q e s) st)(m:Nat)(h:Inv m st):MZ P W0 nt r (.loop c) Q st:=by
 intro code hc B a w hB hat
 cases code<;>simp[Ay] at hc
 rename_i body
 refine Ql (fun m a w=>∃B',K5 B B'/\∃st,Inv m st/\Sr W0 nt B' st a w) (fun m a w hI=>?_) m a w ⟨B,K5.refl B,st,h,hat⟩
 obtain⟨B1,hx1,st1,hinv,hat1⟩:=hI
 have hr:=round m st1 hinv body hc B1 a w (fun h=>hx1.ro.trans (hB h)) hat1
 rw[hx1.ro] at hr
 refine AZ hr fun e a w hh=>?_
 obtain⟨B',hx,st',hq,ha⟩:=hh
 have hx:=hx1.trans hx
 cases e with
 | normal=>obtain⟨m',hlt,hi⟩:=hq;exact⟨m',hlt,B',hx,st',hi,ha⟩
 | exit id=>exact⟨B',hx,st',hq,ha⟩
 | goto l=>exact⟨B',hx,st',hq,ha⟩
 | ret=>exact⟨B',hx,st',hq,ha⟩
 | panic ch=>exact⟨B',hx,st',hq,ha⟩
 | outgrown=>exact⟨B',hx,st',hq,ha⟩
end
end
end Go.Ir
end
section
namespace Go.Ir
open Go.RowKit
variable[F1]
def join(m:Nat)(μ' μ:Id->Option Value):Id->Option Value:=fun id=>if id.1<m then μ' id else μ id
theorem Hw{m:Nat}{μ' μ:Id->Option Value}{id:Id}(h:Lt m id):join m μ' μ id=μ' id:=if_pos h
theorem Hi{m:Nat}{μ' μ:Id->Option Value}{id:Id}(h:m<=id.1):join m μ' μ id=μ id:=if_neg (Auc.2 h)
section
variable{P:Program}{W0:World}{f:FuncId}{args:List V}{σ σ':Ak}{m n':Nat}{v:V}
theorem Fr.wide{n:Nat}{μ μ':Id->Option Value}{H H':Addr->Option Value}{w w':World}{τ:Ak}(hs:Cc (Lt m) σ)(hτ:Cc (Lt m) τ)(hf:Fr (cut m μ) H σ w μ' H' τ w'):Fr μ H σ w (join m μ' μ) H' τ w' where
 mu id x hx:=by
  rcases Ar9 id.1 m with h|h
  ·rw[Hw (m:=m) h];exact hf.mu id x (by rw[Fx (m:=m) h];exact hx)
  ·rw[Hi h];exact hx
 hp:=hf.hp
 size:=hf.size
 keep bk hb ho:=hf.keep bk hb fun o=>ho (Gp o)
 pin ad hb ho:=hf.pin ad hb fun o=>ho (Gp o)
 dom bk hb ho:=Gp (hf.dom bk hb (JY hτ (fun id hid=>Hw hid) ho))
theorem Am.of_at(hf:f≠Hl)(h:Fe P W0 f args σ m v σ' n')(ha:∀a∈args,AW (Lt m) a)(hs:Cc (Lt m) σ){τ:Ak}(hsub:∀id e,lk τ id=some e->lk σ' id=some e)(hd:∀id,lk τ id≠none->lk σ id≠none)(hv:AW (Lt m) v)(hτ:Cc (Lt m) τ):Am P W0 f args σ v τ where
 callable:=h.callable hf
 dom:=hd
 run:=by
  intro n w μ H vals hp hargs
  have:=h.run w (cut m μ) H vals (hp.cut hs) (hargs.cut ha)
  rw[Cg hf] at this
  refine AqY this ?_
  rintro e w' ⟨val,μ',H',rfl,hv',hp',hf,hfresh⟩
  have hag:∀id,Lt m id->join m μ' μ id=μ' id:=fun id hid=>Hw hid
  have hfp:Fr (cut m μ) H σ w μ' H' τ w':=⟨hf.mu,hf.hp,hf.size,hf.keep,hf.pin,fun bk hb ho=>hf.dom bk hb (by obtain⟨id,e,hl,hbk⟩:=ho;exact⟨id,e,hsub _ _ hl,hbk⟩)⟩
  refine⟨val,join m μ' μ,H',max n m,rfl,hv'.agree hag hv,(hp'.part hsub).agree hτ hag fun id hid=>?_,Nat.le_max_left ..,Fr.wide (n:=n) hs hτ hfp,fun id hid h0=>?_⟩
  ·have h1:n<=id.1:=Aiw (Nat.le_max_left ..) hid
   have h2:m<=id.1:=Aiw (Nat.le_max_right ..) hid
   rw[Hi h2];exact hp.bd id h1
  ·rcases Ar9 id.1 m with h|h
   ·rw[Hw (m:=m) h];exact hfresh id h (by rw[Fx (m:=m) h];exact h0)
   ·rw[Hi h];exact h0
theorem JR.of_at{id0:Id}{x:AC}(hf:f≠Hl)(h:Fe P W0 f args σ m (.arr id0) σ' n')(ha:∀a∈args,AW (Lt m) a)(hs:Cc (Lt m) σ){τ:Ak}(hx:lk σ' id0=some x)(hsub:∀id e,lk τ id=some e->lk σ' id=some e)(hd:∀id,lk τ id≠none->lk σ id≠none)(hv:Iz (Lt m) x)(hτ:Cc (Lt m) τ)(hid:m<=id0.1):JR P W0 f args σ x τ where
 callable:=h.callable hf
 dom:=hd
 run:=by
  intro n w μ H vals hp hargs
  have:=h.run w (cut m μ) H vals (hp.cut hs) (hargs.cut ha)
  rw[Cg hf] at this
  refine AqY this ?_
  rintro e w' ⟨val,μ',H',rfl,hv',hp',hf,hfresh⟩
  obtain⟨hm,h1c⟩:=hv'.arr_inv
  have hτ0:lk τ id0=none:=by
   cases hl:lk τ id0 with
   | none=>rfl
   | some e=>have:=(hτ _ _ hl).1;exact absurd this (Auc.2 hid)
  obtain⟨K,hK⟩:∃K,K=max n n':=⟨_,rfl⟩
  have hKn:n<=K:=by omega
  have hKn':n'<=K:=by omega
  have hmK:m<=K:=Aiw h.le hKn'
  have hsub2:∀id e,lk ((id0,x)::τ) id=some e->lk σ' id=some e:=by
   intro id e hl
   simp only[lk] at hl
   grind
  have hpart:=(hp'.part hsub2).more (Nat.le_succ_of_le hKn')
  have hnone:μ' (K,0)=none:=hp'.bd _ hKn'
  obtain⟨hp2,hown⟩:=hpart.rename hm hτ0 hnone (Acq _)
  have hKm:¬Lt m (K,0):=Auc.2 hmK
  have hag:∀id,(Lt m id\/id=(K,0))->Ee (join m μ' μ) (K,0) val id=Ee μ' (K,0) val id:=by
   rintro id (hid|rfl)
   ·have hne:id≠(K,0):=by rintro rfl;exact hKm hid
    rw[B9 _ _ hne,B9 _ _ hne,Hw hid]
   ·rw[Ar,Ar]
  have hσ:Cc (fun id=>Lt m id\/id=(K,0)) (((K,0),x)::τ):=(hτ.mono fun id h=>.inl h).cons (.inr rfl) (hv.mono fun id h=>.inl h)
  have hj:join m μ' μ (K,0)=none:=by rw[Hi hmK];exact hp.bd _ hKn
  have hfp:Fr (cut m μ) H σ w μ' H' τ w':=⟨hf.mu,hf.hp,hf.size,hf.keep,hf.pin,fun bk hb ho=>hf.dom bk hb (by obtain⟨id,e,hl,hbk⟩:=ho;exact⟨id,e,hsub _ _ hl,hbk⟩)⟩
  have hw:=Fr.wide (n:=n) hs hτ hfp
  refine⟨val,Ee (join m μ' μ) (K,0) val,H',K+1,(K,0),rfl,Ar _ _ _,h1c,hp.bd _ hKn,?_,hp2.agree hσ hag (fun id hid=>?_),Nat.le_succ_of_le hKn,⟨fun id y hy=>Bv hj id y (hw.mu id y hy),hw.hp,hw.size,hw.keep,hw.pin,fun bk hb ho=>?_⟩,fun id hid h0=>?_⟩
  ·cases hl:lk τ (K,0) with
   | none=>rfl
   | some e=>exact absurd (hτ _ _ hl).1 hKm
  ·have hne:id≠(K,0):=by grind
   rw[B9 _ _ hne,Hi (by omega)]
   exact hp.bd id (by omega)
  ·have ho2:EK (Ee μ' (K,0) val) (((K,0),x)::τ) bk:=JY hσ hag ho
   obtain⟨id2,e2,hl2,hb2⟩:=hown bk ho2
   exact Gp (hf.dom bk hb ⟨id2,e2,hsub2 _ _ hl2,hb2⟩)
  ·have hne:id≠(K,0):=by grind
   rw[B9 _ _ hne]
   rcases Ar9 id.1 m with h|h
   ·rw[Hw (m:=m) h];exact hfresh id h (by rw[Fx (m:=m) h];exact h0)
   ·rw[Hi h];exact h0
end
end Go.Ir
end
