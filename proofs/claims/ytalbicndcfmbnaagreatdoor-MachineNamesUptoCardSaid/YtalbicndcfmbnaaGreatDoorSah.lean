/-
  MachineNames, for inputs of a bulk of at most 2^20: the law returns true for any input, and turns nothing.
-/
import Derived.Test.YtalbicndcfmbnaaGreatDoorSag
import Derived.Test.YtalbicndcfmbnaaGreatDoorCards
import Derived.Test.YtalbicndcfmbnaaGreatDoorTie
import Derived.WalkKit
import Derived.ProofKit
import Derived.Deep.DeepHandedRow
import Derived.Lay
set_option linter.all false
namespace Go.Proofs.YtalbicndcfmbnaaGreatDoor.machineNames
open Go.ChangeShapes Go.WideShapes Go.RowKit Go.Ir
def PW:List TypeId:=[3,4,9,42,28,40,57,44,30,22,139,137,172,175,173,337,24,25,178,26,180,27,182,32,62]
theorem own:ownKnob Tryz.prog.godebug=none:=by kernel_rfl
theorem AbC:laidOutB Tryz.prog=true:=by kernel_rfl
theorem rF:ApW Tryz.prog PW=true:=by kernel_rfl
theorem Auf:42∈PW:=by decide
theorem Aua:44∈PW:=by decide
theorem law(W:World)(m:laidMetH Tryz.prog Rows.machineNamesUptoRow.laid W)(a:W.ShapedOpen Tryz.prog)(c:List V)(d:Et Tryz.prog 42 c)(p:A8 c<=1048576)(sv:List V)(h:Et Tryz.prog 44 sv)(q:A8 sv<=1048576):Al Tryz.prog W 6 [.agg c,.agg sv] [] (.b true) []:=by
 have i:By W:=ZR _ (by kernel_rfl) rfl (g:=3) (t:=397) (e:=282) (n:=20) (by kernel_rfl) (by kernel_rfl) (by kernel_rfl) (by kernel_rfl) (by kernel_rfl) (by kernel_rfl) m;obtain⟨names,ins,o,y,z⟩:=Acz c d;obtain⟨L,vs,iso,f,A,B,C,j,k⟩:=Uj sv h;obtain⟨D,E⟩:=AcQ (l:=vs) (n:=2^20) (by omega);have H:=F9 (w:=bw) (l:=names) (λx=>(PQ x).1);have I:=F9 (w:=Tb) (l:=ins) (λx=>(PQ x.s).1);rw[o,f];refine Ly W (On a) i (vM W (On a) i) names ins L vs iso (by omega) (by omega) (λs f=>?_) (λx u=>?_) j k (by omega) (by omega) (by omega) (λv r=>?_)
 .have:=Jw (w:=bw) f;have:=(PQ s).2;omega
 .have:=Jw (w:=Tb) u;have:=(PQ x.s).2;unfold Tb at *;omega
 .have F:=Jw (w:=B4.wt) r;have G:v.wt=1+v.name.length+v.text.length+v.list.length:=rfl;exact⟨by omega,by omega⟩
set_option maxRecDepth 100000 in
theorem J1(H:Type)(enc:TypeId×Value->H)(W:World)(base:Nat)(args:Array Value)(s D:List (DataW H))(b:List MemPlace)
  (a:∀(j:Nat) t v,Tryz.f6.params[j]?=some t->args[j]?=some v->Value.okWide Tryz.prog W .any base t v)
  (F:DataW.Whole enc Tryz.prog Tryz.f6.params.toList Rows.machineNamesSpec.vars false W args.toList s D b)(M:laidMetH Tryz.prog Rows.machineNamesUptoRow.laid W)(x:W.ShapedOpen Tryz.prog)(O:Rows.uptoSmall H (s++D)=true) :
  Calls Tryz.prog 6 args W λe C=>∃v,e=.returned v/\Rows.machineNamesSpec.post enc Tryz.prog Tryz.f6 false true false false W args v C:=by
 have y:=F;obtain⟨p,q,u,N,rfl,R,S⟩:=F;have E:DataW.TrodAll enc Tryz.prog W 0 (λ_=>true) true Tryz.f6.params.toList args.toList s p:=u;rw[Tryz.params6] at E a;obtain⟨v0,Y,o,K,T,q0,z,rfl,rfl,h,V⟩:=trodAll_cons E;obtain⟨k,Z,r,L,U,q1,rfl,rfl,rfl,i,X⟩:=trodAll_cons V;obtain⟨rfl,rfl,rfl⟩:=trodAll_nil X;obtain rfl:args=#[v0,k]:=by cases args;simp_all
 obtain⟨rfl,rfl⟩:=trodVars_none N;have hb:Rows.uptoBulk o+(Rows.uptoBulk r+0)<=1048576:=by have:=of_decide_eq_true O;simpa only[List.append_nil,Rows.uptoBulkAll] using this
 unfold DataW.Trod at h i;rcases h with⟨f0,h⟩
 rcases i with⟨f1,i⟩;obtain⟨B,m,w0,I⟩:=MK (enc:=enc) (P:=Tryz.prog) (w:=W) (base:=0) (spare:=λ_=>true) (held:=true) (μ:=λ_=>none) rF f0 42 v0.cells.toList (o,T) Auf h (show Rows.uptoBulk o<=1048576 by omega);obtain⟨l1,n,w1,J⟩:=MK (enc:=enc) (P:=Tryz.prog) (w:=W) (base:=0) (spare:=λ_=>true) (held:=true) (μ:=λ_=>none) rF f1 44 k.cells.toList (r,U) Aua i (show Rows.uptoBulk r<=1048576 by omega);simp only at I J;have G:Value.okWide Tryz.prog W .any base 42 v0:=a 0 42 v0 (by simp) (by simp);simp only[Value.okWide,Tryz.underlying42] at G;obtain⟨c,rfl,_,_⟩:=G;have f:Ao (λ_=>none) (λl=>W.cell? l) (.agg B) (.agg c):=by have:=Ao.agg B c.toList m.len m.one m.at_;simpa using this
 have k1:Value.okWide Tryz.prog W .any base 44 k:=a 1 44 k (by simp) (by simp);simp only[Value.okWide,Tryz.underlying44] at k1;obtain⟨d,rfl,_,_⟩:=k1;have g:Ao (λ_=>none) (λl=>W.cell? l) (.agg l1) (.agg d):=by have:=Ao.agg l1 d.toList n.len n.one n.at_;simpa using this
 refine(SS (law W M x B w0 (by omega) l1 w1 (by omega)) (VRels.cons f (VRels.cons g VRels.nil_))).mono λe C ⟨Q,A⟩=>?_;subst Q;refine⟨_,rfl,?_⟩;exact ZF (tb:=4) AbC (by rw[Tryz.params6];decide +kernel) rfl Tryz.underlying4 rfl rfl y A
end Go.Proofs.YtalbicndcfmbnaaGreatDoor.machineNames
