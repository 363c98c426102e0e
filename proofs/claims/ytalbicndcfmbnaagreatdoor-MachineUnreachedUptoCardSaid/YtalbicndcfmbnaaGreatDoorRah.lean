/-
  MachineUnreached, for inputs of a bulk of at most 2^20: the law returns true for any input, and turns nothing.
-/
import Derived.Test.YtalbicndcfmbnaaGreatDoorRag
import Derived.Test.YtalbicndcfmbnaaGreatDoorCards
import Derived.Test.YtalbicndcfmbnaaGreatDoorTie
import Derived.WalkKit
import Derived.ProofKit
import Derived.Deep.DeepHandedRow
import Derived.Lay
set_option linter.all false
namespace Go.Proofs.YtalbicndcfmbnaaGreatDoor.machineUnreached
open Go.ChangeShapes Go.WideShapes Go.RowKit Go.Ir
def Lh:List TypeId:=[3,4,9,42,28,40,57,44,30,22,139,137,172,175,173,337,24,25,178,26,180,27,182,32,62]
theorem own:ownKnob Tryz.prog.godebug=none:=by kernel_rfl
theorem Ab9:laidOutB Tryz.prog=true:=by kernel_rfl
theorem Tq:Arh Tryz.prog Lh=true:=by kernel_rfl
theorem AuT:42∈Lh:=by decide
theorem Avh:57∈Lh:=by decide
theorem Au6:44∈Lh:=by decide
theorem law(W:World)(q:laidMetH Tryz.prog Rows.machineUnreachedUptoRow.laid W)(a:W.ShapedOpen Tryz.prog)(c:List V)(f:Et Tryz.prog 42 c)(u:A7 c<=1048576)(d:List V)(j:Et Tryz.prog 57 d)(D:A7 d<=1048576)(sv:List V)(i:Et Tryz.prog 44 sv)(y:A7 sv<=1048576):Al Tryz.prog W 5 [.agg c,.agg d,.agg sv] [] (.b true) []:=by
 have k:Bv W:=aV _ (by kernel_rfl) rfl (g:=3) (t:=397) (e:=282) (n:=20) (by kernel_rfl) (by kernel_rfl) (by kernel_rfl) (by kernel_rfl) (by kernel_rfl) (by kernel_rfl) q;obtain⟨names,ins,r,F,G⟩:=Ach c f;obtain⟨z,C,E⟩:=wS d j;have z2:=(MG z.s).2;obtain⟨L,vs,iso,h,H,I,J,o,p⟩:=Ue sv i;obtain⟨K,m⟩:=Ack (l:=vs) (n:=2^20) (by omega);have M:=FK (w:=bw) (l:=names) (λx=>(MG x).1);have N:=FK (w:=RL) (l:=ins) (λx=>(MG x.s).1);rw[r,C,h];refine HM W (NY a) k (d9 W (NY a) k) names ins z L vs iso (by omega) (by omega) (λs h=>?_) (λx B=>?_) (by unfold RL at E;omega) o p (by omega) (by omega) (by omega) (λv A=>by have:=(m v A).2;omega)
 .have:=MF (w:=bw) h;have:=(MG s).2;omega
 .have:=MF (w:=RL) B;have:=(MG x.s).2;unfold RL at *;omega
set_option maxRecDepth 100000 in
theorem IP(H:Type)(enc:TypeId×Value->H)(W:World)(base:Nat)(args:Array Value)(A K:List (DataW H))(b:List MemPlace)
  (a:∀(j:Nat) t v,Tryz.f5.params[j]?=some t->args[j]?=some v->Value.okWide Tryz.prog W .any base t v)
  (M:DataW.Whole enc Tryz.prog Tryz.f5.params.toList Rows.machineUnreachedSpec.vars false W args.toList A K b)(V:laidMetH Tryz.prog Rows.machineUnreachedUptoRow.laid W)(C:W.ShapedOpen Tryz.prog)(Y:Rows.uptoSmall H (A++K)=true) :
  Calls Tryz.prog 5 args W λe J=>∃v,e=.returned v/\Rows.machineUnreachedSpec.post enc Tryz.prog Tryz.f5 false true false false W args v J:=by
 have D:=M;obtain⟨p,q,B,X,rfl,aa,ab⟩:=M;have L:DataW.TrodAll enc Tryz.prog W 0 (λ_=>true) true Tryz.f5.params.toList args.toList A p:=B;rw[Tryz.params5] at L a;obtain⟨v0,ai,x,S,p0,q0,E,rfl,rfl,l,r0⟩:=trodAll_cons L;obtain⟨o,aj,y,T,p1,q1,rfl,rfl,rfl,m,r1⟩:=trodAll_cons r0;obtain⟨v2,ak,z,U,p2,q2,rfl,rfl,rfl,n,r2⟩:=trodAll_cons r1;obtain⟨rfl,rfl,rfl⟩:=trodAll_nil r2;obtain rfl:args=#[v0,o,v2]:=by cases args;simp_all
 obtain⟨rfl,rfl⟩:=trodVars_none X;have hb:Rows.uptoBulk x+(Rows.uptoBulk y+(Rows.uptoBulk z+0))<=1048576:=by have:=of_decide_eq_true Y;simpa only[List.append_nil,Rows.uptoBulkAll] using this
 unfold DataW.Trod at l m n;rcases l with⟨f0,l⟩
 rcases m with⟨f1,m⟩;rcases n with⟨f2,n⟩;obtain⟨G,r,w0,O⟩:=Ig (enc:=enc) (P:=Tryz.prog) (w:=W) (base:=0) (spare:=λ_=>true) (held:=true) (μ:=λ_=>none) Tq f0 42 v0.cells.toList (x,p0) AuT l (show Rows.uptoBulk x<=1048576 by omega);obtain⟨l1,s,w1,Q⟩:=Ig (enc:=enc) (P:=Tryz.prog) (w:=W) (base:=0) (spare:=λ_=>true) (held:=true) (μ:=λ_=>none) Tq f1 57 o.cells.toList (y,p1) Avh m (show Rows.uptoBulk y<=1048576 by omega);obtain⟨I,u,w2,R⟩:=Ig (enc:=enc) (P:=Tryz.prog) (w:=W) (base:=0) (spare:=λ_=>true) (held:=true) (μ:=λ_=>none) Tq f2 44 v2.cells.toList (z,p2) Au6 n (show Rows.uptoBulk z<=1048576 by omega);simp only at O Q R;have N:Value.okWide Tryz.prog W .any base 42 v0:=a 0 42 v0 (by simp) (by simp);simp only[Value.okWide,Tryz.underlying42] at N;obtain⟨d,rfl,_,_⟩:=N;have h:Ao (λ_=>none) (λc=>W.cell? c) (.agg G) (.agg d):=by have:=Ao.agg G d.toList r.len r.one r.at_;simpa using this
 have k1:Value.okWide Tryz.prog W .any base 57 o:=a 1 57 o (by simp) (by simp);simp only[Value.okWide,Tryz.underlying57] at k1;obtain⟨f,rfl,_,_⟩:=k1;have i:Ao (λ_=>none) (λc=>W.cell? c) (.agg l1) (.agg f):=by have:=Ao.agg l1 f.toList s.len s.one s.at_;simpa using this
 have k2:Value.okWide Tryz.prog W .any base 44 v2:=a 2 44 v2 (by simp) (by simp);simp only[Value.okWide,Tryz.underlying44] at k2;obtain⟨g,rfl,_,_⟩:=k2;have k:Ao (λ_=>none) (λc=>W.cell? c) (.agg I) (.agg g):=by have:=Ao.agg I g.toList u.len u.one u.at_;simpa using this
 refine(Uz (law W V C G w0 (by omega) l1 w1 (by omega) I w2 (by omega)) (VRels.cons h (VRels.cons i (VRels.cons k VRels.nil_)))).mono λe J ⟨Z,F⟩=>?_;subst Z;refine⟨_,rfl,?_⟩;exact ZS (tb:=4) Ab9 (by rw[Tryz.params5];decide +kernel) rfl Tryz.underlying4 rfl rfl D F
end Go.Proofs.YtalbicndcfmbnaaGreatDoor.machineUnreached
