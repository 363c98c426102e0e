/-
  MachineForward, for inputs of a bulk of at most 2^20: the law returns true for any input, and turns nothing.
-/
import Derived.Test.YtalbicndcfmbnaaGreatDoorTag
import Derived.Test.YtalbicndcfmbnaaGreatDoorCards
import Derived.Test.YtalbicndcfmbnaaGreatDoorTie
import Derived.WalkKit
import Derived.ProofKit
import Derived.Deep.DeepHandedRow
import Derived.Lay
set_option linter.all false
namespace Go.Proofs.YtalbicndcfmbnaaGreatDoor.machineForward
open Go.ChangeShapes Go.WideShapes Go.RowKit Go.Ir
def OH:List TypeId:=[3,4,9,42,28,40,57,44,30,22,139,137,172,175,173,337,24,25,178,26,180,27,182,32,62]
theorem own:ownKnob Tryz.prog.godebug=none:=by kernel_rfl
theorem Adc:laidOutB Tryz.prog=true:=by kernel_rfl
theorem vQ:ApI Tryz.prog OH=true:=by kernel_rfl
theorem AuA:42∈OH:=by decide
theorem Av1:44∈OH:=by decide
theorem law(W:World)(o:laidMetH Tryz.prog Rows.machineForwardUptoRow.laid W)(a:W.ShapedOpen Tryz.prog)(c:List V)(d:Ew Tryz.prog 42 c)(q:A8 c<=1048576)(sv:List V)(h:Ew Tryz.prog 44 sv)(r:A8 sv<=1048576):Al Tryz.prog W 4 [.agg c,.agg sv] [] (.b true) []:=by
 have i:Bu W:=Y4 _ (by kernel_rfl) rfl (g:=3) (t:=397) (e:=282) (n:=20) (by kernel_rfl) (by kernel_rfl) (by kernel_rfl) (by kernel_rfl) (by kernel_rfl) (by kernel_rfl) o;obtain⟨names,ins,p,z,A⟩:=AaL c d;obtain⟨L,vs,iso,f,B,C,D,k,m⟩:=TT sv h;obtain⟨E,j⟩:=Aba (l:=vs) (n:=2^20) (by omega);have F:=FJ (w:=bw) (l:=names) (λx=>(P8 x).1);have G:=FJ (w:=S7) (l:=ins) (λx=>(P8 x.s).1);rw[p,f];refine Jx W (Nl a) i (lB W (Nl a) i) names ins L vs iso (by omega) (by omega) (λs f=>?_) (λx y=>?_) k m (by omega) (by omega) (by omega) (λv u=>by have:=(j v u).2;omega)
 .have:=LQ (w:=bw) f;have:=(P8 s).2;omega
 .have:=LQ (w:=S7) y;have:=(P8 x.s).2;unfold S7 at *;omega
set_option maxRecDepth 100000 in
theorem IT(H:Type)(enc:TypeId×Value->H)(W:World)(base:Nat)(args:Array Value)(s D:List (DataW H))(b:List MemPlace)
  (a:∀(j:Nat) t v,Tryz.f4.params[j]?=some t->args[j]?=some v->Value.okWide Tryz.prog W .any base t v)
  (F:DataW.Whole enc Tryz.prog Tryz.f4.params.toList Rows.machineForwardSpec.vars false W args.toList s D b)(M:laidMetH Tryz.prog Rows.machineForwardUptoRow.laid W)(x:W.ShapedOpen Tryz.prog)(O:Rows.uptoSmall H (s++D)=true) :
  Calls Tryz.prog 4 args W λe C=>∃v,e=.returned v/\Rows.machineForwardSpec.post enc Tryz.prog Tryz.f4 false true false false W args v C:=by
 have y:=F;obtain⟨p,q,u,N,rfl,R,S⟩:=F;have E:DataW.TrodAll enc Tryz.prog W 0 (λ_=>true) true Tryz.f4.params.toList args.toList s p:=u;rw[Tryz.params4] at E a;obtain⟨v0,Y,o,K,T,q0,z,rfl,rfl,h,V⟩:=trodAll_cons E;obtain⟨k,Z,r,L,U,q1,rfl,rfl,rfl,i,X⟩:=trodAll_cons V;obtain⟨rfl,rfl,rfl⟩:=trodAll_nil X;obtain rfl:args=#[v0,k]:=by cases args;simp_all
 obtain⟨rfl,rfl⟩:=trodVars_none N;have hb:Rows.uptoBulk o+(Rows.uptoBulk r+0)<=1048576:=by have:=of_decide_eq_true O;simpa only[List.append_nil,Rows.uptoBulkAll] using this
 unfold DataW.Trod at h i;rcases h with⟨f0,h⟩
 rcases i with⟨f1,i⟩;obtain⟨B,m,w0,I⟩:=L7 (enc:=enc) (P:=Tryz.prog) (w:=W) (base:=0) (spare:=λ_=>true) (held:=true) (μ:=λ_=>none) vQ f0 42 v0.cells.toList (o,T) AuA h (show Rows.uptoBulk o<=1048576 by omega);obtain⟨l1,n,w1,J⟩:=L7 (enc:=enc) (P:=Tryz.prog) (w:=W) (base:=0) (spare:=λ_=>true) (held:=true) (μ:=λ_=>none) vQ f1 44 k.cells.toList (r,U) Av1 i (show Rows.uptoBulk r<=1048576 by omega);simp only at I J;have G:Value.okWide Tryz.prog W .any base 42 v0:=a 0 42 v0 (by simp) (by simp);simp only[Value.okWide,Tryz.underlying42] at G;obtain⟨c,rfl,_,_⟩:=G;have f:Ao (λ_=>none) (λl=>W.cell? l) (.agg B) (.agg c):=by have:=Ao.agg B c.toList m.len m.one m.at_;simpa using this
 have k1:Value.okWide Tryz.prog W .any base 44 k:=a 1 44 k (by simp) (by simp);simp only[Value.okWide,Tryz.underlying44] at k1;obtain⟨d,rfl,_,_⟩:=k1;have g:Ao (λ_=>none) (λl=>W.cell? l) (.agg l1) (.agg d):=by have:=Ao.agg l1 d.toList n.len n.one n.at_;simpa using this
 refine(Ss (law W M x B w0 (by omega) l1 w1 (by omega)) (VRels.cons f (VRels.cons g VRels.nil_))).mono λe C ⟨Q,A⟩=>?_;subst Q;refine⟨_,rfl,?_⟩;exact YH (tb:=4) Adc (by rw[Tryz.params4];decide +kernel) rfl Tryz.underlying4 rfl rfl y A
end Go.Proofs.YtalbicndcfmbnaaGreatDoor.machineForward
