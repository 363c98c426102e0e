/-
  EvalValues, for inputs of a bulk of at most 2^20: the law returns true for any input, and turns nothing.
-/
import Derived.Test.YtalbicndcfmbnaaGreatDoorPag
import Derived.Test.YtalbicndcfmbnaaGreatDoorCards
import Derived.Test.YtalbicndcfmbnaaGreatDoorTie
import Derived.WalkKit
import Derived.ProofKit
import Derived.Deep.DeepHandedRow
import Derived.Lay
set_option linter.unusedVariables false
namespace Go.Proofs.YtalbicndcfmbnaaGreatDoor.evalValues
open Go.ChangeShapes Go.WideShapes Go.RowKit Go.Ir
def PC:List TypeId:=[3,4,9,34,28,30,22,139,137,172,175,173,337,24,25,178,26,180,27,182,31,116,114,118,32,62]
theorem own:ownKnob Tryz.prog.godebug=none:=by kernel_rfl
theorem AcE:laidOutB Tryz.prog=true:=by kernel_rfl
theorem pR:AmG Tryz.prog PC=true:=by kernel_rfl
theorem At7:34∈PC:=by decide
theorem Ate:62∈PC:=by decide
theorem law(W:World)(p:laidMetH Tryz.prog Rows.evalValuesUptoRow.laid W)(d:W.ShapedOpen Tryz.prog)(a:List V)(f:EN Tryz.prog 34 a)(s:A8 a<=1048576)(c:List V)(h:EN Tryz.prog 62 c)(y:A8 c<=1048576):An Tryz.prog W 7 [.agg a,.agg c] [] (.b true) []:=by have q:BV W:=aD _ (by kernel_rfl) rfl (g:=3) (t:=397) (e:=282) (n:=20) (by kernel_rfl) (by kernel_rfl) (by kernel_rfl) (by kernel_rfl) (by kernel_rfl) (by kernel_rfl) p;obtain⟨L,ps,vs,i,r,z,A,B,C,m,o⟩:=AcB a f;obtain⟨more,u,w⟩:=dP c h;obtain⟨D,k⟩:=Aa8 (l:=vs) (n:=2^20) (by omega);have j:more.wt=1+more.name.length+more.text.length+more.list.length:=rfl;rw[r,u];exact PJ W (bV d) q L ps vs i more m o (by omega) (by omega) (by omega) (by omega) (λv x=>by have:=(k v x).2;omega) (by omega)
set_option maxRecDepth 100000 in
theorem Ke(H:Type)(enc:TypeId×Value->H)(W:World)(base:Nat)(args:Array Value)(s D:List (DataW H))(b:List MemPlace)
  (a:∀(j:Nat) t v,Tryz.f7.params[j]?=some t->args[j]?=some v->Value.okWide Tryz.prog W .any base t v)
  (F:DataW.Whole enc Tryz.prog Tryz.f7.params.toList Rows.evalValuesSpec.vars false W args.toList s D b)(M:laidMetH Tryz.prog Rows.evalValuesUptoRow.laid W)(x:W.ShapedOpen Tryz.prog)(O:Rows.uptoSmall H (s++D)=true) :
  Calls Tryz.prog 7 args W λe C=>∃v,e=.returned v/\Rows.evalValuesSpec.post enc Tryz.prog Tryz.f7 false true false false W args v C:=by
 have y:=F;obtain⟨p,q,u,N,rfl,R,S⟩:=F;have E:DataW.TrodAll enc Tryz.prog W 0 (λ_=>true) true Tryz.f7.params.toList args.toList s p:=u;rw[Tryz.params7] at E a;obtain⟨v0,Y,o,K,T,q0,z,rfl,rfl,h,V⟩:=trodAll_cons E;obtain⟨k,Z,r,L,U,q1,rfl,rfl,rfl,i,X⟩:=trodAll_cons V;obtain⟨rfl,rfl,rfl⟩:=trodAll_nil X;obtain rfl:args=#[v0,k]:=by cases args;simp_all
 obtain⟨rfl,rfl⟩:=trodVars_none N;have hb:Rows.uptoBulk o+(Rows.uptoBulk r+0)<=1048576:=by have:=of_decide_eq_true O;simpa only[List.append_nil,Rows.uptoBulkAll] using this
 unfold DataW.Trod at h i;rcases h with⟨f0,h⟩
 rcases i with⟨f1,i⟩;obtain⟨B,m,w0,I⟩:=MX (enc:=enc) (P:=Tryz.prog) (w:=W) (base:=0) (spare:=λ_=>true) (held:=true) (μ:=λ_=>none) pR f0 34 v0.cells.toList (o,T) At7 h (show Rows.uptoBulk o<=1048576 by omega);obtain⟨l1,n,w1,J⟩:=MX (enc:=enc) (P:=Tryz.prog) (w:=W) (base:=0) (spare:=λ_=>true) (held:=true) (μ:=λ_=>none) pR f1 62 k.cells.toList (r,U) Ate i (show Rows.uptoBulk r<=1048576 by omega);simp only at I J;have G:Value.okWide Tryz.prog W .any base 34 v0:=a 0 34 v0 (by simp) (by simp);simp only[Value.okWide,Tryz.underlying34] at G;obtain⟨c,rfl,_,_⟩:=G;have f:Ap (λ_=>none) (λl=>W.cell? l) (.agg B) (.agg c):=by have:=Ap.agg B c.toList m.len m.one m.at_;simpa using this
 have k1:Value.okWide Tryz.prog W .any base 62 k:=a 1 62 k (by simp) (by simp);simp only[Value.okWide,Tryz.underlying62] at k1;obtain⟨d,rfl,_,_⟩:=k1;have g:Ap (λ_=>none) (λl=>W.cell? l) (.agg l1) (.agg d):=by have:=Ap.agg l1 d.toList n.len n.one n.at_;simpa using this
 refine(Tk (law W M x B w0 (by omega) l1 w1 (by omega)) (VRels.cons f (VRels.cons g VRels.nil_))).mono λe C ⟨Q,A⟩=>?_;subst Q;refine⟨_,rfl,?_⟩;exact Y9 (tb:=4) AcE (by rw[Tryz.params7];decide +kernel) rfl Tryz.underlying4 rfl rfl y A
end Go.Proofs.YtalbicndcfmbnaaGreatDoor.evalValues
