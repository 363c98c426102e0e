/-
  EvalFlat, for inputs of a bulk of at most 2^20: the yR returns true for any input, and turns nothing.
-/
import Derived.Test.YtkejfpeffolhpaaGreatDoorPag
import Derived.Test.YtkejfpeffolhpaaGreatDoorCards
import Derived.Test.YtkejfpeffolhpaaGreatDoorTie
import Derived.ProofKit
import Derived.Deep.DeepHandedRow
import Derived.Lay
set_option linter.all false
namespace Go.Proofs.YtkejfpeffolhpaaGreatDoor.evalFlat
open Go.ChangeShapes Go.WideShapes Go.RowKit Go.Ir
def Xj:List TypeId:=[3,4,9,34,28,30,22,113,111,154,158,156,172,24,25,193,26,195,27,197,31,96,94,101,32,55]
theorem own:ownKnob Tryz.prog.godebug=none:=by kernel_rfl
theorem Acb:laidOutB Tryz.prog=true:=by kernel_rfl
theorem AnQ:AtU Tryz.prog Xj=true:=by kernel_rfl
theorem Ave:34∈Xj:=by decide
theorem yR(W:World)(k:laidMetH Tryz.prog Rows.evalFlatUptoRow.laid W)(c:W.ShapedOpen Tryz.prog)(a:List V)(d:FU Tryz.prog 34 a)(p:AF a<=1048576):Ak Tryz.prog W 3 [.agg a] [] (.b true) []:=by have m:Cu W:=eX _ (by kernel_rfl) rfl (g:=5) (t:=362) (e:=246) (n:=20) (by kernel_rfl) (by kernel_rfl) (by kernel_rfl) (by kernel_rfl) (by kernel_rfl) (by kernel_rfl) k;obtain⟨L,ps,vs,f,o,r,s,u,w,i,j⟩:=AcO a d;obtain⟨x,h⟩:=AbT (l:=vs) (n:=2^20) (by omega);rw[o];exact VH W (fC c) m L ps vs f i j (by omega) (by omega) (by omega) (by omega) (λv q=>by have:=(h v q).2;omega)
set_option maxRecDepth 100000 in
theorem Lo(H:Type)(enc:TypeId×Value->H)(W:World)(base:Nat)(args:Array Value)(i u:List (DataW H))(a:List MemPlace)
  (b:∀(j:Nat) t v,Tryz.f3.params[j]?=some t->args[j]?=some v->Value.okWide Tryz.prog W .any base t v)
  (y:DataW.Whole enc Tryz.prog Tryz.f3.params.toList Rows.evalFlatSpec.vars false W args.toList i u a)(D:laidMetH Tryz.prog Rows.evalFlatUptoRow.laid W)(l:W.ShapedOpen Tryz.prog)(F:Rows.uptoSmall H (i++u)=true) :
  Calls Tryz.prog 3 args W λe s=>∃v,e=.returned v/\Rows.evalFlatSpec.post enc Tryz.prog Tryz.f3 false true false false W args v s:=by
 have m:=y;obtain⟨p,q,k,E,rfl,I,J⟩:=y;have x:DataW.TrodAll enc Tryz.prog W 0 (λ_=>true) true Tryz.f3.params.toList args.toList i p:=k;rw[Tryz.params3] at x b;obtain⟨v0,M,h,C,K,O,n,rfl,rfl,f,L⟩:=trodAll_cons x;obtain⟨rfl,rfl,rfl⟩:=trodAll_nil L;obtain rfl:args=#[v0]:=by cases args;simp_all
 obtain⟨rfl,rfl⟩:=trodVars_none E;have N:Rows.uptoBulk h+0<=1048576:=by have:=of_decide_eq_true F;simpa only[List.append_nil,Rows.uptoBulkAll] using this
 unfold DataW.Trod at f;rcases f with⟨f0,f⟩
 obtain⟨r,g,w0,B⟩:=WS (enc:=enc) (P:=Tryz.prog) (w:=W) (base:=0) (spare:=λ_=>true) (held:=true) (μ:=λ_=>none) AnQ f0 34 v0.cells.toList (h,K) Ave f (show Rows.uptoBulk h<=1048576 by omega);simp only at B;have z:Value.okWide Tryz.prog W .any base 34 v0:=b 0 34 v0 (by simp) (by simp);simp only[Value.okWide,Tryz.underlying34] at z;obtain⟨c,rfl,_,_⟩:=z;have d:Ap (λ_=>none) (λA=>W.cell? A) (.agg r) (.agg c):=by have:=Ap.agg r c.toList g.len g.one g.at_;simpa using this
 refine(V5 (yR W D l r w0 (by omega)) (VRels.cons d VRels.nil_)).mono λe s ⟨G,o⟩=>?_;subst G;refine⟨_,rfl,?_⟩;exact fQ (tb:=4) Acb (by rw[Tryz.params3];decide +kernel) rfl Tryz.underlying4 rfl rfl m o
end Go.Proofs.YtkejfpeffolhpaaGreatDoor.evalFlat
