/-
  EvalIsolates, for inputs of a bulk of at most 2^20: the law returns true for any input, and turns nothing.
-/
import Derived.Test.YtmlnblijickboaaGreatDoorPag
import Derived.Test.YtmlnblijickboaaGreatDoorCards
import Derived.Test.YtmlnblijickboaaGreatDoorTie
import Derived.ProofKit
import Derived.Deep.DeepHandedRow
import Derived.Lay
set_option linter.all false
namespace Go.Proofs.YtmlnblijickboaaGreatDoor.evalIsolates
open Go.ChangeShapes Go.WideShapes Go.RowKit Go.Ir
def XA:List TypeId:=[3,4,9,34,28,30,22,96,94,119,122,120,185,24,25,125,26,127,27,129,31,74,72,76,32,43]
theorem own:ownKnob Tryz.prog.godebug=none:=by kernel_rfl
theorem AaQ:laidOutB Tryz.prog=true:=by kernel_rfl
theorem AkU:AmV Tryz.prog XA=true:=by kernel_rfl
theorem Av8:34∈XA:=by decide
theorem law(W:World)(m:laidMetH Tryz.prog Rows.evalIsolatesUptoRow.laid W)(a:W.ShapedOpen Tryz.prog)(c:List V)(d:Fe Tryz.prog 34 c)(p:AE c<=1048576):An Tryz.prog W 3 [.agg c] [] (.b true) []:=by have h:Ca W:=ZA _ (by kernel_rfl) rfl (g:=3) (t:=291) (e:=246) (n:=20) (by kernel_rfl) (by kernel_rfl) (by kernel_rfl) (by kernel_rfl) (by kernel_rfl) (by kernel_rfl) m;obtain⟨L,ps,vs,f,o,r,s,u,w,j,k⟩:=Ac9 c d;obtain⟨x,i⟩:=zM (l:=vs) (n:=2^20) (by omega);rw[o];exact Mm W (mQ W (Og a) h) (Og a) h L ps vs f j k (by omega) (by omega) (by omega) (by omega) (λv q=>by have:=(i v q).2;omega)
set_option maxRecDepth 100000 in
theorem Kg(H:Type)(enc:TypeId×Value->H)(W:World)(base:Nat)(args:Array Value)(i u:List (DataW H))(a:List MemPlace)
  (b:∀(j:Nat) t v,Tryz.f3.params[j]?=some t->args[j]?=some v->Value.okWide Tryz.prog W .any base t v)
  (y:DataW.Whole enc Tryz.prog Tryz.f3.params.toList Rows.evalIsolatesSpec.vars false W args.toList i u a)(D:laidMetH Tryz.prog Rows.evalIsolatesUptoRow.laid W)(l:W.ShapedOpen Tryz.prog)(F:Rows.uptoSmall H (i++u)=true) :
  Calls Tryz.prog 3 args W λe s=>∃v,e=.returned v/\Rows.evalIsolatesSpec.post enc Tryz.prog Tryz.f3 false true false false W args v s:=by
 have m:=y;obtain⟨p,q,k,E,rfl,I,J⟩:=y;have x:DataW.TrodAll enc Tryz.prog W 0 (λ_=>true) true Tryz.f3.params.toList args.toList i p:=k;rw[Tryz.params3] at x b;obtain⟨v0,M,h,C,K,O,n,rfl,rfl,f,L⟩:=trodAll_cons x;obtain⟨rfl,rfl,rfl⟩:=trodAll_nil L;obtain rfl:args=#[v0]:=by cases args;simp_all
 obtain⟨rfl,rfl⟩:=trodVars_none E;have N:Rows.uptoBulk h+0<=1048576:=by have:=of_decide_eq_true F;simpa only[List.append_nil,Rows.uptoBulkAll] using this
 unfold DataW.Trod at f;rcases f with⟨f0,f⟩
 obtain⟨r,g,w0,B⟩:=Uu (enc:=enc) (P:=Tryz.prog) (w:=W) (base:=0) (spare:=λ_=>true) (held:=true) (μ:=λ_=>none) AkU f0 34 v0.cells.toList (h,K) Av8 f (show Rows.uptoBulk h<=1048576 by omega);simp only at B;have z:Value.okWide Tryz.prog W .any base 34 v0:=b 0 34 v0 (by simp) (by simp);simp only[Value.okWide,Tryz.underlying34] at z;obtain⟨c,rfl,_,_⟩:=z;have d:Aq (λ_=>none) (λA=>W.cell? A) (.agg r) (.agg c):=by have:=Aq.agg r c.toList g.len g.one g.at_;simpa using this
 refine(Ua (law W D l r w0 (by omega)) (VRels.cons d VRels.nil_)).mono λe s ⟨G,o⟩=>?_;subst G;refine⟨_,rfl,?_⟩;exact YT (tb:=4) AaQ (by rw[Tryz.params3];decide +kernel) rfl Tryz.underlying4 rfl rfl m o
end Go.Proofs.YtmlnblijickboaaGreatDoor.evalIsolates
