/-
  CoverRemove, for inputs of a bulk of at most 2^20: the DE returns true for any input, and turns nothing.
-/
import Derived.Test.YtdeldicoigeabaaGreatDoorPaf
import Derived.Test.YtdeldicoigeabaaGreatDoorCards
import Derived.Test.YtdeldicoigeabaaGreatDoorTie
import Derived.WalkKit
import Derived.ProofKit
import Derived.Deep.DeepHandedRow
import Derived.Lay
set_option linter.all false
namespace Go.Proofs.YtdeldicoigeabaaGreatDoor.coverRemove
open Go.ChangeShapes Go.WideShapes Go.RowKit Go.Ir
def OM:List TypeId:=[3,4,9,22,59,57,56,23,28]
theorem own:ownKnob Tryz.prog.godebug=none:=by kernel_rfl
theorem Aqc:laidOutB Tryz.prog=true:=by kernel_rfl
theorem Ask:AiB Tryz.prog OM=true:=by kernel_rfl
theorem Axt:22∈OM:=by decide
theorem Aeh:23∈OM:=by decide
theorem DE(W:World)(j:laidMetH Tryz.prog Rows.coverRemoveUptoRow.laid W)(c:V)(f:F9 Tryz.prog 22 [c])(m:B6 c<=1048576)(a:V)(d:F9 Tryz.prog 23 [a])(k:B6 a<=1048576):An Tryz.prog W 3 [c,a] [] (.b true) []:=by have h:MQ W:=AgS _ (by kernel_rfl) rfl (g:=0) (t:=171) (e:=145) (n:=20) (by kernel_rfl) (by kernel_rfl) (by kernel_rfl) (by kernel_rfl) (by kernel_rfl) (by kernel_rfl) j;obtain⟨ps,rfl,o⟩:=eU _ c (Nat.le_refl _) f;obtain⟨l,rfl,q⟩:=ApS a d;rw[Ey];exact AV W (AiA W h) (λi p=>mE W h i (by omega)) ps l (by omega) (by omega)
set_option maxRecDepth 100000 in
theorem A0(H:Type)(enc:TypeId×Value->H)(W:World)(base:Nat)(args:Array Value)(n F:List (DataW H))(d:List MemPlace)
  (a:∀(j:Nat) t v,Tryz.f3.params[j]?=some t->args[j]?=some v->Value.okWide Tryz.prog W .any base t v)
  (I:DataW.Whole enc Tryz.prog Tryz.f3.params.toList Rows.coverRemoveSpec.vars false W args.toList n F d)(Q:laidMetH Tryz.prog Rows.coverRemoveUptoRow.laid W)(S:Rows.uptoSmall H (n++F)=true) :
  Calls Tryz.prog 3 args W λe A=>∃v,e=.returned v/\Rows.coverRemoveSpec.post enc Tryz.prog Tryz.f3 false true false false W args v A:=by
 have r:=I;obtain⟨p,q,o,R,rfl,U,X⟩:=I;have G:DataW.TrodAll enc Tryz.prog W 0 (λ_=>true) true Tryz.f3.params.toList args.toList n p:=o;rw[Tryz.params3] at G a;obtain⟨v0,ad,g,M,p0,q0,s,rfl,rfl,k,r0⟩:=trodAll_cons G;obtain⟨f,ae,i,N,p1,q1,rfl,rfl,rfl,l,r1⟩:=trodAll_cons r0;obtain⟨rfl,rfl,rfl⟩:=trodAll_nil r1;obtain rfl:args=#[v0,f]:=by cases args;simp_all
 obtain⟨rfl,rfl⟩:=trodVars_none R;have hb:Rows.uptoBulk g+(Rows.uptoBulk i+0)<=1048576:=by have:=of_decide_eq_true S;simpa only[List.append_nil,Rows.uptoBulkAll] using this
 unfold DataW.Trod at k l;rcases k with⟨f0,k⟩
 rcases l with⟨f1,l⟩;obtain⟨Z,D,w0,B⟩:=Aee (enc:=enc) (P:=Tryz.prog) (w:=W) (base:=0) (spare:=λ_=>true) (held:=true) (μ:=λ_=>none) Ask f0 22 v0.cells.toList (g,p0) Axt k (show Rows.uptoBulk g<=1048576 by omega);obtain⟨l1,E,J,C⟩:=Aee (enc:=enc) (P:=Tryz.prog) (w:=W) (base:=0) (spare:=λ_=>true) (held:=true) (μ:=λ_=>none) Ask f1 23 f.cells.toList (i,p1) Aeh l (show Rows.uptoBulk i<=1048576 by omega);simp only at B C;have Y:Value.okWide Tryz.prog W .any base 22 v0:=a 0 22 v0 (by simp) (by simp);have b:∃x,Ap (λ_=>none) (λm=>W.cell? m) x v0/\F9 Tryz.prog 22 [x]/\B6 x<=Rows.uptoBulk g:=by
  have one:∃x,Z=[x]:=by
   cases w0 with
   | st t O vs h _ _=>rw[Tryz.underlying22] at h;cases h
   | _=>exact⟨_,rfl⟩
  obtain⟨x,rfl⟩:=one;simp only[Bb] at B;refine⟨x,?_,w0,by omega⟩;have V:=D.len;cases v0 with
  | agg cs=>simp[Value.okWide,Tryz.underlying22,Cell.okWide,Cell.ok] at Y
  | _=>exact D.at_ 0 _ _ rfl rfl
 obtain⟨x0,b,y,K⟩:=b;have k1:Value.okWide Tryz.prog W .any base 23 f:=a 1 23 f (by simp) (by simp);have c:∃x,Ap (λ_=>none) (λm=>W.cell? m) x f/\F9 Tryz.prog 23 [x]/\B6 x<=Rows.uptoBulk i:=by
  have one:∃x,l1=[x]:=by
   cases J with
   | st t O vs h _ _=>rw[Tryz.underlying23] at h;cases h
   | _=>exact⟨_,rfl⟩
  obtain⟨x,rfl⟩:=one;simp only[Bb] at C;refine⟨x,?_,J,by omega⟩;have V:=E.len;cases f with
  | agg cs=>simp[Value.okWide,Tryz.underlying23,Cell.okWide,Cell.ok] at k1
  | _=>exact E.at_ 0 _ _ rfl rfl
 obtain⟨x1,c,z,L⟩:=c;refine(Aef (DE W Q x0 y (by omega) x1 z (by omega)) (VRels.cons b (VRels.cons c VRels.nil_))).mono λe A ⟨T,u⟩=>?_;subst T;refine⟨_,rfl,?_⟩;exact AgJ (tb:=4) Aqc (by rw[Tryz.params3];decide +kernel) rfl Tryz.underlying4 rfl rfl r u
end Go.Proofs.YtdeldicoigeabaaGreatDoor.coverRemove
