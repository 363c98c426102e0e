/-
  EvalParts, for inputs of a bulk of at most 2^20: the law returns true for any input, and turns nothing.
-/
import Derived.Test.YtalbicndcfmbnaaGreatDoorPag
import Derived.Test.YtalbicndcfmbnaaGreatDoorCards
import Derived.Test.YtalbicndcfmbnaaGreatDoorTie
import Derived.WalkKit
import Derived.ProofKit
import Derived.Deep.DeepHandedRow
import Derived.Lay
set_option linter.unusedVariables false
namespace Go.Proofs.YtalbicndcfmbnaaGreatDoor.evalParts
open Go.ChangeShapes Go.WideShapes Go.RowKit Go.Ir
def Or:List TypeId:=[3,4,9,34,28,30,22,139,137,172,175,173,337,24,25,178,26,180,27,182,31,116,114,118,32,62,5]
theorem own:ownKnob Tryz.prog.godebug=none:=by kernel_rfl
theorem vH:laidOutB Tryz.prog=true:=by kernel_rfl
theorem rJ:AkM Tryz.prog Or=true:=by kernel_rfl
theorem ApU:34∈Or:=by decide
theorem Aq4:5∈Or:=by decide
theorem law(W:World)(hL:laidMetH Tryz.prog Rows.evalPartsUptoRow.laid W)(hSh:W.ShapedOpen Tryz.prog)(cv:List V)(hcv:Ek Tryz.prog 34 cv)(hcb:A6 cv<=1048576)(xa:V)(hxa:Ek Tryz.prog 5 [xa])(hab:Bf xa<=1048576):Am Tryz.prog W 3 [.agg cv,xa] [] (.b true) []:=by
 have hT:BM W:=Y4 _ (by kernel_rfl) rfl (g:=3) (t:=397) (e:=282) (n:=20) (by kernel_rfl) (by kernel_rfl) (by kernel_rfl) (by kernel_rfl) (by kernel_rfl) (by kernel_rfl) hL
 obtain⟨L,ps,vs,iso,hc,b1,b2,b3,b4,b7,b8⟩:=yX cv hcv
 obtain⟨b5,b6⟩:=AaC (l:=vs) (n:=2^20) (by omega)
 obtain⟨z,rfl,hz⟩:=hxa.int_inv Tryz.underlying5
 have h1:IntKind.u8.min=0:=by decide
 have h2:IntKind.u8.max=255:=by decide
 simp only[Lit.wf,Bool.and_eq_true,decide_eq_true_eq] at hz
 rw[hc]
 exact PK W (XE hSh) hT L ps vs iso z (by omega) b7 b8 (by omega) (by omega) (by omega) (by omega) (fun v hv=>by have:=(b6 v hv).2;omega)
set_option maxRecDepth 100000 in
theorem II(H:Type)(enc:TypeId×Value->H)(W:World)(base:Nat)(args:Array Value)(ds gs:List (DataW H))(before:List MemPlace)
  (hval:∀(j:Nat) t v,Tryz.f3.params[j]?=some t->args[j]?=some v->Value.okWide Tryz.prog W .any base t v)
  (hW:DataW.Whole enc Tryz.prog Tryz.f3.params.toList Rows.evalPartsSpec.vars false W args.toList ds gs before)(hL:laidMetH Tryz.prog Rows.evalPartsUptoRow.laid W)(hSh:W.ShapedOpen Tryz.prog)(hc:Rows.uptoSmall H (ds++gs)=true) :
  Calls Tryz.prog 3 args W fun e W'=>∃v,e=.returned v/\Rows.evalPartsSpec.post enc Tryz.prog Tryz.f3 false true false false W args v W':=by
 have hW':=hW
 obtain⟨p,q,hA0,hV,rfl,hfz,hnd⟩:=hW
 have hA:DataW.TrodAll enc Tryz.prog W 0 (fun _=>true) true Tryz.f3.params.toList args.toList ds p:=hA0
 rw[Tryz.params3] at hA hval
 obtain⟨v0,vs0,d0,ds0,p0,q0,hargs,rfl,rfl,h0,r0⟩:=trodAll_cons hA
 obtain⟨v1,vs1,d1,ds1,p1,q1,rfl,rfl,rfl,h1,r1⟩:=trodAll_cons r0
 obtain⟨rfl,rfl,rfl⟩:=trodAll_nil r1
 obtain rfl:args=#[v0,v1]:=by cases args;simp_all
 obtain⟨rfl,rfl⟩:=trodVars_none hV
 have hb:Rows.uptoBulk d0+(Rows.uptoBulk d1+0)<=1048576:=by
  have:=of_decide_eq_true hc
  simpa only[List.append_nil,Rows.uptoBulkAll] using this
 unfold DataW.Trod at h0 h1
 rcases h0 with⟨f0,h0⟩
 rcases h1 with⟨f1,h1⟩
 obtain⟨l0,c0,w0,b0⟩:=L0 (enc:=enc) (P:=Tryz.prog) (w:=W) (base:=0) (spare:=fun _=>true) (held:=true) (μ:=fun _=>none) rJ f0 34 v0.cells.toList (d0,p0) ApU h0 (show Rows.uptoBulk d0<=1048576 by omega)
 obtain⟨l1,c1,w1,b1⟩:=L0 (enc:=enc) (P:=Tryz.prog) (w:=W) (base:=0) (spare:=fun _=>true) (held:=true) (μ:=fun _=>none) rJ f1 5 v1.cells.toList (d1,p1) Aq4 h1 (show Rows.uptoBulk d1<=1048576 by omega)
 simp only at b0 b1
 have k0:Value.okWide Tryz.prog W .any base 34 v0:=hval 0 34 v0 (by simp) (by simp)
 simp only[Value.okWide,Tryz.underlying34] at k0
 obtain⟨cs0,rfl,_,_⟩:=k0
 have rel0:Ap (fun _=>none) (fun ad=>W.cell? ad) (.agg l0) (.agg cs0):=by
  have:=Ap.agg l0 cs0.toList c0.len c0.one c0.at_
  simpa using this
 have k1:Value.okWide Tryz.prog W .any base 5 v1:=hval 1 5 v1 (by simp) (by simp)
 have rel1:∃x,Ap (fun _=>none) (fun ad=>W.cell? ad) x v1/\Ek Tryz.prog 5 [x]/\Bf x<=Rows.uptoBulk d1:=by
  have one:∃x,l1=[x]:=by
   cases w1 with
   | st t fs vs h _ _=>rw[Tryz.underlying5] at h;cases h
   | _=>exact⟨_,rfl⟩
  obtain⟨x,rfl⟩:=one
  simp only[A6] at b1
  refine⟨x,?_,w1,by omega⟩
  have hl:=c1.len
  cases v1 with
  | agg cs=>simp[Value.okWide,Tryz.underlying5,Cell.okWide,Cell.ok] at k1
  | _=>exact c1.at_ 0 _ _ rfl rfl
 obtain⟨x1,rel1,wt1,bx1⟩:=rel1
 refine(Sl (law W hL hSh l0 w0 (by omega) x1 wt1 (by omega)) (VRels.cons rel0 (VRels.cons rel1 VRels.nil_))).mono fun e W' ⟨he,hbl⟩=>?_
 subst he
 refine⟨_,rfl,?_⟩
 exact XY (tb:=4) vH (by rw[Tryz.params3];decide +kernel) rfl Tryz.underlying4 rfl rfl hW' hbl
end Go.Proofs.YtalbicndcfmbnaaGreatDoor.evalParts
