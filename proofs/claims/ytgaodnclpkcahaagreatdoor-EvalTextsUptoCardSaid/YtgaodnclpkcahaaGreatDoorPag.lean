/-
  EvalTexts, for inputs of a bulk of at most 2^20: the law returns true for any input, and turns nothing.
-/
import Derived.Test.YtgaodnclpkcahaaGreatDoorPaf
import Derived.Test.YtgaodnclpkcahaaGreatDoorCards
import Derived.Test.YtgaodnclpkcahaaGreatDoorTie
import Derived.WalkKit
import Derived.ProofKit
import Derived.Deep.DeepHandedRow
import Derived.Lay
import Derived.MakeChecks
set_option linter.unusedVariables false
namespace Go.Proofs.YtgaodnclpkcahaaGreatDoor.evalTexts
open Go.ChangeShapes Go.WideShapes Go.RowKit Go.Ir
def plainTs:List TypeId:=[3,4,9,34,28,30,22,87,85,113,116,114,217,24,25,119,26,121,27,123,31,43,41,75,32,47]
theorem own:ownKnob Tryz.prog.godebug=none:=by kernel_rfl
theorem laidOut:laidOutB Tryz.prog=true:=by kernel_rfl
theorem plainT:plnB Tryz.prog plainTs=true:=by kernel_rfl
theorem mem0:34∈plainTs:=by decide
theorem mem1:30∈plainTs:=by decide
theorem law (W:World) (hL:laidMetH Tryz.prog Rows.evalTextsUptoRow.laid W) (cv:List V) (hcv:WtV Tryz.prog 34 cv) (hcb:bulkVs cv<=1048576) (lv:List V) (hlv:WtV Tryz.prog 30 lv) (hlb:bulkVs lv<=1048576):RetS Tryz.prog W 3 [.agg cv,.agg lv] [] (.b true) []:=by
 obtain ⟨L,ps,vs,iso,hc,b1,b2,b3,b4⟩:=case_of cv hcv
 obtain ⟨M,hM,_,_⟩:=lcl_of lv hlv
 obtain ⟨b5,b6⟩:=vals_bd (l:=vs) (n:=2^20) (by omega)
 rw [hc,hM]
 exact c_EvalTexts W L M ps vs iso (by omega) (by omega) (by omega) (by omega) (fun v hv=>by have:=(b6 v hv).2;omega)
set_option maxRecDepth 100000 in
theorem contract (H:Type) (enc:TypeId × Value->H) (W:World) (base:Nat) (args:Array Value) (ds gs:List (DataW H)) (before:List MemPlace)
  (hval:∀(j:Nat) t v,Tryz.f3.params[j]? = some t->args[j]? = some v->Value.okWide Tryz.prog W .any base t v)
  (hW:DataW.Whole enc Tryz.prog Tryz.f3.params.toList Rows.evalTextsSpec.vars false W args.toList ds gs before) (hL:laidMetH Tryz.prog Rows.evalTextsUptoRow.laid W) (hc:Rows.uptoSmall H (ds++gs)=true) :
  Calls Tryz.prog 3 args W fun e W'=>∃v,e = .returned v/\Rows.evalTextsSpec.post enc Tryz.prog Tryz.f3 false true false false W args v W':=by
 have hW':=hW
 obtain ⟨p,q,hA0,hV,rfl,hfz,hnd⟩:=hW
 have hA:DataW.TrodAll enc Tryz.prog W 0 (fun _=>true) true Tryz.f3.params.toList args.toList ds p:=hA0
 rw [Tryz.params3] at hA hval
 obtain ⟨v0,vs0,d0,ds0,p0,q0,hargs,rfl,rfl,h0,r0⟩:=trodAll_cons hA
 obtain ⟨v1,vs1,d1,ds1,p1,q1,rfl,rfl,rfl,h1,r1⟩:=trodAll_cons r0
 obtain ⟨rfl,rfl,rfl⟩:=trodAll_nil r1
 obtain rfl:args = #[v0,v1]:=by cases args;simp_all
 obtain ⟨rfl,rfl⟩:=trodVars_none hV
 have hb:Rows.uptoBulk d0+(Rows.uptoBulk d1+0)<=1048576:=by
  have:=of_decide_eq_true hc
  simpa only [List.append_nil,Rows.uptoBulkAll] using this
 unfold DataW.Trod at h0 h1
 rcases h0 with ⟨f0,h0⟩
 rcases h1 with ⟨f1,h1⟩
 obtain ⟨l0,c0,w0,b0⟩:=read_plain (enc:=enc) (P:=Tryz.prog) (w:=W) (base:=0) (spare:=fun _=>true) (held:=true) (μ:=fun _=>none) plainT f0 34 v0.cells.toList (d0,p0) mem0 h0 (show Rows.uptoBulk d0<=1048576 by omega)
 obtain ⟨l1,c1,w1,b1⟩:=read_plain (enc:=enc) (P:=Tryz.prog) (w:=W) (base:=0) (spare:=fun _=>true) (held:=true) (μ:=fun _=>none) plainT f1 30 v1.cells.toList (d1,p1) mem1 h1 (show Rows.uptoBulk d1<=1048576 by omega)
 simp only at b0 b1
 have k0:Value.okWide Tryz.prog W .any base 34 v0:=hval 0 34 v0 (by simp) (by simp)
 simp only [Value.okWide,Tryz.underlying34] at k0
 obtain ⟨cs0,rfl,_,_⟩:=k0
 have rel0:VRel (fun _=>none) (fun ad=>W.cell? ad) (.agg l0) (.agg cs0):=by
  have:=VRel.agg l0 cs0.toList c0.len c0.one c0.at_
  simpa using this
 have k1:Value.okWide Tryz.prog W .any base 30 v1:=hval 1 30 v1 (by simp) (by simp)
 simp only [Value.okWide,Tryz.underlying30] at k1
 obtain ⟨cs1,rfl,_,_⟩:=k1
 have rel1:VRel (fun _=>none) (fun ad=>W.cell? ad) (.agg l1) (.agg cs1):=by
  have:=VRel.agg l1 cs1.toList c1.len c1.one c1.at_
  simpa using this
 refine (calls_true (law W hL l0 w0 (by omega) l1 w1 (by omega)) (VRels.cons rel0 (VRels.cons rel1 VRels.nil_))).mono fun e W' ⟨he,hbl⟩=>?_
 subst he
 refine ⟨_,rfl,?_⟩
 exact post_true (tb:=4) laidOut (by rw [Tryz.params3];decide +kernel) rfl Tryz.underlying4 rfl rfl hW' hbl
end Go.Proofs.YtgaodnclpkcahaaGreatDoor.evalTexts
