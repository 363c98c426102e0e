/-
  MachineNeeds, for inputs of a bulk of at most 2^20: the law returns true for any input, and turns nothing.
-/
import Derived.Test.YtdcdijfndhdnkaaGreatDoorPaf
import Derived.Test.YtdcdijfndhdnkaaGreatDoorCards
import Derived.Test.YtdcdijfndhdnkaaGreatDoorTie
import Derived.WalkKit
import Derived.ProofKit
import Derived.Deep.DeepHandedRow
import Derived.Lay
import Derived.MakeChecks
set_option linter.unusedVariables false
namespace Go.Proofs.YtdcdijfndhdnkaaGreatDoor.machineNeeds
open Go.ChangeShapes Go.WideShapes Go.RowKit Go.Ir
def plainTs:List TypeId:=[3,4,9,25,22,23,65]
theorem own:ownKnob Tryz.prog.godebug=none:=by kernel_rfl
theorem laidOut:laidOutB Tryz.prog=true:=by kernel_rfl
theorem plainT:plnB Tryz.prog plainTs=true:=by kernel_rfl
theorem mem0:25∈plainTs:=by decide
theorem law (W:World) (hL:laidMetH Tryz.prog Rows.machineNeedsUptoRow.laid W) (cv:List V) (hcv:WtV Tryz.prog 25 cv) (hcb:bulkVs cv<=1048576):RetS Tryz.prog W 3 [.agg cv] [] (.b true) []:=by
 obtain ⟨names,ins,hc,b1,b2⟩:=code_of cv hcv
 have n1:=sumW_len (w:=bw) (l:=names) (fun x=>(bw_pos x).1)
 have n2:=sumW_len (w:=insW) (l:=ins) (fun x=>(bw_pos x.s).1)
 rw [hc]
 refine c_MachineNeeds W names ins (by omega) (by omega) (fun s hs=>?_) (fun x hx=>?_)
 ·have:=sumW_mem (w:=bw) hs;have:=(bw_pos s).2;omega
 ·have:=sumW_mem (w:=insW) hx;have:=(bw_pos x.s).2;unfold insW at *;omega
set_option maxRecDepth 100000 in
theorem contract (H:Type) (enc:TypeId × Value->H) (W:World) (base:Nat) (args:Array Value) (ds gs:List (DataW H)) (before:List MemPlace)
  (hval:∀(j:Nat) t v,Tryz.f3.params[j]? = some t->args[j]? = some v->Value.okWide Tryz.prog W .any base t v)
  (hW:DataW.Whole enc Tryz.prog Tryz.f3.params.toList Rows.machineNeedsSpec.vars false W args.toList ds gs before) (hL:laidMetH Tryz.prog Rows.machineNeedsUptoRow.laid W) (hc:Rows.uptoSmall H (ds++gs)=true) :
  Calls Tryz.prog 3 args W fun e W'=>∃v,e = .returned v/\Rows.machineNeedsSpec.post enc Tryz.prog Tryz.f3 false true false false W args v W':=by
 have hW':=hW
 obtain ⟨p,q,hA0,hV,rfl,hfz,hnd⟩:=hW
 have hA:DataW.TrodAll enc Tryz.prog W 0 (fun _=>true) true Tryz.f3.params.toList args.toList ds p:=hA0
 rw [Tryz.params3] at hA hval
 obtain ⟨v0,vs0,d0,ds0,p0,q0,hargs,rfl,rfl,h0,r0⟩:=trodAll_cons hA
 obtain ⟨rfl,rfl,rfl⟩:=trodAll_nil r0
 obtain rfl:args = #[v0]:=by cases args;simp_all
 obtain ⟨rfl,rfl⟩:=trodVars_none hV
 have hb:Rows.uptoBulk d0+0<=1048576:=by
  have:=of_decide_eq_true hc
  simpa only [List.append_nil,Rows.uptoBulkAll] using this
 unfold DataW.Trod at h0
 rcases h0 with ⟨f0,h0⟩
 obtain ⟨l0,c0,w0,b0⟩:=read_plain (enc:=enc) (P:=Tryz.prog) (w:=W) (base:=0) (spare:=fun _=>true) (held:=true) (μ:=fun _=>none) plainT f0 25 v0.cells.toList (d0,p0) mem0 h0 (show Rows.uptoBulk d0<=1048576 by omega)
 simp only at b0
 have k0:Value.okWide Tryz.prog W .any base 25 v0:=hval 0 25 v0 (by simp) (by simp)
 simp only [Value.okWide,Tryz.underlying25] at k0
 obtain ⟨cs0,rfl,_,_⟩:=k0
 have rel0:VRel (fun _=>none) (fun ad=>W.cell? ad) (.agg l0) (.agg cs0):=by
  have:=VRel.agg l0 cs0.toList c0.len c0.one c0.at_
  simpa using this
 refine (calls_true (law W hL l0 w0 (by omega)) (VRels.cons rel0 VRels.nil_)).mono fun e W' ⟨he,hbl⟩=>?_
 subst he
 refine ⟨_,rfl,?_⟩
 exact post_true (tb:=4) laidOut (by rw [Tryz.params3];decide +kernel) rfl Tryz.underlying4 rfl rfl hW' hbl
end Go.Proofs.YtdcdijfndhdnkaaGreatDoor.machineNeeds
