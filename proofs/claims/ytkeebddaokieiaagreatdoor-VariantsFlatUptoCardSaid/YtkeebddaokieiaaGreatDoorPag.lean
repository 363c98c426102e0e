/-
  VariantsFlat, for inputs of a bulk of at most 2^20: the law returns true for any locale and any message, and turns nothing.
-/
import Derived.Test.YtkeebddaokieiaaGreatDoorPaf
import Derived.Test.YtkeebddaokieiaaGreatDoorCards
import Derived.Test.YtkeebddaokieiaaGreatDoorTie
import Derived.WalkKit
import Derived.ProofKit
import Derived.Deep.DeepHandedRow
import Derived.Lay
import Derived.MakeChecks
set_option linter.all false
set_option linter.unusedVariables false
namespace Go.Proofs.YtkeebddaokieiaaGreatDoor.variantsFlat
open Go.ChangeShapes Go.WideShapes Go.RowKit Go.Ir
def plainTs:List TypeId:=[3,4,9,28,31,85,83,97,30,22,156,154,152,151,149,148,24,25,417,26,419,27,421]
theorem own:ownKnob Tryz.prog.godebug=none:=by kernel_rfl
theorem laidOut:laidOutB Tryz.prog=true:=by kernel_rfl
theorem plainT:plnB Tryz.prog plainTs=true:=by kernel_rfl
theorem mem30:30∈plainTs:=by decide
theorem mem31:31∈plainTs:=by decide
theorem law (W:World) (hL:laidMetH Tryz.prog Rows.variantsFlatUptoRow.laid W) (lv:List V) (ps:List Part) (hw:wtPs ps<=1048576) (hlv:WtV Tryz.prog 30 lv) (hlb:bulkVs lv<=1048576):RetS Tryz.prog W 3 [.agg lv,.sl (encPs ps)] [] (.b true) []:=by
 obtain ⟨l,hl,hr,hb⟩:=loc_of lv hlv
 rw [hl,encPs_map]
 exact c_VariantsFlat W l ps hr (by omega) (by omega)
set_option maxRecDepth 100000 in
theorem contract (H:Type) (enc:TypeId × Value->H) (W:World) (base:Nat) (args:Array Value) (ds gs:List (DataW H)) (before:List MemPlace)
  (hval:∀(j:Nat) t v,Tryz.f3.params[j]? = some t->args[j]? = some v->Value.okWide Tryz.prog W .any base t v)
  (hW:DataW.Whole enc Tryz.prog Tryz.f3.params.toList Rows.variantsFlatSpec.vars false W args.toList ds gs before) (hL:laidMetH Tryz.prog Rows.variantsFlatUptoRow.laid W) (hc:Rows.uptoSmall H (ds++gs)=true) :
  Calls Tryz.prog 3 args W fun e W'=>∃v,e = .returned v/\Rows.variantsFlatSpec.post enc Tryz.prog Tryz.f3 false true false false W args v W':=by
 have hW':=hW
 obtain ⟨p,q,hA0,hV,rfl,hfz,hnd⟩:=hW
 have hA:DataW.TrodAll enc Tryz.prog W 0 (fun _=>true) true Tryz.f3.params.toList args.toList ds p:=hA0
 rw [Tryz.params3] at hA hval
 obtain ⟨v0,vs0,d0,ds0,p0,q0,hargs,rfl,rfl,h0,r0⟩:=trodAll_cons hA
 obtain ⟨v1,vs1,d1,ds1,p1,q1,rfl,rfl,rfl,h1,r1⟩:=trodAll_cons r0
 obtain ⟨rfl,rfl,rfl⟩:=trodAll_nil r1
 obtain rfl:args = #[v0,v1]:=by cases args;simp_all
 obtain ⟨rfl,rfl⟩:=trodVars_none hV
 have hb:Rows.uptoBulk d0+(Rows.uptoBulk d1+0)<=1048576:=by
  have:=of_decide_eq_true hc
  simpa only [List.append_nil,Rows.uptoBulkAll] using this
 unfold DataW.Trod at h0 h1
 rcases h0 with ⟨f0,h0⟩
 rcases h1 with ⟨f1,h1⟩
 obtain ⟨l0,c0,w0,b0⟩:=read_plain (enc:=enc) (P:=Tryz.prog) (w:=W) (base:=0) (spare:=fun _=>true) (held:=true) (μ:=fun _=>none) plainT f0 30 v0.cells.toList (d0,p0) mem30 h0 (show Rows.uptoBulk d0<=1048576 by omega)
 obtain ⟨l1,c1,w1,b1⟩:=read_plain (enc:=enc) (P:=Tryz.prog) (w:=W) (base:=0) (spare:=fun _=>true) (held:=true) (μ:=fun _=>none) plainT f1 31 v1.cells.toList (d1,p1) mem31 h1 (show Rows.uptoBulk d1<=1048576 by omega)
 simp only at b0 b1
 have k0:Value.okWide Tryz.prog W .any base 30 v0:=hval 0 30 v0 (by simp) (by simp)
 have k1:Value.okWide Tryz.prog W .any base 31 v1:=hval 1 31 v1 (by simp) (by simp)
 simp only [Value.okWide,Tryz.underlying30] at k0
 obtain ⟨cs0,rfl,_,_⟩:=k0
 have rel0:VRel (fun _=>none) (fun ad=>W.cell? ad) (.agg l0) (.agg cs0):=by
  have:=VRel.agg l0 cs0.toList c0.len c0.one c0.at_
  simpa using this
 have rel1:∃ps,VRel (fun _=>none) (fun ad=>W.cell? ad) (.sl (encPs ps)) v1/\wtPs ps<=1048576:=by
  have one:∃x,l1=[x]:=by
   cases w1 with
   | st t fs vs h _ _=>rw [Tryz.underlying31] at h;cases h
   | _=>exact ⟨_,rfl⟩
  obtain ⟨x,rfl⟩:=one
  obtain ⟨ps,rfl,hps⟩:=parts_of _ x (Nat.le_refl _) w1
  simp only [bulkVs] at b1
  refine ⟨ps,?_,by omega⟩
  have hl:=c1.len
  cases v1 with
  | agg cs=>simp [Value.okWide,Tryz.underlying31,Cell.okWide,Cell.ok] at k1
  | _=>exact c1.at_ 0 _ _ rfl rfl
 obtain ⟨ps,rel1,hps⟩:=rel1
 refine (calls_true (law W hL l0 ps hps w0 (by omega)) (VRels.cons rel0 (VRels.cons rel1 VRels.nil_))).mono fun e W' ⟨he,hbl⟩=>?_
 subst he
 refine ⟨_,rfl,?_⟩
 exact post_true (tb:=4) laidOut (by rw [Tryz.params3];decide +kernel) rfl Tryz.underlying4 rfl rfl hW' hbl
end Go.Proofs.YtkeebddaokieiaaGreatDoor.variantsFlat
