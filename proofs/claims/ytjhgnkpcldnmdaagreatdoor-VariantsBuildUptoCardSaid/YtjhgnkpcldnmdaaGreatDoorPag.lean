/-
  VariantsBuild, for inputs of a bulk of at most 2^20: the law returns true for any input, and turns nothing.
-/
import Derived.Test.YtjhgnkpcldnmdaaGreatDoorPaf
import Derived.Test.YtjhgnkpcldnmdaaGreatDoorCards
import Derived.Test.YtjhgnkpcldnmdaaGreatDoorTie
import Derived.WalkKit
import Derived.ProofKit
import Derived.Deep.DeepHandedRow
import Derived.Lay
set_option linter.unusedVariables false
namespace Go.Proofs.YtjhgnkpcldnmdaaGreatDoor.variantsBuild
open Go.ChangeShapes Go.WideShapes Go.RowKit Go.Ir
def plainTs:List TypeId:=[3,4,9,31,75,73,77,56,112]
theorem own:ownKnob Tryz.prog.godebug=none:=by kernel_rfl
theorem laidOut:laidOutB Tryz.prog=true:=by kernel_rfl
theorem plainT:plnB Tryz.prog plainTs=true:=by kernel_rfl
theorem mem0:31∈plainTs:=by decide
theorem mem1:56∈plainTs:=by decide
theorem law (W:World) (hL:laidMetH Tryz.prog Rows.variantsBuildUptoRow.laid W) (xp:V) (hxp:WtV Tryz.prog 31 [xp]) (hpb:bulkV xp<=1048576) (xl:V) (hxl:WtV Tryz.prog 56 [xl]) (hlb:bulkV xl<=1048576):RetS Tryz.prog W 5 [xp,xl] [] (.b true) []:=by
 have hT:PowTab W:=powTab_of _ (by kernel_rfl) rfl (g:=0) (t:=238) (e:=219) (n:=20) (by kernel_rfl) (by kernel_rfl) (by kernel_rfl) (by kernel_rfl) (by kernel_rfl) (by kernel_rfl) hL
 obtain ⟨ps,rfl,hps⟩:=parts_of _ xp (Nat.le_refl _) hxp
 obtain ⟨l,rfl,h1,h2⟩:=leaves_of xl hxl
 rw [encPs_map]
 exact c_VariantsBuild W hT ps l (by omega) (by omega) (by omega)
set_option maxRecDepth 100000 in
theorem contract (H:Type) (enc:TypeId × Value->H) (W:World) (base:Nat) (args:Array Value) (ds gs:List (DataW H)) (before:List MemPlace)
  (hval:∀(j:Nat) t v,Tryz.f5.params[j]? = some t->args[j]? = some v->Value.okWide Tryz.prog W .any base t v)
  (hW:DataW.Whole enc Tryz.prog Tryz.f5.params.toList Rows.variantsBuildSpec.vars false W args.toList ds gs before) (hL:laidMetH Tryz.prog Rows.variantsBuildUptoRow.laid W) (hc:Rows.uptoSmall H (ds++gs)=true) :
  Calls Tryz.prog 5 args W fun e W'=>∃v,e = .returned v/\Rows.variantsBuildSpec.post enc Tryz.prog Tryz.f5 false true false false W args v W':=by
 have hW':=hW
 obtain ⟨p,q,hA0,hV,rfl,hfz,hnd⟩:=hW
 have hA:DataW.TrodAll enc Tryz.prog W 0 (fun _=>true) true Tryz.f5.params.toList args.toList ds p:=hA0
 rw [Tryz.params5] at hA hval
 obtain ⟨v0,vs0,d0,ds0,p0,q0,hargs,rfl,rfl,h0,r0⟩:=trodAll_cons hA
 obtain ⟨v1,vs1,d1,ds1,p1,q1,rfl,rfl,rfl,h1,r1⟩:=trodAll_cons r0
 obtain ⟨rfl,rfl,rfl⟩:=trodAll_nil r1
 obtain rfl:args = #[v0,v1]:=by cases args;simp_all
 obtain ⟨rfl,rfl⟩:=trodVars_none hV
 have hb:Rows.uptoBulk d0+(Rows.uptoBulk d1+0)<=1048576:=by
  have:=of_decide_eq_true hc
  simpa only [List.append_nil,Rows.uptoBulkAll] using this
 unfold DataW.Trod at h0 h1
 rcases h0 with ⟨f0,h0⟩
 rcases h1 with ⟨f1,h1⟩
 obtain ⟨l0,c0,w0,b0⟩:=read_plain (enc:=enc) (P:=Tryz.prog) (w:=W) (base:=0) (spare:=fun _=>true) (held:=true) (μ:=fun _=>none) plainT f0 31 v0.cells.toList (d0,p0) mem0 h0 (show Rows.uptoBulk d0<=1048576 by omega)
 obtain ⟨l1,c1,w1,b1⟩:=read_plain (enc:=enc) (P:=Tryz.prog) (w:=W) (base:=0) (spare:=fun _=>true) (held:=true) (μ:=fun _=>none) plainT f1 56 v1.cells.toList (d1,p1) mem1 h1 (show Rows.uptoBulk d1<=1048576 by omega)
 simp only at b0 b1
 have k0:Value.okWide Tryz.prog W .any base 31 v0:=hval 0 31 v0 (by simp) (by simp)
 have rel0:∃x,VRel (fun _=>none) (fun ad=>W.cell? ad) x v0/\WtV Tryz.prog 31 [x]/\bulkV x<=Rows.uptoBulk d0:=by
  have one:∃x,l0=[x]:=by
   cases w0 with
   | st t fs vs h _ _=>rw [Tryz.underlying31] at h;cases h
   | _=>exact ⟨_,rfl⟩
  obtain ⟨x,rfl⟩:=one
  simp only [bulkVs] at b0
  refine ⟨x,?_,w0,by omega⟩
  have hl:=c0.len
  cases v0 with
  | agg cs=>simp [Value.okWide,Tryz.underlying31,Cell.okWide,Cell.ok] at k0
  | _=>exact c0.at_ 0 _ _ rfl rfl
 obtain ⟨x0,rel0,wt0,bx0⟩:=rel0
 have k1:Value.okWide Tryz.prog W .any base 56 v1:=hval 1 56 v1 (by simp) (by simp)
 have rel1:∃x,VRel (fun _=>none) (fun ad=>W.cell? ad) x v1/\WtV Tryz.prog 56 [x]/\bulkV x<=Rows.uptoBulk d1:=by
  have one:∃x,l1=[x]:=by
   cases w1 with
   | st t fs vs h _ _=>rw [Tryz.underlying56] at h;cases h
   | _=>exact ⟨_,rfl⟩
  obtain ⟨x,rfl⟩:=one
  simp only [bulkVs] at b1
  refine ⟨x,?_,w1,by omega⟩
  have hl:=c1.len
  cases v1 with
  | agg cs=>simp [Value.okWide,Tryz.underlying56,Cell.okWide,Cell.ok] at k1
  | _=>exact c1.at_ 0 _ _ rfl rfl
 obtain ⟨x1,rel1,wt1,bx1⟩:=rel1
 refine (calls_true (law W hL x0 wt0 (by omega) x1 wt1 (by omega)) (VRels.cons rel0 (VRels.cons rel1 VRels.nil_))).mono fun e W' ⟨he,hbl⟩=>?_
 subst he
 refine ⟨_,rfl,?_⟩
 exact post_true (tb:=4) laidOut (by rw [Tryz.params5];decide +kernel) rfl Tryz.underlying4 rfl rfl hW' hbl
end Go.Proofs.YtjhgnkpcldnmdaaGreatDoor.variantsBuild
