/-
  VariantsOne, for inputs of a bulk of at most 2^20: the law returns true for any input, and turns nothing.
-/
import Derived.Test.YtgkmbjojkihbmaaGreatDoorEae
import Derived.Test.YtgkmbjojkihbmaaGreatDoorCards
import Derived.Test.YtgkmbjojkihbmaaGreatDoorTie
import Derived.WalkKit
import Derived.ProofKit
import Derived.Deep.DeepHandedRow
import Derived.Lay
import Derived.MakeChecks
set_option linter.unusedVariables false
namespace Go.Proofs.YtgkmbjojkihbmaaGreatDoor.variantsOne
open Go.ChangeShapes Go.WideShapes Go.RowKit Go.Ir
def plainTs:List TypeId:=[3,4,9,28,30,22,76,74,72,71,69,68,24,25,372,26,374,27,376,31,43,41,78,51,114]
theorem own:ownKnob Tryz.prog.godebug=none:=by kernel_rfl
theorem laidOut:laidOutB Tryz.prog=true:=by kernel_rfl
theorem plainT:plnB Tryz.prog plainTs=true:=by kernel_rfl
theorem mem0:30∈plainTs:=by decide
theorem mem1:31∈plainTs:=by decide
theorem mem2:51∈plainTs:=by decide
theorem law (W:World) (hL:laidMetH Tryz.prog Rows.variantsOneUptoRow.laid W) (lv:List V) (hlv:WtV Tryz.prog 30 lv) (hlb:bulkVs lv<=1048576) (xp:V) (hxp:WtV Tryz.prog 31 [xp]) (hpb:bulkV xp<=1048576) (xv:V) (hxv:WtV Tryz.prog 51 [xv]) (hvb:bulkV xv<=1048576):RetS Tryz.prog W 5 [.agg lv,xp,xv] [] (.b true) []:=by
 obtain ⟨l,hl,hr,hb⟩:=loc_of lv hlv
 obtain ⟨ps,rfl,hps⟩:=parts_of _ xp (Nat.le_refl _) hxp
 obtain ⟨vs,rfl,hvw⟩:=vals_of xv hxv
 obtain ⟨b4,b5⟩:=vals_bd (l:=vs) (n:=2^20) (by omega)
 rw [hl,encPs_map]
 exact c_VariantsOne W l ps vs hr (by omega) (by omega) b4 b5
set_option maxRecDepth 100000 in
theorem contract (H:Type) (enc:TypeId × Value->H) (W:World) (base:Nat) (args:Array Value) (ds gs:List (DataW H)) (before:List MemPlace)
  (hval:∀(j:Nat) t v,Tryz.f5.params[j]? = some t->args[j]? = some v->Value.okWide Tryz.prog W .any base t v)
  (hW:DataW.Whole enc Tryz.prog Tryz.f5.params.toList Rows.variantsOneSpec.vars false W args.toList ds gs before) (hL:laidMetH Tryz.prog Rows.variantsOneUptoRow.laid W) (hc:Rows.uptoSmall H (ds++gs)=true) :
  Calls Tryz.prog 5 args W fun e W'=>∃v,e = .returned v/\Rows.variantsOneSpec.post enc Tryz.prog Tryz.f5 false true false false W args v W':=by
 have hW':=hW
 obtain ⟨p,q,hA0,hV,rfl,hfz,hnd⟩:=hW
 have hA:DataW.TrodAll enc Tryz.prog W 0 (fun _=>true) true Tryz.f5.params.toList args.toList ds p:=hA0
 rw [Tryz.params5] at hA hval
 obtain ⟨v0,vs0,d0,ds0,p0,q0,hargs,rfl,rfl,h0,r0⟩:=trodAll_cons hA
 obtain ⟨v1,vs1,d1,ds1,p1,q1,rfl,rfl,rfl,h1,r1⟩:=trodAll_cons r0
 obtain ⟨v2,vs2,d2,ds2,p2,q2,rfl,rfl,rfl,h2,r2⟩:=trodAll_cons r1
 obtain ⟨rfl,rfl,rfl⟩:=trodAll_nil r2
 obtain rfl:args = #[v0,v1,v2]:=by cases args;simp_all
 obtain ⟨rfl,rfl⟩:=trodVars_none hV
 have hb:Rows.uptoBulk d0+(Rows.uptoBulk d1+(Rows.uptoBulk d2+0))<=1048576:=by
  have:=of_decide_eq_true hc
  simpa only [List.append_nil,Rows.uptoBulkAll] using this
 unfold DataW.Trod at h0 h1 h2
 rcases h0 with ⟨f0,h0⟩
 rcases h1 with ⟨f1,h1⟩
 rcases h2 with ⟨f2,h2⟩
 obtain ⟨l0,c0,w0,b0⟩:=read_plain (enc:=enc) (P:=Tryz.prog) (w:=W) (base:=0) (spare:=fun _=>true) (held:=true) (μ:=fun _=>none) plainT f0 30 v0.cells.toList (d0,p0) mem0 h0 (show Rows.uptoBulk d0<=1048576 by omega)
 obtain ⟨l1,c1,w1,b1⟩:=read_plain (enc:=enc) (P:=Tryz.prog) (w:=W) (base:=0) (spare:=fun _=>true) (held:=true) (μ:=fun _=>none) plainT f1 31 v1.cells.toList (d1,p1) mem1 h1 (show Rows.uptoBulk d1<=1048576 by omega)
 obtain ⟨l2,c2,w2,b2⟩:=read_plain (enc:=enc) (P:=Tryz.prog) (w:=W) (base:=0) (spare:=fun _=>true) (held:=true) (μ:=fun _=>none) plainT f2 51 v2.cells.toList (d2,p2) mem2 h2 (show Rows.uptoBulk d2<=1048576 by omega)
 simp only at b0 b1 b2
 have k0:Value.okWide Tryz.prog W .any base 30 v0:=hval 0 30 v0 (by simp) (by simp)
 simp only [Value.okWide,Tryz.underlying30] at k0
 obtain ⟨cs0,rfl,_,_⟩:=k0
 have rel0:VRel (fun _=>none) (fun ad=>W.cell? ad) (.agg l0) (.agg cs0):=by
  have:=VRel.agg l0 cs0.toList c0.len c0.one c0.at_
  simpa using this
 have k1:Value.okWide Tryz.prog W .any base 31 v1:=hval 1 31 v1 (by simp) (by simp)
 have rel1:∃x,VRel (fun _=>none) (fun ad=>W.cell? ad) x v1/\WtV Tryz.prog 31 [x]/\bulkV x<=Rows.uptoBulk d1:=by
  have one:∃x,l1=[x]:=by
   cases w1 with
   | st t fs vs h _ _=>rw [Tryz.underlying31] at h;cases h
   | _=>exact ⟨_,rfl⟩
  obtain ⟨x,rfl⟩:=one
  simp only [bulkVs] at b1
  refine ⟨x,?_,w1,by omega⟩
  have hl:=c1.len
  cases v1 with
  | agg cs=>simp [Value.okWide,Tryz.underlying31,Cell.okWide,Cell.ok] at k1
  | _=>exact c1.at_ 0 _ _ rfl rfl
 obtain ⟨x1,rel1,wt1,bx1⟩:=rel1
 have k2:Value.okWide Tryz.prog W .any base 51 v2:=hval 2 51 v2 (by simp) (by simp)
 have rel2:∃x,VRel (fun _=>none) (fun ad=>W.cell? ad) x v2/\WtV Tryz.prog 51 [x]/\bulkV x<=Rows.uptoBulk d2:=by
  have one:∃x,l2=[x]:=by
   cases w2 with
   | st t fs vs h _ _=>rw [Tryz.underlying51] at h;cases h
   | _=>exact ⟨_,rfl⟩
  obtain ⟨x,rfl⟩:=one
  simp only [bulkVs] at b2
  refine ⟨x,?_,w2,by omega⟩
  have hl:=c2.len
  cases v2 with
  | agg cs=>simp [Value.okWide,Tryz.underlying51,Cell.okWide,Cell.ok] at k2
  | _=>exact c2.at_ 0 _ _ rfl rfl
 obtain ⟨x2,rel2,wt2,bx2⟩:=rel2
 refine (calls_true (law W hL l0 w0 (by omega) x1 wt1 (by omega) x2 wt2 (by omega)) (VRels.cons rel0 (VRels.cons rel1 (VRels.cons rel2 VRels.nil_)))).mono fun e W' ⟨he,hbl⟩=>?_
 subst he
 refine ⟨_,rfl,?_⟩
 exact post_true (tb:=4) laidOut (by rw [Tryz.params5];decide +kernel) rfl Tryz.underlying4 rfl rfl hW' hbl
end Go.Proofs.YtgkmbjojkihbmaaGreatDoor.variantsOne
