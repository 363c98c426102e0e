/-
  VariantsOne: what the card asks beside the row.
-/
import Derived.Test.YtgkmbjojkihbmaaGreatDoorEaj
import Derived.Test.YtgkmbjojkihbmaaGreatDoorCards
set_option linter.unusedVariables false
namespace Go.Proofs.YtgkmbjojkihbmaaGreatDoor.variantsOne
open Go.ChangeShapes Go.WideShapes Go.RowKit
theorem plain (f:FuncId) (fn:Func) (hf:Tryz.pinned.checked.prog.funcNamed Tryz.f5.name=some f) (hfn:Tryz.pinned.checked.prog.funcs[f]? = some fn) :
  true=Tryz.pinned.checked.prog.looks []/\∀(j:Nat) t,fn.params[j]? = some t->Tryz.pinned.checked.prog.wantsStandIn t=false:=by
 obtain rfl:f=5:=Option.some.inj ((show Tryz.prog.funcNamed Tryz.f5.name=some 5 by kernel_rfl).symm.trans hf) |>.symm
 obtain rfl:fn=Tryz.f5:=(Option.some.inj (Tryz.func5.symm.trans hfn)).symm
 refine ⟨by kernel_rfl,fun j t ht=>?_⟩
 rw [Tryz.params5] at ht
 have:=Array.mem_of_getElem? ht
 simp only [List.mem_toArray,List.mem_cons,List.not_mem_nil,or_false] at this
 rcases this with rfl|rfl|rfl
 ·exact (show Tryz.prog.wantsStandIn 30=false by kernel_rfl)
 ·exact (show Tryz.prog.wantsStandIn 31=false by kernel_rfl)
 ·exact (show Tryz.prog.wantsStandIn 51=false by kernel_rfl)
end Go.Proofs.YtgkmbjojkihbmaaGreatDoor.variantsOne
