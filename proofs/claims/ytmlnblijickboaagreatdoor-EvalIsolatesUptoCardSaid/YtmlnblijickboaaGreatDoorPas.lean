/-
  EvalIsolates: what the card asks beside the row.
-/
import Derived.Test.YtmlnblijickboaaGreatDoorPal
import Derived.Test.YtmlnblijickboaaGreatDoorCards
set_option linter.all false
namespace Go.Proofs.YtmlnblijickboaaGreatDoor.evalIsolates
open Go.ChangeShapes Go.WideShapes Go.RowKit
theorem plain(f:FuncId)(a:Func)(d:Tryz.pinned.checked.prog.funcNamed Tryz.f3.name=some f)(b:Tryz.pinned.checked.prog.funcs[f]?=some a) :
  true=Tryz.pinned.checked.prog.looks []/\∀(j:Nat) t,a.params[j]?=some t->Tryz.pinned.checked.prog.wantsStandIn t=false:=by
 obtain rfl:f=3:=Option.some.inj ((show Tryz.prog.funcNamed Tryz.f3.name=some 3 by kernel_rfl).symm.trans d) |>.symm;obtain rfl:a=Tryz.f3:=(Option.some.inj (Tryz.func3.symm.trans b)).symm;refine⟨by kernel_rfl,λj t c=>?_⟩;rw[Tryz.params3] at c;have:=Array.mem_of_getElem? c;simp only[List.mem_toArray,List.mem_cons,List.not_mem_nil,or_false] at this;rcases this with rfl
 .exact(show Tryz.prog.wantsStandIn 34=false by kernel_rfl)
end Go.Proofs.YtmlnblijickboaaGreatDoor.evalIsolates
