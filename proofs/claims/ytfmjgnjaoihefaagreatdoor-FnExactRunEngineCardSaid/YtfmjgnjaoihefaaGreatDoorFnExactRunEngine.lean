/-
  Proved: whatever the input, the law FnExactRunEngine returns true, and the input reads as it did.
  Conditions: none.
-/
import Derived.Test.YtfmjgnjaoihefaaGreatDoorFnExactRunEngineA
import Derived.Test.YtfmjgnjaoihefaaGreatDoorFnExactRunEngineB
namespace Go.Proofs.YtfmjgnjaoihefaaGreatDoor
open Go Go.Sy Go.ChangeShapes Go.WideShapes Go.ChangeAt Go.RowKit
namespace fnExactRunEngine
theorem plain(f:FuncId)(fn:Func)(b:Tryz.pinned.checked.prog.funcNamed "loop.example/g03015/laws.FnExactRunEngine" =some f)(a:Tryz.pinned.checked.prog.funcs[f]?=some fn):
  true=Tryz.pinned.checked.prog.looks []/\∀(j:Nat) t,fn.params[j]?=some t->Tryz.pinned.checked.prog.wantsStandIn t=false:=by
 obtain rfl:f=4:=Option.some.inj ((show Tryz.prog.funcNamed "loop.example/g03015/laws.FnExactRunEngine" =some 4 by kernel_rfl).symm.trans b)|>.symm
 obtain rfl:fn=Tryz.f4:=(Option.some.inj (Tryz.func4.symm.trans a)).symm;refine⟨by kernel_rfl,λj t ht=>?_⟩;rw[Tryz.params4] at ht;have hm:=Array.mem_of_getElem? ht;simp at hm
 rcases hm with rfl|rfl
 ·exact(show Tryz.prog.wantsStandIn 27=false by kernel_rfl)
 ·exact(show Tryz.prog.wantsStandIn 3=false by kernel_rfl)
theorem card : Rows.FnExactRunEngineCardSaid :=
 Claim7.holds_tied_plain_at .later [] _ _ _ _ said (λ_ h=>by cases h) (by kernel_rfl) (λ_ h=>by cases h) fnExactRunEngine_row_tie rfl ⟨rfl,rfl⟩ (by kernel_rfl) rfl plain A6H
end fnExactRunEngine
#print axioms fnExactRunEngine.card
end Go.Proofs.YtfmjgnjaoihefaaGreatDoor
