/-
  Proved: whatever the input, the law FnHandKeeps returns true, and the input reads as it did.
  Conditions: none.
-/
import Derived.Test.YtmjmglkogcomaaaGreatDoorFnHandKeepsA
import Derived.Test.YtmjmglkogcomaaaGreatDoorFnHandKeepsB
namespace Go.Proofs.YtmjmglkogcomaaaGreatDoor
open Go Go.Sy Go.ChangeShapes Go.WideShapes Go.ChangeAt Go.RowKit
namespace fnHandKeeps
theorem plain(f:FuncId)(fn:Func)(d:Tryz.pinned.checked.prog.funcNamed "loop.example/g03015/laws.FnHandKeeps" =some f)(a:Tryz.pinned.checked.prog.funcs[f]?=some fn):
  true=Tryz.pinned.checked.prog.looks []/\∀(j:Nat) t,fn.params[j]?=some t->Tryz.pinned.checked.prog.wantsStandIn t=false:=by
 obtain rfl:f=3:=Option.some.inj ((show Tryz.prog.funcNamed "loop.example/g03015/laws.FnHandKeeps" =some 3 by kernel_rfl).symm.trans d)|>.symm
 obtain rfl:fn=Tryz.f3:=(Option.some.inj (Tryz.func3.symm.trans a)).symm;refine⟨by kernel_rfl,λj t b=>?_⟩;rw[Tryz.params3] at b;have c:=Array.mem_of_getElem? b;simp at c;subst c;exact(show Tryz.prog.wantsStandIn 22=false by kernel_rfl)
theorem card : Rows.FnHandKeepsCardSaid :=
 Claim7.holds_tied_plain_at .later [] _ _ _ _ said (λ_ h=>by cases h) (by kernel_rfl) (λ_ h=>by cases h) fnHandKeeps_row_tie rfl ⟨rfl,rfl⟩ (by kernel_rfl) rfl plain A6H
end fnHandKeeps
#print axioms fnHandKeeps.card
end Go.Proofs.YtmjmglkogcomaaaGreatDoor
