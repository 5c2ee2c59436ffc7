/-
  Proved: whatever the input, the law FnRunHalves returns true, and the input reads as it did.
  Conditions: none.
-/
import Derived.Test.YtmjmglkogcomaaaGreatDoorFnRunHalvesA
import Derived.Test.YtmjmglkogcomaaaGreatDoorFnRunHalvesB
namespace Go.Proofs.YtmjmglkogcomaaaGreatDoor
open Go Go.Sy Go.ChangeShapes Go.WideShapes Go.ChangeAt Go.RowKit
namespace fnRunHalves
theorem plain(f:FuncId)(fn:Func)(d:Tryz.pinned.checked.prog.funcNamed "loop.example/g03015/laws.FnRunHalves" =some f)(a:Tryz.pinned.checked.prog.funcs[f]?=some fn):
  true=Tryz.pinned.checked.prog.looks []/\∀(j:Nat) t,fn.params[j]?=some t->Tryz.pinned.checked.prog.wantsStandIn t=false:=by
 obtain rfl:f=5:=Option.some.inj ((show Tryz.prog.funcNamed "loop.example/g03015/laws.FnRunHalves" =some 5 by kernel_rfl).symm.trans d)|>.symm
 obtain rfl:fn=Tryz.f5:=(Option.some.inj (Tryz.func5.symm.trans a)).symm;refine⟨by kernel_rfl,λj t b=>?_⟩;rw[Tryz.params5] at b;have c:=Array.mem_of_getElem? b;simp at c;subst c;exact(show Tryz.prog.wantsStandIn 22=false by kernel_rfl)
theorem card : Rows.FnRunHalvesCardSaid :=
 Claim7.holds_tied_plain_at .later [] _ _ _ _ said (λ_ h=>by cases h) (by kernel_rfl) (λ_ h=>by cases h) fnRunHalves_row_tie rfl ⟨rfl,rfl⟩ (by kernel_rfl) rfl plain A6H
end fnRunHalves
#print axioms fnRunHalves.card
end Go.Proofs.YtmjmglkogcomaaaGreatDoor
