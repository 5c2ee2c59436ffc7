/-
  Proved: whatever the input, the law FnExactIsQuiet returns true, and the input reads as it did.
  Conditions: none.
-/
import Derived.Test.YtfmjgnjaoihefaaGreatDoorFnExactIsQuietA
import Derived.Test.YtfmjgnjaoihefaaGreatDoorFnExactIsQuietB
namespace Go.Proofs.YtfmjgnjaoihefaaGreatDoor
open Go Go.Sy Go.ChangeShapes Go.WideShapes Go.ChangeAt Go.RowKit
namespace fnExactIsQuiet
theorem plain(f:FuncId)(fn:Func)(b:Tryz.pinned.checked.prog.funcNamed "loop.example/g03015/laws.FnExactIsQuiet" =some f)(a:Tryz.pinned.checked.prog.funcs[f]?=some fn):
  true=Tryz.pinned.checked.prog.looks []/\∀(j:Nat) t,fn.params[j]?=some t->Tryz.pinned.checked.prog.wantsStandIn t=false:=by
 obtain rfl:f=6:=Option.some.inj ((show Tryz.prog.funcNamed "loop.example/g03015/laws.FnExactIsQuiet" =some 6 by kernel_rfl).symm.trans b)|>.symm
 obtain rfl:fn=Tryz.f6:=(Option.some.inj (Tryz.func6.symm.trans a)).symm;refine⟨by kernel_rfl,λj t ht=>?_⟩;rw[Tryz.params6] at ht;have hm:=Array.mem_of_getElem? ht;simp at hm;subst hm;exact(show Tryz.prog.wantsStandIn 27=false by kernel_rfl)
theorem card : Rows.FnExactIsQuietCardSaid :=
 Claim7.holds_tied_plain_at .later [] _ _ _ _ said (λ_ h=>by cases h) (by kernel_rfl) (λ_ h=>by cases h) fnExactIsQuiet_row_tie rfl ⟨rfl,rfl⟩ (by kernel_rfl) rfl plain A6H
end fnExactIsQuiet
#print axioms fnExactIsQuiet.card
end Go.Proofs.YtfmjgnjaoihefaaGreatDoor
