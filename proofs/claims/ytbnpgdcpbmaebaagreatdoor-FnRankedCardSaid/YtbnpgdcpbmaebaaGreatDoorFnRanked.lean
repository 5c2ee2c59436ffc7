/-
  Proved: whatever the input, the law FnRanked returns true, and the input reads as it did.
  Conditions: none.
-/
import Derived.Test.YtbnpgdcpbmaebaaGreatDoorFnRankedA
import Derived.Test.YtbnpgdcpbmaebaaGreatDoorFnRankedB
namespace Go.Proofs.YtbnpgdcpbmaebaaGreatDoor
open Go Go.Sy Go.ChangeShapes Go.WideShapes Go.ChangeAt Go.RowKit
namespace fnRanked
theorem plain(f:FuncId)(fn:Func)(b:Tryz.pinned.checked.prog.funcNamed "loop.example/g03015/laws.FnRanked" =some f)(a:Tryz.pinned.checked.prog.funcs[f]?=some fn):
  true=Tryz.pinned.checked.prog.looks []/\∀(j:Nat) t,fn.params[j]?=some t->Tryz.pinned.checked.prog.wantsStandIn t=false:=by
 obtain rfl:f=6:=Option.some.inj ((show Tryz.prog.funcNamed "loop.example/g03015/laws.FnRanked" =some 6 by kernel_rfl).symm.trans b)|>.symm
 obtain rfl:fn=Tryz.f6:=(Option.some.inj (Tryz.func6.symm.trans a)).symm;refine⟨by kernel_rfl,λj t ht=>?_⟩;rw[Tryz.params6] at ht;have hm:=Array.mem_of_getElem? ht;simp at hm;subst hm;exact(show Tryz.prog.wantsStandIn 22=false by kernel_rfl)
theorem card : Rows.FnRankedCardSaid :=
 Claim7.holds_tied_plain_at .later [] _ _ _ _ said (λ_ h=>by cases h) (by kernel_rfl) (λ_ h=>by cases h) fnRanked_row_tie rfl ⟨rfl,rfl⟩ (by kernel_rfl) rfl plain A6H
end fnRanked
#print axioms fnRanked.card
end Go.Proofs.YtbnpgdcpbmaebaaGreatDoor
