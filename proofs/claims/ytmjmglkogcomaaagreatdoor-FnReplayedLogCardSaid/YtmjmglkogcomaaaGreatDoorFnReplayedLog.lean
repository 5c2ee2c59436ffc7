/-
  Proved: whatever the input, the law FnReplayedLog returns true, and the input reads as it did.
  Conditions: none.
-/
import Derived.Test.YtmjmglkogcomaaaGreatDoorFnReplayedLogA
import Derived.Test.YtmjmglkogcomaaaGreatDoorFnReplayedLogB
namespace Go.Proofs.YtmjmglkogcomaaaGreatDoor
open Go Go.Sy Go.ChangeShapes Go.WideShapes Go.ChangeAt Go.RowKit
namespace fnReplayedLog
theorem plain(f:FuncId)(fn:Func)(d:Tryz.pinned.checked.prog.funcNamed "loop.example/g03015/laws.FnReplayedLog" =some f)(a:Tryz.pinned.checked.prog.funcs[f]?=some fn):
  true=Tryz.pinned.checked.prog.looks []/\∀(j:Nat) t,fn.params[j]?=some t->Tryz.pinned.checked.prog.wantsStandIn t=false:=by
 obtain rfl:f=6:=Option.some.inj ((show Tryz.prog.funcNamed "loop.example/g03015/laws.FnReplayedLog" =some 6 by kernel_rfl).symm.trans d)|>.symm
 obtain rfl:fn=Tryz.f6:=(Option.some.inj (Tryz.func6.symm.trans a)).symm;refine⟨by kernel_rfl,λj t c=>?_⟩;rw[Tryz.params6] at c;have b:=Array.mem_of_getElem? c;simp at b;subst b;exact(show Tryz.prog.wantsStandIn 22=false by kernel_rfl)
theorem card : Rows.FnReplayedLogCardSaid :=
 Claim7.holds_tied_plain_at .later [] _ _ _ _ said (λ_ h=>by cases h) (by kernel_rfl) (λ_ h=>by cases h) fnReplayedLog_row_tie rfl ⟨rfl,rfl⟩ (by kernel_rfl) rfl plain A6H
end fnReplayedLog
#print axioms fnReplayedLog.card
end Go.Proofs.YtmjmglkogcomaaaGreatDoor
