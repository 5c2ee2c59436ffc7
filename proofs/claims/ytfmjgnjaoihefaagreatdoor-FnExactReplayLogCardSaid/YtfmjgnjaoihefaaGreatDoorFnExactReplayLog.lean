/-
  Proved: whatever the input, the law FnExactReplayLog returns true, and the input reads as it did.
  Conditions: none.
-/
import Derived.Test.YtfmjgnjaoihefaaGreatDoorFnExactReplayLogA
import Derived.Test.YtfmjgnjaoihefaaGreatDoorFnExactReplayLogB
namespace Go.Proofs.YtfmjgnjaoihefaaGreatDoor
open Go Go.Sy Go.ChangeShapes Go.WideShapes Go.ChangeAt Go.RowKit
namespace fnExactReplayLog
theorem plain(f:FuncId)(fn:Func)(b:Tryz.pinned.checked.prog.funcNamed "loop.example/g03015/laws.FnExactReplayLog" =some f)(a:Tryz.pinned.checked.prog.funcs[f]?=some fn):
  true=Tryz.pinned.checked.prog.looks []/\∀(j:Nat) t,fn.params[j]?=some t->Tryz.pinned.checked.prog.wantsStandIn t=false:=by
 obtain rfl:f=5:=Option.some.inj ((show Tryz.prog.funcNamed "loop.example/g03015/laws.FnExactReplayLog" =some 5 by kernel_rfl).symm.trans b)|>.symm
 obtain rfl:fn=Tryz.f5:=(Option.some.inj (Tryz.func5.symm.trans a)).symm;refine⟨by kernel_rfl,λj t ht=>?_⟩;rw[Tryz.params5] at ht;have hm:=Array.mem_of_getElem? ht;simp at hm
 rcases hm with rfl|rfl
 ·exact(show Tryz.prog.wantsStandIn 22=false by kernel_rfl)
 ·exact(show Tryz.prog.wantsStandIn 25=false by kernel_rfl)
theorem card : Rows.FnExactReplayLogCardSaid :=
 Claim7.holds_tied_plain_at .later [] _ _ _ _ said (λ_ h=>by cases h) (by kernel_rfl) (λ_ h=>by cases h) fnExactReplayLog_row_tie rfl ⟨rfl,rfl⟩ (by kernel_rfl) rfl plain A6H
end fnExactReplayLog
#print axioms fnExactReplayLog.card
end Go.Proofs.YtfmjgnjaoihefaaGreatDoor
