/-
  Proved: by which way the row of the law FnStepKeeps goes.
  Conditions: none.
-/
import Derived.Test.YtmjmglkogcomaaaGreatDoorRows
import Derived.Test.YtmjmglkogcomaaaGreatDoorCards
import Derived.Test.YtmjmglkogcomaaaGreatDoorTie
namespace Go.Proofs.YtmjmglkogcomaaaGreatDoor
open Go
namespace fnStepKeeps
theorem A6H:false=Rows.fnStepKeepsRow.goesBy Tryz.pinned.checked.prog:=by kernel_rfl
end fnStepKeeps
end Go.Proofs.YtmjmglkogcomaaaGreatDoor
