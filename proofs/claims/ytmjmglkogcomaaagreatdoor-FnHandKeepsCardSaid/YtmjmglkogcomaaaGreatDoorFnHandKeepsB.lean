/-
  Proved: by which way the row of the law FnHandKeeps goes.
  Conditions: none.
-/
import Derived.Test.YtmjmglkogcomaaaGreatDoorRows
import Derived.Test.YtmjmglkogcomaaaGreatDoorCards
import Derived.Test.YtmjmglkogcomaaaGreatDoorTie
namespace Go.Proofs.YtmjmglkogcomaaaGreatDoor
open Go
namespace fnHandKeeps
theorem A6H:false=Rows.fnHandKeepsRow.goesBy Tryz.pinned.checked.prog:=by kernel_rfl
end fnHandKeeps
end Go.Proofs.YtmjmglkogcomaaaGreatDoor
