/-
  Proved: by which way the row of the law FnRunHalves goes.
  Conditions: none.
-/
import Derived.Test.YtmjmglkogcomaaaGreatDoorRows
import Derived.Test.YtmjmglkogcomaaaGreatDoorCards
import Derived.Test.YtmjmglkogcomaaaGreatDoorTie
namespace Go.Proofs.YtmjmglkogcomaaaGreatDoor
open Go
namespace fnRunHalves
theorem A6H:false=Rows.fnRunHalvesRow.goesBy Tryz.pinned.checked.prog:=by kernel_rfl
end fnRunHalves
end Go.Proofs.YtmjmglkogcomaaaGreatDoor
