/-
  Proved: by which way the row of the law FnReplayedLog goes.
  Conditions: none.
-/
import Derived.Test.YtmjmglkogcomaaaGreatDoorRows
import Derived.Test.YtmjmglkogcomaaaGreatDoorCards
import Derived.Test.YtmjmglkogcomaaaGreatDoorTie
namespace Go.Proofs.YtmjmglkogcomaaaGreatDoor
open Go
namespace fnReplayedLog
theorem A6H:false=Rows.fnReplayedLogRow.goesBy Tryz.pinned.checked.prog:=by kernel_rfl
end fnReplayedLog
end Go.Proofs.YtmjmglkogcomaaaGreatDoor
