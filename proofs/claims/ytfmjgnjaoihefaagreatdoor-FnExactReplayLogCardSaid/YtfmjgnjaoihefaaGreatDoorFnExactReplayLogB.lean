/-
  Proved: by which way the row of the law FnExactReplayLog goes.
  Conditions: none.
-/
import Derived.Test.YtfmjgnjaoihefaaGreatDoorRows
import Derived.Test.YtfmjgnjaoihefaaGreatDoorCards
import Derived.Test.YtfmjgnjaoihefaaGreatDoorTie
namespace Go.Proofs.YtfmjgnjaoihefaaGreatDoor
open Go
namespace fnExactReplayLog
theorem A6H:false=Rows.fnExactReplayLogRow.goesBy Tryz.pinned.checked.prog:=by kernel_rfl
end fnExactReplayLog
end Go.Proofs.YtfmjgnjaoihefaaGreatDoor
