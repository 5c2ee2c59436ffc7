/-
  Proved: by which way the row of the law FnExactConflicts goes.
  Conditions: none.
-/
import Derived.Test.YtfmjgnjaoihefaaGreatDoorRows
import Derived.Test.YtfmjgnjaoihefaaGreatDoorCards
import Derived.Test.YtfmjgnjaoihefaaGreatDoorTie
namespace Go.Proofs.YtfmjgnjaoihefaaGreatDoor
open Go
namespace fnExactConflicts
theorem A6H:false=Rows.fnExactConflictsRow.goesBy Tryz.pinned.checked.prog:=by kernel_rfl
end fnExactConflicts
end Go.Proofs.YtfmjgnjaoihefaaGreatDoor
