/-
  Proved: by which way the row of the law FnExactIsQuiet goes.
  Conditions: none.
-/
import Derived.Test.YtfmjgnjaoihefaaGreatDoorRows
import Derived.Test.YtfmjgnjaoihefaaGreatDoorCards
import Derived.Test.YtfmjgnjaoihefaaGreatDoorTie
namespace Go.Proofs.YtfmjgnjaoihefaaGreatDoor
open Go
namespace fnExactIsQuiet
theorem A6H:false=Rows.fnExactIsQuietRow.goesBy Tryz.pinned.checked.prog:=by kernel_rfl
end fnExactIsQuiet
end Go.Proofs.YtfmjgnjaoihefaaGreatDoor
