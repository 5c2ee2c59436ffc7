/-
  Proved: by which way the row of the law FnExactRunEngine goes.
  Conditions: none.
-/
import Derived.Test.YtfmjgnjaoihefaaGreatDoorRows
import Derived.Test.YtfmjgnjaoihefaaGreatDoorCards
import Derived.Test.YtfmjgnjaoihefaaGreatDoorTie
namespace Go.Proofs.YtfmjgnjaoihefaaGreatDoor
open Go
namespace fnExactRunEngine
theorem A6H:false=Rows.fnExactRunEngineRow.goesBy Tryz.pinned.checked.prog:=by kernel_rfl
end fnExactRunEngine
end Go.Proofs.YtfmjgnjaoihefaaGreatDoor
