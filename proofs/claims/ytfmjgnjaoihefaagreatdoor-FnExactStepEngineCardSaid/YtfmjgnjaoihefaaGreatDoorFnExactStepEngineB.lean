/-
  Proved: by which way the row of the law FnExactStepEngine goes.
  Conditions: none.
-/
import Derived.Test.YtfmjgnjaoihefaaGreatDoorRows
import Derived.Test.YtfmjgnjaoihefaaGreatDoorCards
import Derived.Test.YtfmjgnjaoihefaaGreatDoorTie
namespace Go.Proofs.YtfmjgnjaoihefaaGreatDoor
open Go
namespace fnExactStepEngine
theorem A6H:false=Rows.fnExactStepEngineRow.goesBy Tryz.pinned.checked.prog:=by kernel_rfl
end fnExactStepEngine
end Go.Proofs.YtfmjgnjaoihefaaGreatDoor
