/-
  Proved: by which way the row of the law FnMatches goes.
  Conditions: none.
-/
import Derived.Test.YtbnpgdcpbmaebaaGreatDoorRows
import Derived.Test.YtbnpgdcpbmaebaaGreatDoorCards
import Derived.Test.YtbnpgdcpbmaebaaGreatDoorTie
namespace Go.Proofs.YtbnpgdcpbmaebaaGreatDoor
open Go
namespace fnMatches
theorem A6H:false=Rows.fnMatchesRow.goesBy Tryz.pinned.checked.prog:=by kernel_rfl
end fnMatches
end Go.Proofs.YtbnpgdcpbmaebaaGreatDoor
