/-
  Proved: by which way the row of the law FnFresh goes.
  Conditions: none.
-/
import Derived.Test.YtbnpgdcpbmaebaaGreatDoorRows
import Derived.Test.YtbnpgdcpbmaebaaGreatDoorCards
import Derived.Test.YtbnpgdcpbmaebaaGreatDoorTie
namespace Go.Proofs.YtbnpgdcpbmaebaaGreatDoor
open Go
namespace fnFresh
theorem A6H:false=Rows.fnFreshRow.goesBy Tryz.pinned.checked.prog:=by kernel_rfl
end fnFresh
end Go.Proofs.YtbnpgdcpbmaebaaGreatDoor
