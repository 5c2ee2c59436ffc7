/-
  Proved: by which way the row of the law FnRanked goes.
  Conditions: none.
-/
import Derived.Test.YtbnpgdcpbmaebaaGreatDoorRows
import Derived.Test.YtbnpgdcpbmaebaaGreatDoorCards
import Derived.Test.YtbnpgdcpbmaebaaGreatDoorTie
namespace Go.Proofs.YtbnpgdcpbmaebaaGreatDoor
open Go
namespace fnRanked
theorem A6H:false=Rows.fnRankedRow.goesBy Tryz.pinned.checked.prog:=by kernel_rfl
end fnRanked
end Go.Proofs.YtbnpgdcpbmaebaaGreatDoor
