/-
  Proved: by which way the row of the law FnReplayed goes.
  Conditions: none.
-/
import Derived.Test.YtbnpgdcpbmaebaaGreatDoorRows
import Derived.Test.YtbnpgdcpbmaebaaGreatDoorCards
import Derived.Test.YtbnpgdcpbmaebaaGreatDoorTie
namespace Go.Proofs.YtbnpgdcpbmaebaaGreatDoor
open Go
namespace fnReplayed
theorem A6H:false=Rows.fnReplayedRow.goesBy Tryz.pinned.checked.prog:=by kernel_rfl
end fnReplayed
end Go.Proofs.YtbnpgdcpbmaebaaGreatDoor
