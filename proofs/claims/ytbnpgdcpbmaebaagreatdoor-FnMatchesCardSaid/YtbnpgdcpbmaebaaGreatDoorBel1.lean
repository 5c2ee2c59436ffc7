/-
  Contracts of functions of the program, walked (printed by a program of ours).
  Conditions: those that each theorem states.
-/
import Derived.Test.YtbnpgdcpbmaebaaGreatDoorProg
import Derived.Test.YtbnpgdcpbmaebaaGreatDoorTypes
import Derived.Test.YtbnpgdcpbmaebaaGreatDoorBase
set_option linter.unusedVariables false
set_option maxRecDepth 20000
namespace Go.Sy.Bel1
open Go Go.RowKit Go.Proofs Go.Sy
theorem mixed:Tryz.prog.follows .mixedOrders=true:=by kernel_rfl
theorem E7{w:World}{x:Int}{least:Int}{a:Int}:Calls Tryz.prog 67 [(iv x),(iv least),(iv a)].toArray w (Val w (.bool (GO x least a))):=by
 refine enter 15 Tryz.func67 Y Y Y (Sr (Pe Y (Sr (P3 Y Y Y (p1 Y (EY 10 Y Y (λb=>?_) (λb=>?_)))))))
 ·refine P3 Y Y Y (P2 Y Y (Dx (Ct (Rb Y Y ?_))));show((decide ((x:Int)<=a)):Bool)=_;simp_all[GO];try omega
 ·refine n1 Y (n1 Y (n1 Y (P2 Y Y (Dx (Ct (Rb Y Y ?_))))));simp_all[GO];try omega
end Go.Sy.Bel1
