/-
  Contracts of functions of the program, walked (printed by a program of ours).
  Conditions: those that each theorem states.
-/
import Derived.Test.YtobihkjhlopggaaGreatDoorFct
import Derived.Test.YtobihkjhlopggaaGreatDoorEv1
import Derived.Test.YtobihkjhlopggaaGreatDoorEng
import Derived.Test.YtobihkjhlopggaaGreatDoorRul
import Derived.Test.YtobihkjhlopggaaGreatDoorOwn2
import Derived.Test.YtobihkjhlopggaaGreatDoorShelf
set_option linter.unusedVariables false
set_option maxRecDepth 20000
namespace Go.Sy.Eng2
open Go Go.RowKit Go.Proofs Go.Sy
open Go.Sy.Bel1 Go.Sy.Ev1
theorem impl_copyTexts {w : World} {v_l : Value} {l : (List ByteArray)} (h_l : Gd.rd w [v_l] l) (hln : l.length ≤ 4294967296) : Cy 196 [v_l] w (Res w (l : List ByteArray)) := by
 have hm1 := rd_max h_l;refine enter 5 Tryz.func196 Y Y Y (Sr (Pe Y (Sr (p1 Y (D_nil (α := ByteArray) (li Y (D_apl (α := ByteArray) (ys := l) s_105 y_9 Y Y Y Y Y Y (fun w' hs => (rA hs h_l)) (by simp; omega) (by simp; omega) fun v2 => ?_)))))));refine Pe Y (Ct (R_1 Y Y fun w' hs => res_of (k := 0) hs Y ?_));show ([]) ++ l = l;simp
theorem spec_l1Texts {w : World} {v_l : Value} {l : (List ByteArray)} (h_l : Gd.rd w [v_l] l) (hln : l.length ≤ 4294967296) : Cy 178 [v_l] w (Res w (l : List ByteArray)) := by
 have hm1 := rd_max h_l;refine enter 6 Tryz.func178 Y Y Y (Sr (Pe Y (Sr (li Y (D_bs0 (α := ByteArray) s_105 Y Y Y fun v2 => ?_)))));refine p1 Y (li Y (D_apl (α := ByteArray) (ys := l) s_105 y_9 Y Y Y Y Y Y (fun w' hs => (rA hs h_l)) (by simp; omega) (by simp; omega) fun v3 => ?_));refine Pe Y (Ct (R_1 Y Y fun w' hs => res_of (k := 0) hs Y ?_));show ([]) ++ l = l;simp
end Go.Sy.Eng2
