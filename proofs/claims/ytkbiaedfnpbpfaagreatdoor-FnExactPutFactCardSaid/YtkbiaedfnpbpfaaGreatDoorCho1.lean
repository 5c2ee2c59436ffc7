/-
  Contracts of functions of the program, walked (printed by a program of ours).
  Conditions: those that each theorem states.
-/
import Derived.Test.YtkbiaedfnpbpfaaGreatDoorEng5
import Derived.Test.YtkbiaedfnpbpfaaGreatDoorEv3
import Derived.Test.YtkbiaedfnpbpfaaGreatDoorNum2
import Derived.Test.YtkbiaedfnpbpfaaGreatDoorCho
set_option linter.unusedVariables false
set_option maxRecDepth 20000
namespace Go.Sy.Cho1
open Go Go.RowKit Go.Proofs Go.Sy
theorem mixed : Tryz.prog.follows .mixedOrders = true := by kernel_rfl
theorem f_70_1 : fieldOff Tryz.prog 70 1 = some 1 := by kernel_rfl
theorem o_58 : oneTy Tryz.prog 58 = true := by kernel_rfl
theorem b_62 : hasBody Tryz.prog 62 = true := by kernel_rfl
open Go.Sy.Bel1 Go.Sy.Bel3 Go.Sy.Ev1 Go.Sy.Ev2 Go.Sy.Ev3 Go.Sy.Fmt1 Go.Sy.Eng1 Go.Sy.Eng2 Go.Sy.Eng3 Go.Sy.Eng4 Go.Sy.Eng5 Go.Sy.Num1 Go.Sy.Num2
theorem laws_markFact (w0 : World) (Hs : List Chunk) (w : World) (c_a : List Value) (a : Fact) (k : Int) (h0 : 0 ≤ k) (h1 : k + a.Args.length ≤ 4611686018427387904) (hst : St w0 (ov c_a (a : Fact) :: Hs) w) : Calls Tryz.prog 32 [(.agg c_a.toArray), (iv k)].toArray w (fun e w' => e = .returned (iv (k + a.Args.length)) ∧ St w0 (ov c_a (mkF1 k a : Fact) :: Hs) w') := by
 obtain ⟨v1, rfl, ho_v1⟩ := shape_Fact (rO (k := 0) hst rfl)
 refine enterS 10 Tryz.func32 Y Y Y hst (Sr (li Y (D_box Y Y Y Y Y fun g2 => ?_)))
 refine Pe Y (Dh (bx g2 [(.string a.Rel), v1] :: ov [(.string a.Rel), v1] (a : Fact) :: Hs) Y (Sr (q1 Y (Db f_70_1 Y Y (q := 1) Y) (q1 Y (lb 0 o_58 Y Y Y Y) (p1 Y (D_fd [1] 0 Y (D_unpair (α := ByteArray) (β := (List ByteArray)) (c1 := [(.string a.Rel)]) (c2 := [v1]) (x := a.Rel) (y := (a.Args)) Y Y (D_fd [] 1 Y (li Y (cm b_62 Y Y Y Y (fun w' hs => laws_markStringS _ _ w' v1 a.Args k (by first | assumption | omega | (simp only; omega)) (by first | assumption | omega | (simp only; omega)) hs) ?_))))))))))
 refine Pe Y (Sr (P2 Y Y (Dx (Ct (pk_Fact (r := (⟨a.Rel, mkSs k a.Args⟩ : Fact)) (D_eq 0 Y (show ((⟨a.Rel, mkSs k a.Args⟩ : Fact) : Fact) = mkF1 k a from by rfl) (R_1 Y Y fun w' hs => ⟨congrArg (fun z => Ending.returned (Value.int .i64 z)) ?_, hs.fd [0, 1] 1 Y⟩)))))))
 show ((k + a.Args.length) : Int) = k + a.Args.length
 omega
end Go.Sy.Cho1
