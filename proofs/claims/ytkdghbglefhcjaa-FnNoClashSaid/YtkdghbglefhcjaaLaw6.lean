/-
  Contracts of functions of the program, walked (printed by a program of ours).
  Conditions: those that each theorem states.
-/
import Derived.Test.YtkdghbglefhcjaaLaw1
import Derived.Test.YtkdghbglefhcjaaCur3
import Derived.Test.YtkdghbglefhcjaaLw2
import Derived.Test.YtkdghbglefhcjaaReb
import Derived.Test.YtkdghbglefhcjaaCas
import Derived.Test.YtkdghbglefhcjaaRep5
import Derived.Test.YtkdghbglefhcjaaRv
set_option linter.unusedVariables false
set_option maxRecDepth 20000
namespace Go.Sy.Law6
open Go Go.RowKit Go.Proofs Go.Sy
theorem mixed : Try.prog.follows .mixedOrders = true := by kernel_rfl
theorem b_6 : hasBody Try.prog 6 = true := by kernel_rfl
theorem b_7 : hasBody Try.prog 7 = true := by kernel_rfl
theorem y_26 : zeroTy Try.prog 26 = some (.agg #[(.int .i64 0), (.slice none 0 0)]) := by kernel_rfl
theorem z_26 : sizeTy Try.prog 26 = some 2 := by kernel_rfl
theorem a_26 : aggTy Try.prog 26 = some 2 := by kernel_rfl
theorem b_11 : hasBody Try.prog 11 = true := by kernel_rfl
theorem s_27 : sliceTy Try.prog 27 = some (3, 1, 8) := by kernel_rfl
theorem b_14 : hasBody Try.prog 14 = true := by kernel_rfl
theorem b_9 : hasBody Try.prog 9 = true := by kernel_rfl
theorem ub_4 : Try.prog.underlying 4 = some .bool := by kernel_rfl
theorem s_37 : sliceTy Try.prog 37 = some (27, 1, 24) := by kernel_rfl
theorem o_27 : oneTy Try.prog 27 = true := by kernel_rfl
theorem b_15 : hasBody Try.prog 15 = true := by kernel_rfl
open Go.Sy.Bel1 Go.Sy.Bel2 Go.Sy.Bel3 Go.Sy.Bel4 Go.Sy.Bel5 Go.Sy.Bel6 Go.Sy.Bel7 Go.Sy.Bel8 Go.Sy.Bel9 Go.Sy.Belb Go.Sy.Beld Go.Sy.Sorts Go.Sy.Rep1 Go.Sy.Rep2 Go.Sy.Rep3 Go.Sy.Rep5 Go.Sy.Cur1 Go.Sy.Law1 Go.Sy.Cur3
theorem laws_FnNoClash (w : World) (v_code : Value) (code : (List UInt8)) (h_code : Gd.rd w [v_code] code) : Calls Try.prog 4 [v_code].toArray w (Val w (.bool (true))) := by
  have hm1 := rd_max h_code
  refine enter 57 Try.func4 rfl rfl rfl ?_
  refine C_seq ?_
  refine C_reg ?_
  refine p1 rfl ?_
  refine D_end ?_
  refine x_then ?_
  refine C_seq ?_
  refine C_seq ?_
  refine C_reg ?_
  refine p1 rfl ?_
  refine li rfl (cv b_6 rfl rfl rfl rfl (fun w' hs => (laws_big w' v_code code (rd_at hs h_code))) ?_)
  refine D_end ?_
  refine x_then ?_
  refine C_if _ rfl (fun h2 => ?_) (fun h2 => ?_)
  · refine C_seq ?_
    refine C_reg ?_
    refine p1 rfl ?_
    refine D_end ?_
    refine x_then ?_
    refine C_ret ?_
    refine x_then_ret ?_
    refine R_1 rfl rfl fun w' hs => ⟨congrArg (fun z => Ending.returned (Value.bool z)) ?_, hs.bel⟩
    show (true : Bool) = true
    rfl
  · refine C_skip ?_
    refine x_then ?_
    refine C_seq ?_
    refine C_reg ?_
    refine p1 rfl ?_
    refine li rfl (crB3 (α := Beliefs) (β := List Int) (γ := List Int) b_7 rfl rfl rfl rfl (fun w' hs => (spec_DrawGoodCase w' v_code code (rd_at hs h_code))) fun y3 y4 y5 cs6 cs7 cs8 hy3 wb9 hxb10 hrb11 hrb12 hrb13 => ?_)
    have hb14 := Gd.rd_ext hxb10 h_code
    obtain ⟨u15, rfl, hu16⟩ := open_Beliefs hrb11
    have hm17 := rd_max hu16
    obtain ⟨v18, rfl⟩ := rd_cell hrb12
    have hm19 := rd_max hrb12
    obtain ⟨v20, rfl⟩ := rd_cell hrb13
    have hm21 := rd_max hrb13
    refine D_re 12 (v' := (.tuple #[(.agg #[(.int .i64 y3.Nodes), u15]), v18, v20])) rfl rfl rfl ?_
    refine p1 rfl <| p1 rfl <| p1 rfl <| p1 rfl ?_
    refine li rfl (D_alloc y_26 rfl rfl rfl rfl fun g22 => ?_)
    refine li rfl (D_stb (vs := [(.int .i64 y3.Nodes), u15]) (cs' := [(.int .i64 y3.Nodes), u15]) 0 z_26 rfl rfl rfl rfl rfl rfl (ocons rfl (ocons (one_rd hu16) onil)) (by simp) rfl ?_)
    refine p1 rfl <| p1 rfl ?_
    refine D_end ?_
    refine x_then ?_
    refine D_H ([bx g22 [(.int .i64 y3.Nodes), u15]]) rfl ?_
    refine C_seq ?_
    have hcs := hy3.1
    have hfl := case_fl hcs
    have hcl := clashes_len y3 y4
    have hrl := leastR_len y3 y4 y5
    have hsz := szB_small (strat_b (case_s hcs))
    refine C_reg ?_
    refine q1 rfl (lbw 0 a_26 rfl rfl rfl) ?_
    refine p1 rfl ?_
    refine li rfl (crl b_11 rfl rfl rfl rfl (fun w' hs => (impl_ClashesOf w' [(.int .i64 y3.Nodes), u15] y3 v18 y4 (rd_at hs hrb11) (rd_at hs hrb12))) fun v23 => ?_)
    refine q1 rfl (D_leno 0 s_27 rfl rfl rfl) ?_
    refine p1 rfl <| p1 rfl ?_
    refine D_end ?_
    refine x_then ?_
    refine D_weak [(3, (.pointer (some ⟨g22, 0, none⟩))), (4, v18), (5, v20), (6, (.bool (((((clashes y3 y4).length : Nat) : Int) : Int) == 0)))] ⟨rfl, rfl, rfl, rfl, trivial⟩ ?_
    refine D_sel (H' := [bx g22 [(.int .i64 y3.Nodes), u15]]) [false, true] rfl ?_
    refine C_seq ?_
    refine C_reg ?_
    refine q1 rfl (lbw 0 a_26 rfl rfl rfl) ?_
    refine p1 rfl <| p1 rfl ?_
    refine li rfl (crl b_14 rfl rfl rfl rfl (fun w' hs => (impl_LeastRepairs w' [(.int .i64 y3.Nodes), u15] y3 v18 y4 v20 y5 (rd_at hs hrb11) (rd_at hs hrb12) (rd_at hs hrb13))) fun v24 => ?_)
    refine p1 rfl ?_
    refine D_end ?_
    refine x_then ?_
    refine D_H ([ov [v24] (leastR y3 y4 y5 : (List (List Int))), bx g22 [(.int .i64 y3.Nodes), u15]]) rfl ?_
    refine C_seq ?_
    refine C_reg ?_
    refine p1 rfl ?_
    refine q1 rfl (lbw 1 a_26 rfl rfl rfl) ?_
    refine p1 rfl <| p1 rfl ?_
    refine li rfl (cv b_9 rfl rfl rfl rfl (fun w' hs => (impl_IsRepair w' [(.int .i64 y3.Nodes), u15] y3 v18 y4 v20 y5 (.slice none 0 0) [] (rd_at hs hrb11) (rd_at hs hrb12) (rd_at hs hrb13) rd_nil)) ?_)
    refine q1 rfl (D_eqB ub_4 rfl rfl rfl) ?_
    refine p1 rfl ?_
    refine gs 31 rfl rfl (fun h25 => ?_) (fun h25 => ?_)
    · have pr25 : (((((clashes y3 y4).length : Nat) : Int) : Int) == 0) = (isRep y3 y4 y5 ([])) := eq_of_beq h25
      refine p1 rfl <| p1 rfl ?_
      refine q1 rfl (D_leno 0 s_37 rfl rfl rfl) ?_
      refine p1 rfl <| p1 rfl ?_
      refine gs 36 rfl rfl (fun h26 => ?_) (fun h26 => ?_)
      · have pr26 : ((((leastR y3 y4 y5).length : Nat) : Int) : Int) = 1 := eq_of_beq h26
        refine p1 rfl ?_
        refine D_mopen fun hd27 hl28 => ?_
        obtain ⟨r29, hh30⟩ := some_of_lt (l := hd27) (i := 0) (by omega)
        obtain ⟨x0, hx0⟩ := some_of_lt (l := (leastR y3 y4 y5)) (i := 0) (by omega)
        refine q1 rfl (D_ix (l := (leastR y3 y4 y5)) (j := 0) s_37 rfl rfl rfl (fun w' hs => (mx_rd (k := 0) hs rfl)) rfl (lt_of_some hx0)) ?_
        refine q1 rfl (lmx 0 o_27 rfl rfl rfl hh30) ?_
        refine q1 rfl (D_lenr s_27 rfl rfl (fun w' hs => (mx_row (k := 0) hs rfl hh30 hx0))) ?_
        refine p1 rfl <| p1 rfl ?_
        refine q1 rfl (D_eqB ub_4 rfl rfl rfl) ?_
        refine p1 rfl <| p1 rfl ?_
        refine gs 45 rfl rfl (fun h31 => ?_) (fun h31 => ?_)
        · have pr31 : (((((clashes y3 y4).length : Nat) : Int) : Int) == 0) = ((((x0.length : Nat) : Int) : Int) == 0) := eq_of_beq h31
          refine p1 rfl <| p1 rfl <| p1 rfl ?_
          refine gs 48 rfl rfl (fun h32 => ?_) (fun h32 => ?_)
          · have h32n : (((((clashes y3 y4).length : Nat) : Int) : Int) == 0) = false := not_t h32
            have pr32n : ((((clashes y3 y4).length : Nat) : Int) : Int) ≠ 0 := ne_of_beq_false h32n
            refine n1 rfl ?_
            refine n1 rfl ?_
            refine n1 rfl ?_
            refine n1 rfl ?_
            refine n1 rfl ?_
            refine n1 rfl ?_
            refine p1 rfl <| p1 rfl <| p1 rfl ?_
            refine D_end ?_
            refine x_then ?_
            refine D_weak [(2, (.bool true))] ⟨rfl, trivial⟩ ?_
            refine D_sel [true, false] rfl ?_
            refine C_ret ?_
            refine D_mclose ?_
            refine R_1 rfl rfl fun w' hs => ⟨congrArg (fun z => Ending.returned (Value.bool z)) ?_, (hxb10.trans hs.bel)⟩
            show (true : Bool) = true
            first | (rcases nc_cases hcs with ⟨hA, hB, hC, hD, hE⟩ | ⟨hA, hB, hC, hD⟩ <;> simp_all; done) | (rcases nc_cases hcs with ⟨hA, hB, hC, hD, hE⟩ | ⟨hA, hB, hC, hD⟩ <;> first | (simp_all; done) | (have hq := hD _ hx0; simp_all; done))
          · have h32n : (((((clashes y3 y4).length : Nat) : Int) : Int) == 0) = true := not_f h32
            have pr32n : ((((clashes y3 y4).length : Nat) : Int) : Int) = 0 := eq_of_beq h32n
            refine q1 rfl (lbw 1 a_26 rfl rfl rfl) ?_
            refine p1 rfl <| p1 rfl ?_
            refine li rfl (crl b_15 rfl rfl rfl rfl (fun w' hs => (impl_BlamedOf w' [(.int .i64 y3.Nodes), u15] y3 v18 y4 v20 y5 (rd_at hs hrb11) (rd_at hs hrb12) (rd_at hs hrb13) (by first | assumption | omega | (unfold szm at *; split at * <;> omega)))) fun v33 => ?_)
            refine q1 rfl (D_leno 0 s_27 rfl rfl rfl) ?_
            refine p1 rfl <| p1 rfl <| p1 rfl <| p1 rfl ?_
            refine D_end ?_
            refine x_then ?_
            refine D_weak [(2, (.bool (((((blamedR y3 y4 y5).length : Nat) : Int) : Int) == 0)))] ⟨rfl, trivial⟩ ?_
            refine D_sel [false, true, false] rfl ?_
            refine C_ret ?_
            refine D_mclose ?_
            refine R_1 rfl rfl fun w' hs => ⟨congrArg (fun z => Ending.returned (Value.bool z)) ?_, (hxb10.trans hs.bel)⟩
            show ((((((blamedR y3 y4 y5).length : Nat) : Int) : Int) == 0) : Bool) = true
            first | (rcases nc_cases hcs with ⟨hA, hB, hC, hD, hE⟩ | ⟨hA, hB, hC, hD⟩ <;> simp_all; done) | (rcases nc_cases hcs with ⟨hA, hB, hC, hD, hE⟩ | ⟨hA, hB, hC, hD⟩ <;> first | (simp_all; done) | (have hq := hD _ hx0; simp_all; done))
        · refine n1 rfl ?_
          refine n1 rfl ?_
          refine n1 rfl ?_
          refine n1 rfl ?_
          refine n1 rfl ?_
          refine n1 rfl ?_
          refine n1 rfl ?_
          refine n1 rfl ?_
          refine n1 rfl ?_
          refine n1 rfl ?_
          refine p1 rfl <| p1 rfl ?_
          refine D_end ?_
          refine x_then ?_
          refine D_weak [(2, (.bool false))] ⟨rfl, trivial⟩ ?_
          refine D_sel [true, false] rfl ?_
          refine C_ret ?_
          refine D_mclose ?_
          refine R_1 rfl rfl fun w' hs => ⟨congrArg (fun z => Ending.returned (Value.bool z)) ?_, (hxb10.trans hs.bel)⟩
          show (false : Bool) = true
          first | (rcases nc_cases hcs with ⟨hA, hB, hC, hD, hE⟩ | ⟨hA, hB, hC, hD⟩ <;> simp_all; done) | (rcases nc_cases hcs with ⟨hA, hB, hC, hD, hE⟩ | ⟨hA, hB, hC, hD⟩ <;> first | (simp_all; done) | (have hq := hD _ hx0; simp_all; done))
      · have pr26 : ((((leastR y3 y4 y5).length : Nat) : Int) : Int) ≠ 1 := ne_of_beq_false h26
        refine n1 rfl ?_
        refine n1 rfl ?_
        refine n1 rfl ?_
        refine n1 rfl ?_
        refine n1 rfl ?_
        refine p1 rfl ?_
        refine q1 rfl (D_eqB ub_4 rfl rfl rfl) ?_
        refine p1 rfl <| p1 rfl ?_
        refine gs 45 rfl rfl (fun h34 => ?_) (fun h34 => ?_)
        · have pr34 : (((((clashes y3 y4).length : Nat) : Int) : Int) == 0) = false := eq_of_beq h34
          refine p1 rfl <| p1 rfl <| p1 rfl ?_
          refine gs 48 rfl rfl (fun h35 => ?_) (fun h35 => ?_)
          · have h35n : (((((clashes y3 y4).length : Nat) : Int) : Int) == 0) = false := not_t h35
            have pr35n : ((((clashes y3 y4).length : Nat) : Int) : Int) ≠ 0 := ne_of_beq_false h35n
            refine n1 rfl ?_
            refine n1 rfl ?_
            refine n1 rfl ?_
            refine n1 rfl ?_
            refine n1 rfl ?_
            refine n1 rfl ?_
            refine p1 rfl <| p1 rfl <| p1 rfl ?_
            refine D_end ?_
            refine x_then ?_
            refine D_weak [(2, (.bool true))] ⟨rfl, trivial⟩ ?_
            refine D_sel (H' := []) [false, false] rfl ?_
            refine C_ret ?_
            refine R_1 rfl rfl fun w' hs => ⟨congrArg (fun z => Ending.returned (Value.bool z)) ?_, (hxb10.trans hs.bel)⟩
            show (true : Bool) = true
            first | (rcases nc_cases hcs with ⟨hA, hB, hC, hD, hE⟩ | ⟨hA, hB, hC, hD⟩ <;> simp_all; done) | (rcases nc_cases hcs with ⟨hA, hB, hC, hD, hE⟩ | ⟨hA, hB, hC, hD⟩ <;> first | (simp_all; done) | (have hq := hD _ hx0; simp_all; done))
          · have h35n : (((((clashes y3 y4).length : Nat) : Int) : Int) == 0) = true := not_f h35
            have pr35n : ((((clashes y3 y4).length : Nat) : Int) : Int) = 0 := eq_of_beq h35n
            refine q1 rfl (lbw 1 a_26 rfl rfl rfl) ?_
            refine p1 rfl <| p1 rfl ?_
            refine li rfl (crl b_15 rfl rfl rfl rfl (fun w' hs => (impl_BlamedOf w' [(.int .i64 y3.Nodes), u15] y3 v18 y4 v20 y5 (rd_at hs hrb11) (rd_at hs hrb12) (rd_at hs hrb13) (by first | assumption | omega | (unfold szm at *; split at * <;> omega)))) fun v36 => ?_)
            refine q1 rfl (D_leno 0 s_27 rfl rfl rfl) ?_
            refine p1 rfl <| p1 rfl <| p1 rfl <| p1 rfl ?_
            refine D_end ?_
            refine x_then ?_
            refine D_weak [(2, (.bool (((((blamedR y3 y4 y5).length : Nat) : Int) : Int) == 0)))] ⟨rfl, trivial⟩ ?_
            refine D_sel (H' := []) [false, false, false] rfl ?_
            refine C_ret ?_
            refine R_1 rfl rfl fun w' hs => ⟨congrArg (fun z => Ending.returned (Value.bool z)) ?_, (hxb10.trans hs.bel)⟩
            show ((((((blamedR y3 y4 y5).length : Nat) : Int) : Int) == 0) : Bool) = true
            first | (rcases nc_cases hcs with ⟨hA, hB, hC, hD, hE⟩ | ⟨hA, hB, hC, hD⟩ <;> simp_all; done) | (rcases nc_cases hcs with ⟨hA, hB, hC, hD, hE⟩ | ⟨hA, hB, hC, hD⟩ <;> first | (simp_all; done) | (have hq := hD _ hx0; simp_all; done))
        · refine n1 rfl ?_
          refine n1 rfl ?_
          refine n1 rfl ?_
          refine n1 rfl ?_
          refine n1 rfl ?_
          refine n1 rfl ?_
          refine n1 rfl ?_
          refine n1 rfl ?_
          refine n1 rfl ?_
          refine n1 rfl ?_
          refine p1 rfl <| p1 rfl ?_
          refine D_end ?_
          refine x_then ?_
          refine D_weak [(2, (.bool false))] ⟨rfl, trivial⟩ ?_
          refine D_sel (H' := []) [false, false] rfl ?_
          refine C_ret ?_
          refine R_1 rfl rfl fun w' hs => ⟨congrArg (fun z => Ending.returned (Value.bool z)) ?_, (hxb10.trans hs.bel)⟩
          show (false : Bool) = true
          first | (rcases nc_cases hcs with ⟨hA, hB, hC, hD, hE⟩ | ⟨hA, hB, hC, hD⟩ <;> simp_all; done) | (rcases nc_cases hcs with ⟨hA, hB, hC, hD, hE⟩ | ⟨hA, hB, hC, hD⟩ <;> first | (simp_all; done) | (have hq := hD _ hx0; simp_all; done))
    · refine n1 rfl ?_
      refine n1 rfl ?_
      refine n1 rfl ?_
      refine n1 rfl ?_
      refine n1 rfl ?_
      refine n1 rfl ?_
      refine n1 rfl ?_
      refine n1 rfl ?_
      refine n1 rfl ?_
      refine n1 rfl ?_
      refine n1 rfl ?_
      refine n1 rfl ?_
      refine p1 rfl <| p1 rfl ?_
      refine n1 rfl ?_
      refine n1 rfl ?_
      refine n1 rfl ?_
      refine n1 rfl ?_
      refine n1 rfl ?_
      refine n1 rfl ?_
      refine n1 rfl ?_
      refine n1 rfl ?_
      refine n1 rfl ?_
      refine n1 rfl ?_
      refine p1 rfl <| p1 rfl ?_
      refine D_end ?_
      refine x_then ?_
      refine D_weak [(2, (.bool false))] ⟨rfl, trivial⟩ ?_
      refine D_sel (H' := []) [false, false] rfl ?_
      refine C_ret ?_
      refine R_1 rfl rfl fun w' hs => ⟨congrArg (fun z => Ending.returned (Value.bool z)) ?_, (hxb10.trans hs.bel)⟩
      show (false : Bool) = true
      first | (rcases nc_cases hcs with ⟨hA, hB, hC, hD, hE⟩ | ⟨hA, hB, hC, hD⟩ <;> simp_all; done) | (rcases nc_cases hcs with ⟨hA, hB, hC, hD, hE⟩ | ⟨hA, hB, hC, hD⟩ <;> first | (simp_all; done) | (have hq := hD _ hx0; simp_all; done))
end Go.Sy.Law6
