/-
  Contracts of functions of the program, walked (printed by a program of ours).
  Conditions: those that each theorem states.
-/
import Derived.Test.YtkdghbglefhcjaaBeld
import Derived.Test.YtkdghbglefhcjaaDraw
import Derived.Test.YtkdghbglefhcjaaOne
set_option linter.unusedVariables false
set_option maxRecDepth 20000
namespace Go.Sy.Cur1
open Go Go.RowKit Go.Proofs Go.Sy
theorem mixed : Try.prog.follows .mixedOrders = true := by kernel_rfl
theorem f_62_2 : fieldOff Try.prog 62 2 = some 2 := by kernel_rfl
theorem o_3 : oneTy Try.prog 3 = true := by kernel_rfl
theorem z_3 : sizeTy Try.prog 3 = some 1 := by kernel_rfl
theorem f_62_1 : fieldOff Try.prog 62 1 = some 1 := by kernel_rfl
theorem f_62_0 : fieldOff Try.prog 62 0 = some 0 := by kernel_rfl
theorem o_22 : oneTy Try.prog 22 = true := by kernel_rfl
theorem s_22 : sliceTy Try.prog 22 = some (5, 1, 1) := by kernel_rfl
theorem o_5 : oneTy Try.prog 5 = true := by kernel_rfl
theorem ui_3 : Try.prog.underlying 3 = some (.int .i64) := by kernel_rfl
theorem u8_5 : Try.prog.underlying 5 = some (.int .u8) := by kernel_rfl
theorem b_80 : hasBody Try.prog 80 = true := by kernel_rfl
theorem b_60 : hasBody Try.prog 60 = true := by kernel_rfl
theorem pl_62 : placeTy Try.prog 62 = some ([(0, 1), (1, 1), (2, 1)], [(.slice none 0 0), (.int .i64 0), (.int .i64 0)]) := by kernel_rfl
theorem s_27 : sliceTy Try.prog 27 = some (3, 1, 8) := by kernel_rfl
theorem b_42 : hasBody Try.prog 42 = true := by kernel_rfl
theorem y_3 : zeroTy Try.prog 3 = some (.int .i64 0) := by kernel_rfl
theorem y_26 : zeroTy Try.prog 26 = some (.agg #[(.int .i64 0), (.slice none 0 0)]) := by kernel_rfl
theorem z_26 : sizeTy Try.prog 26 = some 2 := by kernel_rfl
theorem f_26_0 : fieldOff Try.prog 26 0 = some 0 := by kernel_rfl
theorem y_31 : zeroTy Try.prog 31 = some (.agg #[(.int .i64 0), (.slice none 0 0), (.slice none 0 0)]) := by kernel_rfl
theorem z_31 : sizeTy Try.prog 31 = some 3 := by kernel_rfl
theorem b_40 : hasBody Try.prog 40 = true := by kernel_rfl
theorem f_31_1 : fieldOff Try.prog 31 1 = some 1 := by kernel_rfl
theorem z_27 : sizeTy Try.prog 27 = some 1 := by kernel_rfl
theorem f_31_2 : fieldOff Try.prog 31 2 = some 2 := by kernel_rfl
theorem o_27 : oneTy Try.prog 27 = true := by kernel_rfl
theorem f_31_0 : fieldOff Try.prog 31 0 = some 0 := by kernel_rfl
theorem f_26_1 : fieldOff Try.prog 26 1 = some 1 := by kernel_rfl
theorem o_24 : oneTy Try.prog 24 = true := by kernel_rfl
theorem a_31 : aggTy Try.prog 31 = some 3 := by kernel_rfl
theorem s_24 : sliceTy Try.prog 24 = some (31, 3, 56) := by kernel_rfl
theorem z_24 : sizeTy Try.prog 24 = some 1 := by kernel_rfl
theorem a_26 : aggTy Try.prog 26 = some 2 := by kernel_rfl
theorem b_59 : hasBody Try.prog 59 = true := by kernel_rfl
theorem b_45 : hasBody Try.prog 45 = true := by kernel_rfl
open Go.Sy.Bel1 Go.Sy.Bel2 Go.Sy.Bel3 Go.Sy.Bel4 Go.Sy.Bel5 Go.Sy.Bel6 Go.Sy.Bel7 Go.Sy.Bel8 Go.Sy.Bel9 Go.Sy.Belb Go.Sy.Beld
theorem spec_l1Byte (w0 : World) (Hs : List Chunk) (w : World) (g_c : Nat) (v_c : Value) (code : List UInt8) (h_c : Gd.rd w0 [v_c] code) (hst : St w0 (cu g_c v_c code.length :: Hs) w) : Calls Try.prog 80 [(.pointer (some ⟨g_c, 0, none⟩))].toArray w (fun e w' => ∃ y : Int, (0 ≤ y ∧ y ≤ 255) ∧ e = .returned (.int .i64 y) ∧ St w0 (cu g_c v_c code.length :: Hs) w') := by
  have hm1 := rd_max h_c
  refine enterS 58 Try.func80 rfl rfl rfl hst ?_
  refine D_cuo fun ci ch hc0 hc1 => ?_
  refine C_seq ?_
  refine C_reg ?_
  refine p1 rfl ?_
  refine D_end ?_
  refine x_then ?_
  refine D_H (bx g_c [v_c, (.int .i64 ci), (.int .i64 ch)] :: Hs) rfl ?_
  refine C_seq ?_
  refine C_reg ?_
  refine p1 rfl <| p1 rfl ?_
  refine q1 rfl (D_nilc rfl rfl) ?_
  refine q1 rfl (D_fb f_62_2 rfl rfl (q := 2) rfl) ?_
  refine q1 rfl (lb 0 o_3 rfl rfl rfl rfl) ?_
  refine q1 rfl (D_mul rfl rfl rfl) ?_
  refine q1 rfl (D_addw rfl rfl rfl) ?_
  refine q1 rfl (D_nilc rfl rfl) ?_
  refine q1 rfl (D_fb f_62_2 rfl rfl (q := 2) rfl) ?_
  refine li rfl (D_stb (vs := [(.int .i64 (wr ((mulZ ch 6364136223846793005) + 1442695040888963407)))]) (cs' := [v_c, (.int .i64 ci), (.int .i64 (wr ((mulZ ch 6364136223846793005) + 1442695040888963407)))]) 0 z_3 rfl rfl rfl rfl rfl rfl (ocons rfl onil) (by simp) rfl ?_)
  refine D_end ?_
  refine x_then ?_
  refine D_H (bx g_c [v_c, (.int .i64 ci), (.int .i64 (wr ((mulZ ch 6364136223846793005) + 1442695040888963407)))] :: Hs) rfl ?_
  refine C_seq ?_
  refine C_draw mixed [] (by kernel_rfl) ?_
  refine tk 0 rfl (by kernel_rfl) (by kernel_rfl) (by kernel_rfl) rfl (fun _ hs => hs) (rp rfl) ?_
  refine tk 1 rfl (by kernel_rfl) (by kernel_rfl) (by kernel_rfl) rfl (fun _ hs => hs) (D_nilc rfl rfl) ?_
  refine tk 2 rfl (by kernel_rfl) (by kernel_rfl) (by kernel_rfl) rfl (fun _ hs => hs) (D_fb f_62_2 rfl rfl (q := 2) rfl) ?_
  refine tk 3 rfl (by kernel_rfl) (by kernel_rfl) (by kernel_rfl) rfl (fun _ hs => hs) (lb 0 o_3 rfl rfl rfl rfl) ?_
  refine tk 4 rfl (by kernel_rfl) (by kernel_rfl) (by kernel_rfl) rfl (fun _ hs => hs) (D_shr (k := 35) rfl rfl rfl) ?_
  refine tk 5 rfl (by kernel_rfl) (by kernel_rfl) (by kernel_rfl) rfl (fun _ hs => hs) (rp rfl) ?_
  refine tk 6 rfl (by kernel_rfl) (by kernel_rfl) (by kernel_rfl) rfl (fun _ hs => hs) (D_nilc rfl rfl) ?_
  refine tk 7 rfl (by kernel_rfl) (by kernel_rfl) (by kernel_rfl) rfl (fun _ hs => hs) (D_fb f_62_2 rfl rfl (q := 2) rfl) ?_
  refine tk 8 rfl (by kernel_rfl) (by kernel_rfl) (by kernel_rfl) rfl (fun _ hs => hs) (lb 0 o_3 rfl rfl rfl rfl) ?_
  refine tk 9 rfl (by kernel_rfl) (by kernel_rfl) (by kernel_rfl) rfl (fun _ hs => hs) (D_shr (k := 45) rfl rfl rfl) ?_
  refine tk 10 rfl (by kernel_rfl) (by kernel_rfl) (by kernel_rfl) rfl (fun _ hs => hs) (D_xor rfl rfl rfl) ?_
  refine tk 11 rfl (by kernel_rfl) (by kernel_rfl) (by kernel_rfl) rfl (fun _ hs => hs) (D_and rfl rfl rfl) ?_
  refine tk 12 rfl (by kernel_rfl) (by kernel_rfl) (by kernel_rfl) rfl (fun _ hs => hs) (rp rfl) ?_
  refine tE (by kernel_rfl) ?_
  refine x_then ?_
  refine D_weak [(0, (.pointer (some ⟨g_c, 0, none⟩))), (3, (.int .i64 (andZ (xorZ (shrZ (wr ((mulZ ch 6364136223846793005) + 1442695040888963407)) 35) (shrZ (wr ((mulZ ch 6364136223846793005) + 1442695040888963407)) 45)) 255)))] ⟨rfl, rfl, trivial⟩ ?_
  refine C_seq ?_
  refine C_seq ?_
  refine C_draw mixed [] (by kernel_rfl) ?_
  refine tk 0 rfl (by kernel_rfl) (by kernel_rfl) (by kernel_rfl) rfl (fun _ hs => hs) (rp rfl) ?_
  refine tk 1 rfl (by kernel_rfl) (by kernel_rfl) (by kernel_rfl) rfl (fun _ hs => hs) (D_nilc rfl rfl) ?_
  refine tk 2 rfl (by kernel_rfl) (by kernel_rfl) (by kernel_rfl) rfl (fun _ hs => hs) (D_fb f_62_1 rfl rfl (q := 1) rfl) ?_
  refine tk 3 rfl (by kernel_rfl) (by kernel_rfl) (by kernel_rfl) rfl (fun _ hs => hs) (lb 0 o_3 rfl rfl rfl rfl) ?_
  refine tk 4 rfl (by kernel_rfl) (by kernel_rfl) (by kernel_rfl) rfl (fun _ hs => hs) (rp rfl) ?_
  refine tk 5 rfl (by kernel_rfl) (by kernel_rfl) (by kernel_rfl) rfl (fun _ hs => hs) (D_nilc rfl rfl) ?_
  refine tk 6 rfl (by kernel_rfl) (by kernel_rfl) (by kernel_rfl) rfl (fun _ hs => hs) (D_fb f_62_0 rfl rfl (q := 0) rfl) ?_
  refine tk 7 rfl (by kernel_rfl) (by kernel_rfl) (by kernel_rfl) rfl (fun _ hs => hs) (lb 0 o_22 rfl rfl rfl rfl) ?_
  refine tk 8 rfl (by kernel_rfl) (by kernel_rfl) (by kernel_rfl) rfl (fun _ hs => hs) (D_len s_22 rfl rfl (rd_sl h_c)) ?_
  refine tk 9 rfl (by kernel_rfl) (by kernel_rfl) (by kernel_rfl) rfl (fun _ hs => hs) (rp rfl) ?_
  refine tE (by kernel_rfl) ?_
  refine x_then ?_
  refine C_if _ rfl (fun h2 => ?_) (fun h2 => ?_)
  · have pr2 : (ci : Int) < ((code.length : Nat) : Int) := of_decide_eq_true h2
    refine C_seq ?_
    refine C_draw mixed [] (by kernel_rfl) ?_
    have hx0 := and_255 (xorZ (shrZ (wr (mulZ ch 6364136223846793005 + 1442695040888963407)) 35) (shrZ (wr (mulZ ch 6364136223846793005 + 1442695040888963407)) 45))
    refine tk 0 rfl (by kernel_rfl) (by kernel_rfl) (by kernel_rfl) rfl (fun _ hs => hs) (rp rfl) ?_
    refine tk 1 rfl (by kernel_rfl) (by kernel_rfl) (by kernel_rfl) rfl (fun _ hs => hs) (rp rfl) ?_
    refine tk 2 rfl (by kernel_rfl) (by kernel_rfl) (by kernel_rfl) rfl (fun _ hs => hs) (D_nilc rfl rfl) ?_
    refine tk 3 rfl (by kernel_rfl) (by kernel_rfl) (by kernel_rfl) rfl (fun _ hs => hs) (D_fb f_62_0 rfl rfl (q := 0) rfl) ?_
    refine tk 4 rfl (by kernel_rfl) (by kernel_rfl) (by kernel_rfl) rfl (fun _ hs => hs) (lb 0 o_22 rfl rfl rfl rfl) ?_
    refine tk 5 rfl (by kernel_rfl) (by kernel_rfl) (by kernel_rfl) rfl (fun _ hs => hs) (rp rfl) ?_
    refine tk 6 rfl (by kernel_rfl) (by kernel_rfl) (by kernel_rfl) rfl (fun _ hs => hs) (D_nilc rfl rfl) ?_
    refine tk 7 rfl (by kernel_rfl) (by kernel_rfl) (by kernel_rfl) rfl (fun _ hs => hs) (D_fb f_62_1 rfl rfl (q := 1) rfl) ?_
    refine tk 8 rfl (by kernel_rfl) (by kernel_rfl) (by kernel_rfl) rfl (fun _ hs => hs) (lb 0 o_3 rfl rfl rfl rfl) ?_
    obtain ⟨x3, hx4⟩ := some_of_lt (l := code) (i := (ci.toNat)) (by omega)
    obtain ⟨es5, at6, hr7⟩ := rd_elem (n := 1) rfl h_c hx4
    obtain rfl : es5 = [.int .u8 (x3.toNat : Int)] := hr7
    have hm8 := x3.toNat_lt
    refine tk 9 rfl (by kernel_rfl) (by kernel_rfl) (by kernel_rfl) rfl (fun _ hs => hs) (D_ix (l := code) (j := (ci.toNat)) s_22 rfl rfl rfl (fun w' hs => (rd_at hs h_c)) (Int.toNat_of_nonneg (by omega)).symm (lt_of_some hx4)) ?_
    refine tk 10 rfl (by kernel_rfl) (by kernel_rfl) (by kernel_rfl) rfl (fun _ hs => hs) (lr0 o_5 rfl rfl at6 rfl) ?_
    refine tk 11 rfl (by kernel_rfl) (by kernel_rfl) (by kernel_rfl) rfl (fun _ hs => hs) (D_cvu ui_3 ⟨_, u8_5⟩ rfl rfl) ?_
    refine tk 12 rfl (by kernel_rfl) (by kernel_rfl) (by kernel_rfl) rfl (fun _ hs => hs) (D_add rfl rfl rfl rfl (by omega)) ?_
    refine tk 13 rfl (by kernel_rfl) (by kernel_rfl) (by kernel_rfl) rfl (fun _ hs => hs) (D_and rfl rfl rfl) ?_
    refine tk 14 rfl (by kernel_rfl) (by kernel_rfl) (by kernel_rfl) rfl (fun _ hs => hs) (rp rfl) ?_
    refine tE (by kernel_rfl) ?_
    refine x_then ?_
    refine D_weak [(0, (.pointer (some ⟨g_c, 0, none⟩))), (3, (.int .i64 (andZ ((andZ (xorZ (shrZ (wr ((mulZ ch 6364136223846793005) + 1442695040888963407)) 35) (shrZ (wr ((mulZ ch 6364136223846793005) + 1442695040888963407)) 45)) 255) + (x3.toNat : Int)) 255)))] ⟨rfl, rfl, trivial⟩ ?_
    refine C_reg ?_
    refine p1 rfl <| p1 rfl ?_
    refine q1 rfl (D_nilc rfl rfl) ?_
    refine q1 rfl (D_fb f_62_1 rfl rfl (q := 1) rfl) ?_
    refine q1 rfl (lb 0 o_3 rfl rfl rfl rfl) ?_
    refine q1 rfl (D_add rfl rfl rfl rfl (by omega)) ?_
    refine q1 rfl (D_nilc rfl rfl) ?_
    refine q1 rfl (D_fb f_62_1 rfl rfl (q := 1) rfl) ?_
    refine li rfl (D_stb (vs := [(.int .i64 (ci + 1))]) (cs' := [v_c, (.int .i64 (ci + 1)), (.int .i64 (wr ((mulZ ch 6364136223846793005) + 1442695040888963407)))]) 0 z_3 rfl rfl rfl rfl rfl rfl (ocons rfl onil) (by simp) rfl ?_)
    refine D_end ?_
    refine x_then ?_
    refine D_H (bx g_c [v_c, (.int .i64 (ci + 1)), (.int .i64 (wr ((mulZ ch 6364136223846793005) + 1442695040888963407)))] :: Hs) rfl ?_
    refine C_seq ?_
    refine C_reg ?_
    refine p1 rfl <| p1 rfl ?_
    refine D_end ?_
    refine x_then ?_
    refine C_ret ?_
    refine D_cuc (n := code.length) (by omega) ?_
    refine R_1 rfl rfl fun w' hs => ⟨(andZ ((andZ (xorZ (shrZ (wr ((mulZ ch 6364136223846793005) + 1442695040888963407)) 35) (shrZ (wr ((mulZ ch 6364136223846793005) + 1442695040888963407)) 45)) 255) + (x3.toNat : Int)) 255), ?_, rfl, hs⟩
    exact and_255 _
  · have pr2 : ¬ (ci : Int) < ((code.length : Nat) : Int) := of_decide_eq_false h2
    refine C_skip ?_
    refine x_then ?_
    refine C_seq ?_
    refine C_reg ?_
    refine p1 rfl <| p1 rfl ?_
    refine D_end ?_
    refine x_then ?_
    refine C_ret ?_
    refine D_cuc (n := code.length) (by omega) ?_
    refine R_1 rfl rfl fun w' hs => ⟨(andZ (xorZ (shrZ (wr ((mulZ ch 6364136223846793005) + 1442695040888963407)) 35) (shrZ (wr ((mulZ ch 6364136223846793005) + 1442695040888963407)) 45)) 255), ?_, rfl, hs⟩
    exact and_255 _

theorem spec_l1Below (w0 : World) (Hs : List Chunk) (w : World) (g_c : Nat) (v_c : Value) (code : List UInt8) (n : Int) (h_c : Gd.rd w0 [v_c] code) (hst : St w0 (cu g_c v_c code.length :: Hs) w) : Calls Try.prog 60 [(.pointer (some ⟨g_c, 0, none⟩)), (.int .i64 n)].toArray w (fun e w' => ∃ y : Int, (0 ≤ y ∧ (0 < n → y < n)) ∧ e = .returned (.int .i64 y) ∧ St w0 (cu g_c v_c code.length :: Hs) w') := by
  have hm1 := rd_max h_c
  refine enterS 31 Try.func60 rfl rfl rfl hst ?_
  refine C_seq ?_
  refine C_reg ?_
  refine p1 rfl ?_
  refine D_end ?_
  refine x_then ?_
  refine D_H (cu g_c v_c code.length :: Hs) rfl ?_
  refine C_seq ?_
  refine C_seq ?_
  refine C_reg ?_
  refine p1 rfl <| p1 rfl ?_
  refine D_end ?_
  refine x_then ?_
  refine C_if _ rfl (fun h2 => ?_) (fun h2 => ?_)
  · have pr2 : (n : Int) ≤ 0 := of_decide_eq_true h2
    refine C_seq ?_
    refine C_reg ?_
    refine p1 rfl ?_
    refine D_end ?_
    refine x_then ?_
    refine C_ret ?_
    refine x_then_ret ?_
    refine R_1 rfl rfl fun w' hs => ⟨0, ?_, rfl, hs⟩
    exact ⟨by omega, fun h => by omega⟩
  · have pr2 : ¬ (n : Int) ≤ 0 := of_decide_eq_false h2
    refine C_skip ?_
    refine x_then ?_
    refine C_seq ?_
    refine C_seq ?_
    refine C_reg ?_
    refine p1 rfl <| p1 rfl ?_
    refine D_end ?_
    refine x_then ?_
    refine C_if _ rfl (fun h3 => ?_) (fun h3 => ?_)
    · have pr3 : (n : Int) ≤ 256 := of_decide_eq_true h3
      refine C_seq ?_
      refine C_reg ?_
      refine p1 rfl ?_
      refine li rfl (ccI b_80 rfl rfl rfl rfl (fun w' hs => spec_l1Byte _ _ w' g_c v_c code h_c hs) fun y4 hy4 => ?_)
      have hy4l := hy4.1
      have hy4r := hy4.2
      refine p1 rfl ?_
      refine q1 rfl (D_remv rfl rfl rfl (by omega)) ?_
      refine p1 rfl ?_
      refine D_end ?_
      refine x_then ?_
      refine C_ret ?_
      refine x_then_ret ?_
      refine R_1 rfl rfl fun w' hs => ⟨(Int.tmod y4 n), ?_, rfl, hs⟩
      exact tmod_post (by omega) (by omega)
    · have pr3 : ¬ (n : Int) ≤ 256 := of_decide_eq_false h3
      refine C_skip ?_
      refine x_then ?_
      refine C_seq ?_
      refine C_reg ?_
      refine p1 rfl ?_
      refine li rfl (ccI b_80 rfl rfl rfl rfl (fun w' hs => spec_l1Byte _ _ w' g_c v_c code h_c hs) fun y5 hy5 => ?_)
      have hy5l := hy5.1
      have hy5r := hy5.2
      refine p1 rfl ?_
      refine D_end ?_
      refine x_then ?_
      refine C_seq ?_
      refine C_reg ?_
      refine p1 rfl ?_
      refine li rfl (ccI b_80 rfl rfl rfl rfl (fun w' hs => spec_l1Byte _ _ w' g_c v_c code h_c hs) fun y6 hy6 => ?_)
      have hy6l := hy6.1
      have hy6r := hy6.2
      refine p1 rfl ?_
      refine D_end ?_
      refine x_then ?_
      refine C_seq ?_
      refine C_reg ?_
      refine p1 rfl ?_
      refine li rfl (ccI b_80 rfl rfl rfl rfl (fun w' hs => spec_l1Byte _ _ w' g_c v_c code h_c hs) fun y7 hy7 => ?_)
      have hy7l := hy7.1
      have hy7r := hy7.2
      refine p1 rfl ?_
      refine D_end ?_
      refine x_then ?_
      refine C_seq ?_
      refine C_reg ?_
      refine p1 rfl ?_
      refine q1 rfl (D_mul rfl rfl rfl) ?_
      refine p1 rfl ?_
      refine q1 rfl (D_mul rfl rfl rfl) ?_
      have hm1 : mulZ y5 65536 = y5 * 65536 := mulZ_in (by omega)
      have hm2 : mulZ y6 256 = y6 * 256 := mulZ_in (by omega)
      refine q1 rfl (D_add rfl rfl rfl rfl (by omega)) ?_
      refine p1 rfl ?_
      refine q1 rfl (D_add rfl rfl rfl rfl (by omega)) ?_
      refine p1 rfl ?_
      refine q1 rfl (D_remv rfl rfl rfl (by omega)) ?_
      refine p1 rfl ?_
      refine D_end ?_
      refine x_then ?_
      refine D_weak [(4, (.int .i64 (Int.tmod (((mulZ y5 65536) + (mulZ y6 256)) + y7) n)))] ⟨rfl, trivial⟩ ?_
      refine C_ret ?_
      refine R_1 rfl rfl fun w' hs => ⟨(Int.tmod (((mulZ y5 65536) + (mulZ y6 256)) + y7) n), ?_, rfl, hs⟩
      exact tmod_post (by omega) (by omega)

theorem spec_l1Once (w0 : World) (Hs : List Chunk) (w : World) (g_c : Nat) (v_c : Value) (code : List UInt8) (n : Int) (h_c : Gd.rd w0 [v_c] code) (hst : St w0 (cu g_c v_c code.length :: Hs) w) : Calls Try.prog 42 [(.pointer (some ⟨g_c, 0, none⟩)), (.int .i64 n)].toArray w (fun e w' => ∃ y : Bool, e = .returned (.bool y) ∧ St w0 (cu g_c v_c code.length :: Hs) w') := by
  have hm1 := rd_max h_c
  refine enterS 9 Try.func42 rfl rfl rfl hst ?_
  refine C_seq ?_
  refine C_reg ?_
  refine p1 rfl ?_
  refine D_end ?_
  refine x_then ?_
  refine D_H (cu g_c v_c code.length :: Hs) rfl ?_
  refine C_seq ?_
  refine C_reg ?_
  refine p1 rfl <| p1 rfl ?_
  refine li rfl (ccI b_60 rfl rfl rfl rfl (fun w' hs => spec_l1Below _ _ w' g_c v_c code n h_c hs) fun y2 hy2 => ?_)
  have hy2l := hy2.1
  have hy2r := hy2.2
  refine p1 rfl <| p1 rfl ?_
  refine D_end ?_
  refine x_then ?_
  refine C_ret ?_
  exact R_1 rfl rfl fun w' hs => ⟨_, rfl, hs⟩

theorem spec_l1New (w : World) (v_code : Value) (code : (List UInt8)) (h_code : Gd.rd w [v_code] code) : Calls Try.prog 22 [v_code].toArray w (ResC w v_code code.length) := by
  have hm1 := rd_max h_code
  refine enter 33 Try.func22 rfl rfl rfl ?_
  refine C_seq ?_
  refine C_reg ?_
  refine p1 rfl ?_
  refine D_end ?_
  refine x_then ?_
  refine C_seq ?_
  refine C_reg ?_
  refine p1 rfl ?_
  refine q1 rfl (D_len s_22 rfl rfl (rd_sl h_code)) ?_
  refine q1 rfl (D_mul rfl rfl rfl) ?_
  refine q1 rfl (D_addw rfl rfl rfl) ?_
  refine p1 rfl ?_
  refine D_end ?_
  refine x_then ?_
  refine C_seq ?_
  refine C_seq ?_
  refine C_reg ?_
  refine p1 rfl ?_
  refine D_end ?_
  refine x_then ?_
  refine C_block ?_
  refine C_loop (fun m_ ac w' => ∃ (k : Nat), ∃ (hh : Int), (k ≤ code.length) ∧ m_ = code.length - k ∧ Fits ac 33 [(0, v_code), (3, (.int .i64 hh)), (4, (.int .i64 ((k : Nat) : Int)))] ∧ St w ([]) w') ?_ ?_
  · refine fun ac w' hf hs => ⟨_, 0, (wr (851207 + (mulZ 3 ((code.length : Nat) : Int)))), ?_, rfl, hf.weak ⟨rfl, rfl, rfl, trivial⟩, hs⟩
    · first | assumption | omega | simp
  · rintro m_ ac w' ⟨k, hh, hk, rfl, hf, hs⟩
    refine D.use ?_ hf hs
    clear hf hs ac w'
    refine C_seq ?_
    refine C_seq ?_
    refine C_reg ?_
    refine p1 rfl <| p1 rfl ?_
    refine q1 rfl (D_len s_22 rfl rfl (rd_sl h_code)) ?_
    refine p1 rfl <| p1 rfl ?_
    refine gs 13 rfl rfl (fun h2 => ?_) (fun h2 => ?_)
    · have pr2 : (((k : Nat) : Int) : Int) < ((code.length : Nat) : Int) := of_decide_eq_true h2
      refine p1 rfl <| p1 rfl <| p1 rfl ?_
      refine D_end ?_
      refine x_then ?_
      refine C_if _ rfl (fun h3 => ?_) (fun h3 => ?_)
      · have pr3 : (((k : Nat) : Int) : Int) < 4000 := of_decide_eq_true h3
        refine C_skip ?_
        refine x_then ?_
        refine C_seq ?_
        refine C_block ?_
        refine C_reg ?_
        refine p1 rfl ?_
        refine q1 rfl (D_mul rfl rfl rfl) ?_
        refine p1 rfl <| p1 rfl ?_
        obtain ⟨x4, hx5⟩ := some_of_lt (l := code) (i := k) (by omega)
        obtain ⟨es6, at7, hr8⟩ := rd_elem (n := 1) rfl h_code hx5
        obtain rfl : es6 = [.int .u8 (x4.toNat : Int)] := hr8
        have hm9 := x4.toNat_lt
        refine q1 rfl (D_ix (l := code) (j := k) s_22 rfl rfl rfl (fun w' hs => (rd_at hs h_code)) rfl (lt_of_some hx5)) ?_
        refine q1 rfl (lr0 o_5 rfl rfl at7 rfl) ?_
        refine q1 rfl (D_cvu ui_3 ⟨_, u8_5⟩ rfl rfl) ?_
        refine q1 rfl (D_addw rfl rfl rfl) ?_
        refine q1 rfl (D_addw rfl rfl rfl) ?_
        refine q1 rfl (D_and rfl rfl rfl) ?_
        refine p1 rfl ?_
        refine D_end ?_
        refine x_blk ?_
        refine x_then ?_
        refine D_weak [(0, v_code), (3, (.int .i64 (andZ (wr ((wr ((mulZ hh 167) + (x4.toNat : Int))) + 29)) 1073741823))), (4, (.int .i64 ((k : Nat) : Int)))] ⟨rfl, rfl, rfl, trivial⟩ ?_
        refine C_reg ?_
        refine p1 rfl ?_
        refine q1 rfl (D_add rfl rfl rfl (r := ((k + 1 : Nat) : Int)) (by omega) (by omega)) ?_
        refine p1 rfl ?_
        refine D_end ?_
        refine x_then ?_
        refine fun ac w' hf hs => ⟨_, ?_, k + 1, (andZ (wr ((wr ((mulZ hh 167) + (x4.toNat : Int))) + 29)) 1073741823), ?_, rfl, hf.weak ⟨rfl, rfl, rfl, trivial⟩, hs⟩
        · omega
        · first | assumption | omega | simp
      · have pr3 : ¬ (((k : Nat) : Int) : Int) < 4000 := of_decide_eq_false h3
        refine C_exit ?_
        refine x_then_exit ?_
        refine x_then_exit ?_
        refine x_blk_eq ?_
        refine x_then ?_
        refine C_seq ?_
        refine C_reg ?_
        refine p1 rfl <| p1 rfl ?_
        refine q1 rfl (D_built (vs := [(0, v_code), (2, (.int .i64 hh))]) (xs := [(0, [v_code]), (2, [(.int .i64 hh)])]) (cs := [v_code, (.int .i64 0), (.int .i64 hh)]) pl_62 rfl ⟨rfl, (cells_of_one (one_rd h_code)), ⟨rfl, rfl, trivial⟩⟩ rfl rfl) ?_
        refine li rfl (D_box rfl rfl rfl rfl rfl fun g10 => ?_)
        refine p1 rfl ?_
        refine D_end ?_
        refine x_then ?_
        refine D_weak [(2, (.pointer (some ⟨g10, 0, none⟩)))] ⟨rfl, trivial⟩ ?_
        refine D_H ([bx g10 [v_code, (.int .i64 0), (.int .i64 hh)]]) rfl ?_
        refine C_ret ?_
        refine D_cuc (n := code.length) (by omega) ?_
        exact R_1 rfl rfl fun w' hs => resC_of (k := 0) hs rfl
    · have pr2 : ¬ (((k : Nat) : Int) : Int) < ((code.length : Nat) : Int) := of_decide_eq_false h2
      refine n1 rfl ?_
      refine n1 rfl ?_
      refine p1 rfl ?_
      refine D_end ?_
      refine x_then ?_
      refine C_f rfl ?_
      refine C_exit ?_
      refine x_then_exit ?_
      refine x_then_exit ?_
      refine x_blk_eq ?_
      refine x_then ?_
      refine C_seq ?_
      refine C_reg ?_
      refine p1 rfl <| p1 rfl ?_
      refine q1 rfl (D_built (vs := [(0, v_code), (2, (.int .i64 hh))]) (xs := [(0, [v_code]), (2, [(.int .i64 hh)])]) (cs := [v_code, (.int .i64 0), (.int .i64 hh)]) pl_62 rfl ⟨rfl, (cells_of_one (one_rd h_code)), ⟨rfl, rfl, trivial⟩⟩ rfl rfl) ?_
      refine li rfl (D_box rfl rfl rfl rfl rfl fun g11 => ?_)
      refine p1 rfl ?_
      refine D_end ?_
      refine x_then ?_
      refine D_weak [(2, (.pointer (some ⟨g11, 0, none⟩)))] ⟨rfl, trivial⟩ ?_
      refine D_H ([bx g11 [v_code, (.int .i64 0), (.int .i64 hh)]]) rfl ?_
      refine C_ret ?_
      refine D_cuc (n := code.length) (by omega) ?_
      exact R_1 rfl rfl fun w' hs => resC_of (k := 0) hs rfl

theorem spec_l11Nodes (w0 : World) (Hs : List Chunk) (w : World) (g_c : Nat) (v_c : Value) (code : List UInt8) (n : Int) (most : Int) (h_c : Gd.rd w0 [v_c] code) (hm : most ≤ 1000) (hn : n ≤ 1000) (hst : St w0 (cu g_c v_c code.length :: Hs) w) : Calls Try.prog 40 [(.pointer (some ⟨g_c, 0, none⟩)), (.int .i64 n), (.int .i64 most)].toArray w (fun e w' => ∃ (y : List Int) (cs : List Value), (asc y n = true ∧ (y.length : Int) ≤ max most 0) ∧ e = .returned (Gd.vl (List Int) cs) ∧ St w0 (ov cs y :: cu g_c v_c code.length :: Hs) w') := by
  have hm1 := rd_max h_c
  refine enterS 28 Try.func40 rfl rfl rfl hst ?_
  refine C_seq ?_
  refine C_reg ?_
  refine p1 rfl ?_
  refine D_end ?_
  refine x_then ?_
  refine D_H (cu g_c v_c code.length :: Hs) rfl ?_
  refine C_seq ?_
  refine C_reg ?_
  refine li rfl (D_bs0 (α := Int) s_27 rfl rfl rfl fun v2 => ?_)
  refine p1 rfl ?_
  refine D_end ?_
  refine x_then ?_
  refine D_H (ov [v2] ([] : (List Int)) :: cu g_c v_c code.length :: Hs) rfl ?_
  refine C_seq ?_
  refine C_seq ?_
  refine C_reg ?_
  refine p1 rfl ?_
  refine D_end ?_
  refine x_then ?_
  refine C_block ?_
  refine C_loop (fun m_ ac w' => ∃ (k : Nat), ∃ (l : List Int), ∃ (v : Value), ((k : Int) ≤ max n 0) ∧ (asc l (k : Int) = true) ∧ ((l.length : Int) ≤ max most 0) ∧ m_ = (n - k).toNat ∧ Fits ac 28 [(0, (.pointer (some ⟨g_c, 0, none⟩))), (1, (.int .i64 n)), (2, (.int .i64 most)), (7, v), (8, (.int .i64 ((k : Nat) : Int)))] ∧ St w0 (ov [v] (l : (List Int)) :: cu g_c v_c code.length :: Hs) w') ?_ ?_
  · refine D_eq 0 rfl (show ([] : (List Int)) = ([]) from by first | rfl | simp | (simp; omega)) ?_
    refine fun ac w' hf hs => ⟨_, 0, [], v2, ?_, ?_, ?_, rfl, hf.weak ⟨rfl, rfl, rfl, rfl, rfl, trivial⟩, hs⟩
    · first | assumption | omega | simp
    · rfl
    · simp; omega
  · rintro m_ ac w' ⟨k, l, v, hk, ha, hl, rfl, hf, hs⟩
    refine D.use ?_ hf hs
    clear hf hs ac w'
    refine C_seq ?_
    refine C_seq ?_
    refine C_reg ?_
    refine p1 rfl <| p1 rfl <| p1 rfl <| p1 rfl ?_
    refine gs 13 rfl rfl (fun h3 => ?_) (fun h3 => ?_)
    · have pr3 : (((k : Nat) : Int) : Int) < n := of_decide_eq_true h3
      refine p1 rfl ?_
      refine q1 rfl (D_leno 0 s_27 rfl rfl rfl) ?_
      refine p1 rfl <| p1 rfl <| p1 rfl ?_
      refine D_end ?_
      refine x_then ?_
      refine D_H (ov [v] (l : (List Int)) :: cu g_c v_c code.length :: Hs) rfl ?_
      refine C_if _ rfl (fun h4 => ?_) (fun h4 => ?_)
      · have pr4 : (((l.length : Nat) : Int) : Int) < most := of_decide_eq_true h4
        refine C_skip ?_
        refine x_then ?_
        refine C_seq ?_
        refine C_block ?_
        refine C_seq ?_
        refine C_reg ?_
        refine p1 rfl ?_
        refine D_fd [1] 0 rfl ?_
        refine li rfl (ccB b_42 rfl rfl rfl rfl (fun w' hs => spec_l1Once _ _ w' g_c v_c code 3 h_c hs) fun y5 => ?_)
        refine D_end ?_
        refine x_then ?_
        refine D_H (cu g_c v_c code.length :: ov [v] (l : (List Int)) :: Hs) rfl ?_
        refine C_if _ rfl (fun h6 => ?_) (fun h6 => ?_)
        · refine C_reg ?_
          refine p1 rfl <| p1 rfl ?_
          refine li rfl (D_bs s_27 y_3 rfl (by decide) (by decide) rfl rfl rfl rfl rfl rfl fun g7 => ?_)
          refine D_fi ((k : Nat) : Int) ?_
          refine D_fd [1, 1, 3] 0 rfl ?_
          refine li rfl (D_ap s_27 y_3 rfl (by decide) rfl rfl rfl rfl rfl rfl (by first | omega | (simp; omega)) (by first | omega | (simp; omega)) fun v8 => ?_)
          refine p1 rfl ?_
          refine D_end ?_
          refine x_blk ?_
          refine x_then ?_
          refine D_weak [(0, (.pointer (some ⟨g_c, 0, none⟩))), (1, (.int .i64 n)), (2, (.int .i64 most)), (7, v8), (8, (.int .i64 ((k : Nat) : Int)))] ⟨rfl, rfl, rfl, rfl, rfl, trivial⟩ ?_
          refine D_H (ov [v8] (l ++ [((k : Nat) : Int)] : (List Int)) :: cu g_c v_c code.length :: Hs) rfl ?_
          refine C_reg ?_
          refine p1 rfl ?_
          refine q1 rfl (D_add rfl rfl rfl (r := ((k + 1 : Nat) : Int)) (by omega) (by omega)) ?_
          refine p1 rfl ?_
          refine D_end ?_
          refine x_then ?_
          refine D_eq 0 rfl (show (l ++ [((k : Nat) : Int)] : (List Int)) = (l ++ [((k : Nat) : Int)]) from by first | rfl | simp | (simp; omega)) ?_
          refine fun ac w' hf hs => ⟨_, ?_, k + 1, l ++ [((k : Nat) : Int)], v8, ?_, ?_, ?_, rfl, hf.weak ⟨rfl, rfl, rfl, rfl, rfl, trivial⟩, hs⟩
          · omega
          · first | assumption | omega | simp
          · first | exact asc_snoc ha | exact asc_mono ha (by omega)
          · first | (simp; omega) | omega
        · refine C_skip ?_
          refine x_blk ?_
          refine x_then ?_
          refine C_reg ?_
          refine p1 rfl ?_
          refine q1 rfl (D_add rfl rfl rfl (r := ((k + 1 : Nat) : Int)) (by omega) (by omega)) ?_
          refine p1 rfl ?_
          refine D_end ?_
          refine x_then ?_
          refine fun ac w' hf hs => ⟨_, ?_, k + 1, l, v, ?_, ?_, ?_, rfl, hf.weak ⟨rfl, rfl, rfl, rfl, rfl, trivial⟩, hs.fd [0, 1] 0 rfl⟩
          · omega
          · first | assumption | omega | simp
          · first | exact asc_snoc ha | exact asc_mono ha (by omega)
          · first | (simp; omega) | omega
      · have pr4 : ¬ (((l.length : Nat) : Int) : Int) < most := of_decide_eq_false h4
        refine C_exit ?_
        refine x_then_exit ?_
        refine x_then_exit ?_
        refine x_blk_eq ?_
        refine x_then ?_
        refine C_seq ?_
        refine C_reg ?_
        refine p1 rfl <| p1 rfl ?_
        refine D_end ?_
        refine x_then ?_
        refine D_weak [(6, v)] ⟨rfl, trivial⟩ ?_
        refine C_ret ?_
        refine R_1 rfl rfl fun w' hs => ⟨l, [v], ?_, rfl, hs⟩
        exact ⟨asc_end ha hk, hl⟩
    · have pr3 : ¬ (((k : Nat) : Int) : Int) < n := of_decide_eq_false h3
      refine n1 rfl ?_
      refine n1 rfl ?_
      refine n1 rfl ?_
      refine n1 rfl ?_
      refine p1 rfl ?_
      refine D_end ?_
      refine x_then ?_
      refine D_H (ov [v] (l : (List Int)) :: cu g_c v_c code.length :: Hs) rfl ?_
      refine C_f rfl ?_
      refine C_exit ?_
      refine x_then_exit ?_
      refine x_then_exit ?_
      refine x_blk_eq ?_
      refine x_then ?_
      refine C_seq ?_
      refine C_reg ?_
      refine p1 rfl <| p1 rfl ?_
      refine D_end ?_
      refine x_then ?_
      refine D_weak [(6, v)] ⟨rfl, trivial⟩ ?_
      refine C_ret ?_
      refine R_1 rfl rfl fun w' hs => ⟨l, [v], ?_, rfl, hs⟩
      exact ⟨asc_end ha hk, hl⟩

set_option maxHeartbeats 4000000 in
theorem spec_l11Draw (w0 : World) (Hs : List Chunk) (w : World) (g_c : Nat) (v_c : Value) (code : List UInt8) (most : Int) (outs : Bool) (h_c : Gd.rd w0 [v_c] code) (hq0 : 1 ≤ most) (hq1 : most ≤ 12) (hst : St w0 (cu g_c v_c code.length :: Hs) w) : Calls Try.prog 59 [(.pointer (some ⟨g_c, 0, none⟩)), (.int .i64 most), (.bool outs)].toArray w (fun e w' => ∃ (y : Beliefs) (cs : List Value), (drawn y most outs) ∧ e = .returned (Gd.vl (Beliefs) cs) ∧ St w0 (ov cs y :: cu g_c v_c code.length :: Hs) w') := by
  have hm1 := rd_max h_c
  have hmu : mulZ 2 most = 2 * most := mulZ_in (by omega)
  refine enterS 76 Try.func59 rfl rfl rfl hst ?_
  refine C_seq ?_
  refine C_reg ?_
  refine li rfl (D_alloc y_26 rfl rfl rfl rfl fun g2 => ?_)
  refine D_end ?_
  refine x_then ?_
  refine D_H (bx g2 [(.int .i64 0), (.slice none 0 0)] :: cu g_c v_c code.length :: Hs) rfl ?_
  refine C_seq ?_
  refine C_reg ?_
  refine p1 rfl <| p1 rfl ?_
  refine D_fd [1] 0 rfl ?_
  refine li rfl (ccI b_60 rfl rfl rfl rfl (fun w' hs => spec_l1Below _ _ w' g_c v_c code most h_c hs) fun y3 hy3 => ?_)
  have hy3l := hy3.1
  have hy3r := hy3.2
  refine q1 rfl (D_add rfl rfl rfl rfl (by omega)) ?_
  refine q1 rfl (D_build (vs := [(0, (.int .i64 (1 + y3)))]) (cs := [(.int .i64 (1 + y3)), (.slice none 0 0)]) rfl (fun _ => by kernel_rfl) rfl) ?_
  refine li rfl (D_alloc y_26 rfl rfl rfl rfl fun g4 => ?_)
  refine li rfl (D_stb (vs := [(.int .i64 (1 + y3)), (.slice none 0 0)]) (cs' := [(.int .i64 (1 + y3)), (.slice none 0 0)]) 0 z_26 rfl rfl rfl rfl rfl rfl (ocons rfl (ocons rfl onil)) (by simp) rfl ?_)
  refine D_end ?_
  refine x_then ?_
  refine D_H (bx g4 [(.int .i64 (1 + y3)), (.slice none 0 0)] :: cu g_c v_c code.length :: bx g2 [(.int .i64 0), (.slice none 0 0)] :: Hs) rfl ?_
  refine C_seq ?_
  refine C_seq ?_
  refine C_reg ?_
  refine p1 rfl <| p1 rfl ?_
  refine q1 rfl (D_mul rfl rfl rfl) ?_
  refine D_fd [1] 0 rfl ?_
  refine li rfl (ccI b_60 rfl rfl rfl rfl (fun w' hs => spec_l1Below _ _ w' g_c v_c code (mulZ 2 most) h_c hs) fun y5 hy5 => ?_)
  have hy5l := hy5.1
  have hy5r := hy5.2
  refine p1 rfl ?_
  refine D_end ?_
  refine x_then ?_
  refine D_H (cu g_c v_c code.length :: bx g4 [(.int .i64 (1 + y3)), (.slice none 0 0)] :: bx g2 [(.int .i64 0), (.slice none 0 0)] :: Hs) rfl ?_
  refine C_block ?_
  refine C_loop (fun m_ ac w' => ∃ (nn : Int), ∃ (rs : List Reason), ∃ (v : Value), (0 ≤ nn) ∧ ((rs.length : Int) + nn < 2 * most) ∧ (∀ r ∈ rs, isReason r (1 + y3) = true) ∧ (outs = false → ∀ r ∈ rs, r.Out = []) ∧ m_ = nn.toNat ∧ Fits ac 76 [(0, (.pointer (some ⟨g_c, 0, none⟩))), (2, (.bool outs)), (6, (.pointer (some ⟨g2, 0, none⟩))), (7, (.pointer (some ⟨g4, 0, none⟩))), (8, (.int .i64 nn))] ∧ St w0 (ov [v] (rs : (List Reason)) :: cu g_c v_c code.length :: bx g4 [(.int .i64 (1 + y3)), v] :: bx g2 [(.int .i64 0), (.slice none 0 0)] :: Hs) w') ?_ ?_
  · refine D_nil (α := Reason) ?_
    refine D_eq 0 rfl (show ([] : (List Reason)) = ([]) from by first | rfl | simp | (simp; omega)) ?_
    refine fun ac w' hf hs => ⟨_, y5, [], (.slice none 0 0), ?_, ?_, ?_, ?_, rfl, hf.weak ⟨rfl, rfl, rfl, rfl, rfl, trivial⟩, hs⟩
    · first | assumption | omega | simp
    · simp; omega
    · intro r hr; cases hr
    · intro _ r hr; cases hr
  · rintro m_ ac w' ⟨nn, rs, v, hn0, hln, hval, hout, rfl, hf, hs⟩
    refine D.use ?_ hf hs
    clear hf hs ac w'
    refine C_seq ?_
    refine C_seq ?_
    refine C_reg ?_
    refine p1 rfl <| p1 rfl ?_
    refine D_end ?_
    refine x_then ?_
    refine D_H (ov [v] (rs : (List Reason)) :: cu g_c v_c code.length :: bx g4 [(.int .i64 (1 + y3)), v] :: bx g2 [(.int .i64 0), (.slice none 0 0)] :: Hs) rfl ?_
    refine C_if _ rfl (fun h6 => ?_) (fun h6 => ?_)
    · have pr6 : (0 : Int) < nn := of_decide_eq_true h6
      refine C_skip ?_
      refine x_then ?_
      refine C_seq ?_
      refine C_block ?_
      refine C_seq ?_
      refine C_reg ?_
      refine p1 rfl ?_
      refine q1 rfl (D_fb f_26_0 rfl rfl (q := 0) rfl) ?_
      refine q1 rfl (lb 2 o_3 rfl rfl rfl rfl) ?_
      refine D_fd [1] 0 rfl ?_
      refine li rfl (ccI b_60 rfl rfl rfl rfl (fun w' hs => spec_l1Below _ _ w' g_c v_c code (1 + y3) h_c hs) fun y7 hy7 => ?_)
      have hy7l := hy7.1
      have hy7r := hy7.2
      refine q1 rfl (D_build (vs := [(0, (.int .i64 y7))]) (cs := [(.int .i64 y7), (.slice none 0 0), (.slice none 0 0)]) rfl (fun _ => by kernel_rfl) rfl) ?_
      refine li rfl (D_alloc y_31 rfl rfl rfl rfl fun g8 => ?_)
      refine li rfl (D_stb (vs := [(.int .i64 y7), (.slice none 0 0), (.slice none 0 0)]) (cs' := [(.int .i64 y7), (.slice none 0 0), (.slice none 0 0)]) 0 z_31 rfl rfl rfl rfl rfl rfl (ocons rfl (ocons rfl (ocons rfl onil))) (by simp) rfl ?_)
      refine D_end ?_
      refine x_then ?_
      refine D_H (bx g8 [(.int .i64 y7), (.slice none 0 0), (.slice none 0 0)] :: cu g_c v_c code.length :: ov [v] (rs : (List Reason)) :: bx g4 [(.int .i64 (1 + y3)), v] :: bx g2 [(.int .i64 0), (.slice none 0 0)] :: Hs) rfl ?_
      refine C_seq ?_
      refine C_seq ?_
      refine C_reg ?_
      refine p1 rfl ?_
      refine D_fd [1] 0 rfl ?_
      refine li rfl (ccB b_42 rfl rfl rfl rfl (fun w' hs => spec_l1Once _ _ w' g_c v_c code 3 h_c hs) fun y9 => ?_)
      refine p1 rfl ?_
      refine D_end ?_
      refine x_then ?_
      refine D_H (cu g_c v_c code.length :: bx g8 [(.int .i64 y7), (.slice none 0 0), (.slice none 0 0)] :: ov [v] (rs : (List Reason)) :: bx g4 [(.int .i64 (1 + y3)), v] :: bx g2 [(.int .i64 0), (.slice none 0 0)] :: Hs) rfl ?_
      refine C_if _ rfl (fun h10 => ?_) (fun h10 => ?_)
      · have h10n : y9 = false := not_t h10
        refine C_reg ?_
        refine p1 rfl ?_
        refine q1 rfl (D_fb f_26_0 rfl rfl (q := 0) rfl) ?_
        refine q1 rfl (lb 3 o_3 rfl rfl rfl rfl) ?_
        refine li rfl (ccR (α := List Int) b_40 rfl rfl rfl rfl (fun w' hs => spec_l11Nodes _ _ w' g_c v_c code (1 + y3) 2 h_c (by first | assumption | omega) (by first | assumption | omega) hs) fun y11 cs12 hy11 => ?_)
        have hy11l := hy11.1
        have hy11r := hy11.2
        refine D_pre (fun w' hs => rd_cell (rd_own (k := 0) hs rfl)) ?_
        rintro ⟨v13, rfl⟩
        refine D_re 34 (v' := v13) rfl rfl rfl ?_
        refine q1 rfl (D_fb f_31_1 rfl rfl (q := 1) rfl) ?_
        refine D_pre (fun w' hs => one_own (k := 0) hs rfl) ?_
        intro ho14
        refine li rfl (D_stb (vs := [v13]) (cs' := [(.int .i64 y7), v13, (.slice none 0 0)]) 2 z_27 rfl rfl rfl rfl rfl (cells_of_one ho14) (ocons ho14 onil) (by simp) rfl ?_)
        refine D_end ?_
        refine x_then ?_
        refine D_weak [(0, (.pointer (some ⟨g_c, 0, none⟩))), (2, (.bool outs)), (6, (.pointer (some ⟨g2, 0, none⟩))), (7, (.pointer (some ⟨g4, 0, none⟩))), (8, (.int .i64 nn)), (9, (.pointer (some ⟨g8, 0, none⟩)))] ⟨rfl, rfl, rfl, rfl, rfl, rfl, trivial⟩ ?_
        refine D_H (ov [v13] (y11 : (List Int)) :: cu g_c v_c code.length :: bx g8 [(.int .i64 y7), v13, (.slice none 0 0)] :: ov [v] (rs : (List Reason)) :: bx g4 [(.int .i64 (1 + y3)), v] :: bx g2 [(.int .i64 0), (.slice none 0 0)] :: Hs) rfl ?_
        refine C_seq ?_
        refine C_seq ?_
        refine C_reg ?_
        refine p1 rfl <| p1 rfl ?_
        refine gs 37 rfl rfl (fun h15 => ?_) (fun h15 => ?_)
        · refine p1 rfl ?_
          refine D_fd [1] 0 rfl ?_
          refine li rfl (ccB b_42 rfl rfl rfl rfl (fun w' hs => spec_l1Once _ _ w' g_c v_c code 4 h_c hs) fun y16 => ?_)
          refine p1 rfl ?_
          refine D_end ?_
          refine x_then ?_
          refine D_H (cu g_c v_c code.length :: ov [v13] (y11 : (List Int)) :: bx g8 [(.int .i64 y7), v13, (.slice none 0 0)] :: ov [v] (rs : (List Reason)) :: bx g4 [(.int .i64 (1 + y3)), v] :: bx g2 [(.int .i64 0), (.slice none 0 0)] :: Hs) rfl ?_
          refine C_if _ rfl (fun h17 => ?_) (fun h17 => ?_)
          · refine C_reg ?_
            refine p1 rfl ?_
            refine q1 rfl (D_fb f_26_0 rfl rfl (q := 0) rfl) ?_
            refine q1 rfl (lb 4 o_3 rfl rfl rfl rfl) ?_
            refine li rfl (ccR (α := List Int) b_40 rfl rfl rfl rfl (fun w' hs => spec_l11Nodes _ _ w' g_c v_c code (1 + y3) 2 h_c (by first | assumption | omega) (by first | assumption | omega) hs) fun y18 cs19 hy18 => ?_)
            have hy18l := hy18.1
            have hy18r := hy18.2
            refine D_pre (fun w' hs => rd_cell (rd_own (k := 0) hs rfl)) ?_
            rintro ⟨v20, rfl⟩
            refine D_re 44 (v' := v20) rfl rfl rfl ?_
            refine q1 rfl (D_fb f_31_2 rfl rfl (q := 2) rfl) ?_
            refine D_pre (fun w' hs => one_own (k := 0) hs rfl) ?_
            intro ho21
            refine li rfl (D_stb (vs := [v20]) (cs' := [(.int .i64 y7), v13, v20]) 3 z_27 rfl rfl rfl rfl rfl (cells_of_one ho21) (ocons ho21 onil) (by simp) rfl ?_)
            refine D_end ?_
            refine x_then ?_
            refine D_H (ov [v20] (y18 : (List Int)) :: cu g_c v_c code.length :: ov [v13] (y11 : (List Int)) :: bx g8 [(.int .i64 y7), v13, v20] :: ov [v] (rs : (List Reason)) :: bx g4 [(.int .i64 (1 + y3)), v] :: bx g2 [(.int .i64 0), (.slice none 0 0)] :: Hs) rfl ?_
            refine C_seq ?_
            refine C_seq ?_
            refine C_reg ?_
            refine p1 rfl <| p1 rfl ?_
            refine gs 47 rfl rfl (fun h22 => ?_) (fun h22 => ?_)
            · refine p1 rfl ?_
              refine D_fd [1] 0 rfl ?_
              refine li rfl (ccB b_42 rfl rfl rfl rfl (fun w' hs => spec_l1Once _ _ w' g_c v_c code 2 h_c hs) fun y23 => ?_)
              refine p1 rfl <| p1 rfl ?_
              refine gs 51 rfl rfl (fun h24 => ?_) (fun h24 => ?_)
              · refine q1 rfl (D_fb f_31_2 rfl rfl (q := 2) rfl) ?_
                refine q1 rfl (lb 3 o_27 rfl rfl rfl rfl) ?_
                refine q1 rfl (D_leno 1 s_27 rfl rfl rfl) ?_
                refine p1 rfl <| p1 rfl ?_
                refine D_end ?_
                refine x_then ?_
                refine D_weak [(0, (.pointer (some ⟨g_c, 0, none⟩))), (2, (.bool outs)), (6, (.pointer (some ⟨g2, 0, none⟩))), (7, (.pointer (some ⟨g4, 0, none⟩))), (8, (.int .i64 nn)), (9, (.pointer (some ⟨g8, 0, none⟩))), (56, (.bool (decide ((0 : Int) < ((y18.length : Nat) : Int)))))] ⟨rfl, rfl, rfl, rfl, rfl, rfl, rfl, trivial⟩ ?_
                refine D_H (cu g_c v_c code.length :: ov [v20] (y18 : (List Int)) :: ov [v13] (y11 : (List Int)) :: bx g8 [(.int .i64 y7), v13, v20] :: ov [v] (rs : (List Reason)) :: bx g4 [(.int .i64 (1 + y3)), v] :: bx g2 [(.int .i64 0), (.slice none 0 0)] :: Hs) rfl ?_
                refine C_if _ rfl (fun h25 => ?_) (fun h25 => ?_)
                · have pr25 : (0 : Int) < ((y18.length : Nat) : Int) := of_decide_eq_true h25
                  refine C_seq ?_
                  refine C_reg ?_
                  refine q1 rfl (D_fb f_26_0 rfl rfl (q := 0) rfl) ?_
                  refine q1 rfl (lb 5 o_3 rfl rfl rfl rfl) ?_
                  refine q1 rfl (D_sub rfl rfl rfl rfl (by omega)) ?_
                  refine q1 rfl (D_fb f_31_0 rfl rfl (q := 0) rfl) ?_
                  refine li rfl (D_stb (vs := [(.int .i64 ((1 + y3) - 1))]) (cs' := [(.int .i64 ((1 + y3) - 1)), v13, v20]) 3 z_3 rfl rfl rfl rfl rfl rfl (ocons rfl onil) (by simp) rfl ?_)
                  refine D_end ?_
                  refine x_then ?_
                  refine D_H (cu g_c v_c code.length :: ov [v20] (y18 : (List Int)) :: ov [v13] (y11 : (List Int)) :: bx g8 [(.int .i64 ((1 + y3) - 1)), v13, v20] :: ov [v] (rs : (List Reason)) :: bx g4 [(.int .i64 (1 + y3)), v] :: bx g2 [(.int .i64 0), (.slice none 0 0)] :: Hs) rfl ?_
                  refine C_reg ?_
                  refine p1 rfl ?_
                  refine q1 rfl (D_fb f_26_0 rfl rfl (q := 0) rfl) ?_
                  refine q1 rfl (lb 5 o_3 rfl rfl rfl rfl) ?_
                  refine q1 rfl (D_quo rfl rfl rfl (by omega) (by omega)) ?_
                  refine q1 rfl (D_max rfl rfl rfl) ?_
                  refine li rfl (ccI b_60 rfl rfl rfl rfl (fun w' hs => spec_l1Below _ _ w' g_c v_c code (max 1 ((1 + y3) / 2)) h_c hs) fun y26 hy26 => ?_)
                  have hy26l := hy26.1
                  have hy26r := hy26.2
                  refine li rfl (D_bsl (y := y26) s_27 y_3 rfl rfl rfl rfl rfl fun v28 => ?_)
                  refine q1 rfl (D_fb f_31_2 rfl rfl (q := 2) rfl) ?_
                  refine D_pre (fun w' hs => one_own (k := 0) hs rfl) ?_
                  intro ho29
                  refine li rfl (D_stb (vs := [v28]) (cs' := [(.int .i64 ((1 + y3) - 1)), v13, v28]) 4 z_27 rfl rfl rfl rfl rfl (cells_of_one ho29) (ocons ho29 onil) (by simp) rfl ?_)
                  refine D_end ?_
                  refine x_then ?_
                  refine D_H (ov [v28] ([y26] : (List Int)) :: cu g_c v_c code.length :: ov [v20] (y18 : (List Int)) :: ov [v13] (y11 : (List Int)) :: bx g8 [(.int .i64 ((1 + y3) - 1)), v13, v28] :: ov [v] (rs : (List Reason)) :: bx g4 [(.int .i64 (1 + y3)), v] :: bx g2 [(.int .i64 0), (.slice none 0 0)] :: Hs) rfl ?_
                  refine C_reg ?_
                  refine q1 rfl (D_fb f_26_1 rfl rfl (q := 1) rfl) ?_
                  refine q1 rfl (lb 6 o_24 rfl rfl rfl rfl) ?_
                  refine q1 rfl (lbw 4 a_31 rfl rfl rfl) ?_
                  refine li rfl (D_bs s_24 y_31 rfl (by decide) (by decide) rfl rfl rfl rfl rfl rfl fun g30 => ?_)
                  refine D_fd [1, 4] 0 rfl ?_
                  refine pk_Reason (r := (⟨((1 + y3) - 1), y11, [y26]⟩ : Reason)) ?_
                  refine D_fd [1, 1, 5] 0 rfl ?_
                  refine li rfl (D_ap s_24 y_31 rfl (by decide) rfl rfl rfl rfl rfl rfl (by first | omega | (simp; omega)) (by first | omega | (simp; omega)) fun v31 => ?_)
                  refine q1 rfl (D_fb f_26_1 rfl rfl (q := 1) rfl) ?_
                  refine D_pre (fun w' hs => one_own (k := 0) hs rfl) ?_
                  intro ho32
                  refine li rfl (D_stb (vs := [v31]) (cs' := [(.int .i64 (1 + y3)), v31]) 4 z_24 rfl rfl rfl rfl rfl (cells_of_one ho32) (ocons ho32 onil) (by simp) rfl ?_)
                  refine D_end ?_
                  refine x_blk ?_
                  refine x_then ?_
                  refine D_weak [(0, (.pointer (some ⟨g_c, 0, none⟩))), (2, (.bool outs)), (6, (.pointer (some ⟨g2, 0, none⟩))), (7, (.pointer (some ⟨g4, 0, none⟩))), (8, (.int .i64 nn))] ⟨rfl, rfl, rfl, rfl, rfl, trivial⟩ ?_
                  refine D_H (ov [v31] (rs ++ [(⟨((1 + y3) - 1), y11, [y26]⟩ : Reason)] : (List Reason)) :: cu g_c v_c code.length :: ov [v20] (y18 : (List Int)) :: bx g8 [(.int .i64 ((1 + y3) - 1)), v13, v28] :: bx g4 [(.int .i64 (1 + y3)), v31] :: bx g2 [(.int .i64 0), (.slice none 0 0)] :: Hs) rfl ?_
                  refine C_reg ?_
                  refine p1 rfl ?_
                  refine q1 rfl (D_sub rfl rfl rfl rfl (by omega)) ?_
                  refine p1 rfl ?_
                  refine D_end ?_
                  refine x_then ?_
                  refine D_eq 0 rfl (show (rs ++ [(⟨((1 + y3) - 1), y11, [y26]⟩ : Reason)] : (List Reason)) = (rs ++ [(⟨((1 + y3) - 1), y11, [y26]⟩ : Reason)]) from by first | rfl | simp | (simp; omega)) ?_
                  refine fun ac w' hf hs => ⟨_, ?_, (nn - 1), rs ++ [(⟨((1 + y3) - 1), y11, [y26]⟩ : Reason)], v31, ?_, ?_, ?_, ?_, rfl, hf.weak ⟨rfl, rfl, rfl, rfl, rfl, trivial⟩, hs.fd [5, 5, 3, 3, 5, 5] 2 rfl⟩
                  · omega
                  · first | assumption | omega | simp
                  · simp; omega
                  · exact all_snoc hval (isR_mk (by omega) (by first | rfl | assumption | exact asc_one (by omega)) (by first | rfl | assumption | exact asc_one (by omega)))
                  · intro ho; first | (exact all_snoc (hout ho) rfl) | (exfalso; simp_all; done)
                · have pr25 : ¬ (0 : Int) < ((y18.length : Nat) : Int) := of_decide_eq_false h25
                  refine C_skip ?_
                  refine x_then ?_
                  refine C_reg ?_
                  refine q1 rfl (D_fb f_26_1 rfl rfl (q := 1) rfl) ?_
                  refine q1 rfl (lb 5 o_24 rfl rfl rfl rfl) ?_
                  refine q1 rfl (lbw 3 a_31 rfl rfl rfl) ?_
                  refine li rfl (D_bs s_24 y_31 rfl (by decide) (by decide) rfl rfl rfl rfl rfl rfl fun g33 => ?_)
                  refine D_fd [2, 3] 0 rfl ?_
                  refine pk_Reason (r := (⟨y7, y11, y18⟩ : Reason)) ?_
                  refine D_fd [1, 1, 4] 0 rfl ?_
                  refine li rfl (D_ap s_24 y_31 rfl (by decide) rfl rfl rfl rfl rfl rfl (by first | omega | (simp; omega)) (by first | omega | (simp; omega)) fun v34 => ?_)
                  refine q1 rfl (D_fb f_26_1 rfl rfl (q := 1) rfl) ?_
                  refine D_pre (fun w' hs => one_own (k := 0) hs rfl) ?_
                  intro ho35
                  refine li rfl (D_stb (vs := [v34]) (cs' := [(.int .i64 (1 + y3)), v34]) 3 z_24 rfl rfl rfl rfl rfl (cells_of_one ho35) (ocons ho35 onil) (by simp) rfl ?_)
                  refine D_end ?_
                  refine x_blk ?_
                  refine x_then ?_
                  refine D_H (ov [v34] (rs ++ [(⟨y7, y11, y18⟩ : Reason)] : (List Reason)) :: cu g_c v_c code.length :: bx g8 [(.int .i64 y7), v13, v20] :: bx g4 [(.int .i64 (1 + y3)), v34] :: bx g2 [(.int .i64 0), (.slice none 0 0)] :: Hs) rfl ?_
                  refine C_reg ?_
                  refine p1 rfl ?_
                  refine q1 rfl (D_sub rfl rfl rfl rfl (by omega)) ?_
                  refine p1 rfl ?_
                  refine D_end ?_
                  refine x_then ?_
                  refine D_eq 0 rfl (show (rs ++ [(⟨y7, y11, y18⟩ : Reason)] : (List Reason)) = (rs ++ [(⟨y7, y11, y18⟩ : Reason)]) from by first | rfl | simp | (simp; omega)) ?_
                  refine fun ac w' hf hs => ⟨_, ?_, (nn - 1), rs ++ [(⟨y7, y11, y18⟩ : Reason)], v34, ?_, ?_, ?_, ?_, rfl, hf.weak ⟨rfl, rfl, rfl, rfl, rfl, trivial⟩, hs.fd [4, 4, 3, 3, 4] 1 rfl⟩
                  · omega
                  · first | assumption | omega | simp
                  · simp; omega
                  · exact all_snoc hval (isR_mk (by omega) (by first | rfl | assumption | exact asc_one (by omega)) (by first | rfl | assumption | exact asc_one (by omega)))
                  · intro ho; first | (exact all_snoc (hout ho) rfl) | (exfalso; simp_all; done)
              · refine n1 rfl ?_
                refine n1 rfl ?_
                refine n1 rfl ?_
                refine n1 rfl ?_
                refine p1 rfl ?_
                refine D_end ?_
                refine x_then ?_
                refine D_weak [(0, (.pointer (some ⟨g_c, 0, none⟩))), (2, (.bool outs)), (6, (.pointer (some ⟨g2, 0, none⟩))), (7, (.pointer (some ⟨g4, 0, none⟩))), (8, (.int .i64 nn)), (9, (.pointer (some ⟨g8, 0, none⟩))), (56, (.bool false))] ⟨rfl, rfl, rfl, rfl, rfl, rfl, rfl, trivial⟩ ?_
                refine D_H (cu g_c v_c code.length :: ov [v20] (y18 : (List Int)) :: ov [v13] (y11 : (List Int)) :: bx g8 [(.int .i64 y7), v13, v20] :: ov [v] (rs : (List Reason)) :: bx g4 [(.int .i64 (1 + y3)), v] :: bx g2 [(.int .i64 0), (.slice none 0 0)] :: Hs) rfl ?_
                refine C_f rfl ?_
                refine C_skip ?_
                refine x_then ?_
                refine C_reg ?_
                refine q1 rfl (D_fb f_26_1 rfl rfl (q := 1) rfl) ?_
                refine q1 rfl (lb 5 o_24 rfl rfl rfl rfl) ?_
                refine q1 rfl (lbw 3 a_31 rfl rfl rfl) ?_
                refine li rfl (D_bs s_24 y_31 rfl (by decide) (by decide) rfl rfl rfl rfl rfl rfl fun g36 => ?_)
                refine D_fd [2, 3] 0 rfl ?_
                refine pk_Reason (r := (⟨y7, y11, y18⟩ : Reason)) ?_
                refine D_fd [1, 1, 4] 0 rfl ?_
                refine li rfl (D_ap s_24 y_31 rfl (by decide) rfl rfl rfl rfl rfl rfl (by first | omega | (simp; omega)) (by first | omega | (simp; omega)) fun v37 => ?_)
                refine q1 rfl (D_fb f_26_1 rfl rfl (q := 1) rfl) ?_
                refine D_pre (fun w' hs => one_own (k := 0) hs rfl) ?_
                intro ho38
                refine li rfl (D_stb (vs := [v37]) (cs' := [(.int .i64 (1 + y3)), v37]) 3 z_24 rfl rfl rfl rfl rfl (cells_of_one ho38) (ocons ho38 onil) (by simp) rfl ?_)
                refine D_end ?_
                refine x_blk ?_
                refine x_then ?_
                refine D_H (ov [v37] (rs ++ [(⟨y7, y11, y18⟩ : Reason)] : (List Reason)) :: cu g_c v_c code.length :: bx g8 [(.int .i64 y7), v13, v20] :: bx g4 [(.int .i64 (1 + y3)), v37] :: bx g2 [(.int .i64 0), (.slice none 0 0)] :: Hs) rfl ?_
                refine C_reg ?_
                refine p1 rfl ?_
                refine q1 rfl (D_sub rfl rfl rfl rfl (by omega)) ?_
                refine p1 rfl ?_
                refine D_end ?_
                refine x_then ?_
                refine D_eq 0 rfl (show (rs ++ [(⟨y7, y11, y18⟩ : Reason)] : (List Reason)) = (rs ++ [(⟨y7, y11, y18⟩ : Reason)]) from by first | rfl | simp | (simp; omega)) ?_
                refine fun ac w' hf hs => ⟨_, ?_, (nn - 1), rs ++ [(⟨y7, y11, y18⟩ : Reason)], v37, ?_, ?_, ?_, ?_, rfl, hf.weak ⟨rfl, rfl, rfl, rfl, rfl, trivial⟩, hs.fd [4, 4, 3, 3, 4] 1 rfl⟩
                · omega
                · first | assumption | omega | simp
                · simp; omega
                · exact all_snoc hval (isR_mk (by omega) (by first | rfl | assumption | exact asc_one (by omega)) (by first | rfl | assumption | exact asc_one (by omega)))
                · intro ho; first | (exact all_snoc (hout ho) rfl) | (exfalso; simp_all; done)
            · refine n1 rfl ?_
              refine n1 rfl ?_
              refine p1 rfl <| p1 rfl ?_
              refine n1 rfl ?_
              refine n1 rfl ?_
              refine n1 rfl ?_
              refine n1 rfl ?_
              refine p1 rfl ?_
              refine D_end ?_
              refine x_then ?_
              refine D_weak [(0, (.pointer (some ⟨g_c, 0, none⟩))), (2, (.bool outs)), (6, (.pointer (some ⟨g2, 0, none⟩))), (7, (.pointer (some ⟨g4, 0, none⟩))), (8, (.int .i64 nn)), (9, (.pointer (some ⟨g8, 0, none⟩))), (56, (.bool false))] ⟨rfl, rfl, rfl, rfl, rfl, rfl, rfl, trivial⟩ ?_
              refine C_f rfl ?_
              refine C_skip ?_
              refine x_then ?_
              refine C_reg ?_
              refine q1 rfl (D_fb f_26_1 rfl rfl (q := 1) rfl) ?_
              refine q1 rfl (lb 5 o_24 rfl rfl rfl rfl) ?_
              refine q1 rfl (lbw 3 a_31 rfl rfl rfl) ?_
              refine li rfl (D_bs s_24 y_31 rfl (by decide) (by decide) rfl rfl rfl rfl rfl rfl fun g39 => ?_)
              refine D_fd [1, 3] 0 rfl ?_
              refine pk_Reason (r := (⟨y7, y11, y18⟩ : Reason)) ?_
              refine D_fd [1, 1, 4] 0 rfl ?_
              refine li rfl (D_ap s_24 y_31 rfl (by decide) rfl rfl rfl rfl rfl rfl (by first | omega | (simp; omega)) (by first | omega | (simp; omega)) fun v40 => ?_)
              refine q1 rfl (D_fb f_26_1 rfl rfl (q := 1) rfl) ?_
              refine D_pre (fun w' hs => one_own (k := 0) hs rfl) ?_
              intro ho41
              refine li rfl (D_stb (vs := [v40]) (cs' := [(.int .i64 (1 + y3)), v40]) 3 z_24 rfl rfl rfl rfl rfl (cells_of_one ho41) (ocons ho41 onil) (by simp) rfl ?_)
              refine D_end ?_
              refine x_blk ?_
              refine x_then ?_
              refine D_H (ov [v40] (rs ++ [(⟨y7, y11, y18⟩ : Reason)] : (List Reason)) :: cu g_c v_c code.length :: bx g8 [(.int .i64 y7), v13, v20] :: bx g4 [(.int .i64 (1 + y3)), v40] :: bx g2 [(.int .i64 0), (.slice none 0 0)] :: Hs) rfl ?_
              refine C_reg ?_
              refine p1 rfl ?_
              refine q1 rfl (D_sub rfl rfl rfl rfl (by omega)) ?_
              refine p1 rfl ?_
              refine D_end ?_
              refine x_then ?_
              refine D_eq 0 rfl (show (rs ++ [(⟨y7, y11, y18⟩ : Reason)] : (List Reason)) = (rs ++ [(⟨y7, y11, y18⟩ : Reason)]) from by first | rfl | simp | (simp; omega)) ?_
              refine fun ac w' hf hs => ⟨_, ?_, (nn - 1), rs ++ [(⟨y7, y11, y18⟩ : Reason)], v40, ?_, ?_, ?_, ?_, rfl, hf.weak ⟨rfl, rfl, rfl, rfl, rfl, trivial⟩, hs.fd [4, 4, 3, 3, 4] 1 rfl⟩
              · omega
              · first | assumption | omega | simp
              · simp; omega
              · exact all_snoc hval (isR_mk (by omega) (by first | rfl | assumption | exact asc_one (by omega)) (by first | rfl | assumption | exact asc_one (by omega)))
              · intro ho; first | (exact all_snoc (hout ho) rfl) | (exfalso; simp_all; done)
          · refine C_skip ?_
            refine x_then ?_
            refine C_seq ?_
            refine C_seq ?_
            refine C_reg ?_
            refine p1 rfl <| p1 rfl ?_
            refine gs 47 rfl rfl (fun h42 => ?_) (fun h42 => ?_)
            · refine p1 rfl ?_
              refine li rfl (ccB b_42 rfl rfl rfl rfl (fun w' hs => spec_l1Once _ _ w' g_c v_c code 2 h_c hs) fun y43 => ?_)
              refine p1 rfl <| p1 rfl ?_
              refine gs 51 rfl rfl (fun h44 => ?_) (fun h44 => ?_)
              · refine q1 rfl (D_fb f_31_2 rfl rfl (q := 2) rfl) ?_
                refine q1 rfl (lb 2 o_27 rfl rfl rfl rfl) ?_
                refine q1 rfl (D_len s_27 rfl rfl (n := 0) ⟨_, _, rfl⟩) ?_
                refine p1 rfl <| p1 rfl ?_
                refine D_end ?_
                refine x_then ?_
                refine D_weak [(0, (.pointer (some ⟨g_c, 0, none⟩))), (2, (.bool outs)), (6, (.pointer (some ⟨g2, 0, none⟩))), (7, (.pointer (some ⟨g4, 0, none⟩))), (8, (.int .i64 nn)), (9, (.pointer (some ⟨g8, 0, none⟩))), (56, (.bool (decide ((0 : Int) < 0))))] ⟨rfl, rfl, rfl, rfl, rfl, rfl, rfl, trivial⟩ ?_
                refine C_if _ rfl (fun h45 => ?_) (fun h45 => ?_)
                · have pr45 : (0 : Int) < 0 := of_decide_eq_true h45
                  refine C_seq ?_
                  refine C_reg ?_
                  refine q1 rfl (D_fb f_26_0 rfl rfl (q := 0) rfl) ?_
                  refine q1 rfl (lb 4 o_3 rfl rfl rfl rfl) ?_
                  refine q1 rfl (D_sub rfl rfl rfl rfl (by omega)) ?_
                  refine q1 rfl (D_fb f_31_0 rfl rfl (q := 0) rfl) ?_
                  refine li rfl (D_stb (vs := [(.int .i64 ((1 + y3) - 1))]) (cs' := [(.int .i64 ((1 + y3) - 1)), v13, (.slice none 0 0)]) 2 z_3 rfl rfl rfl rfl rfl rfl (ocons rfl onil) (by simp) rfl ?_)
                  refine D_end ?_
                  refine x_then ?_
                  refine D_H (cu g_c v_c code.length :: ov [v13] (y11 : (List Int)) :: bx g8 [(.int .i64 ((1 + y3) - 1)), v13, (.slice none 0 0)] :: ov [v] (rs : (List Reason)) :: bx g4 [(.int .i64 (1 + y3)), v] :: bx g2 [(.int .i64 0), (.slice none 0 0)] :: Hs) rfl ?_
                  refine C_reg ?_
                  refine p1 rfl ?_
                  refine q1 rfl (D_fb f_26_0 rfl rfl (q := 0) rfl) ?_
                  refine q1 rfl (lb 4 o_3 rfl rfl rfl rfl) ?_
                  refine q1 rfl (D_quo rfl rfl rfl (by omega) (by omega)) ?_
                  refine q1 rfl (D_max rfl rfl rfl) ?_
                  refine li rfl (ccI b_60 rfl rfl rfl rfl (fun w' hs => spec_l1Below _ _ w' g_c v_c code (max 1 ((1 + y3) / 2)) h_c hs) fun y46 hy46 => ?_)
                  have hy46l := hy46.1
                  have hy46r := hy46.2
                  refine li rfl (D_bsl (y := y46) s_27 y_3 rfl rfl rfl rfl rfl fun v48 => ?_)
                  refine q1 rfl (D_fb f_31_2 rfl rfl (q := 2) rfl) ?_
                  refine D_pre (fun w' hs => one_own (k := 0) hs rfl) ?_
                  intro ho49
                  refine li rfl (D_stb (vs := [v48]) (cs' := [(.int .i64 ((1 + y3) - 1)), v13, v48]) 3 z_27 rfl rfl rfl rfl rfl (cells_of_one ho49) (ocons ho49 onil) (by simp) rfl ?_)
                  refine D_end ?_
                  refine x_then ?_
                  refine D_H (ov [v48] ([y46] : (List Int)) :: cu g_c v_c code.length :: ov [v13] (y11 : (List Int)) :: bx g8 [(.int .i64 ((1 + y3) - 1)), v13, v48] :: ov [v] (rs : (List Reason)) :: bx g4 [(.int .i64 (1 + y3)), v] :: bx g2 [(.int .i64 0), (.slice none 0 0)] :: Hs) rfl ?_
                  refine C_reg ?_
                  refine q1 rfl (D_fb f_26_1 rfl rfl (q := 1) rfl) ?_
                  refine q1 rfl (lb 5 o_24 rfl rfl rfl rfl) ?_
                  refine q1 rfl (lbw 3 a_31 rfl rfl rfl) ?_
                  refine li rfl (D_bs s_24 y_31 rfl (by decide) (by decide) rfl rfl rfl rfl rfl rfl fun g50 => ?_)
                  refine D_fd [1, 3] 0 rfl ?_
                  refine pk_Reason (r := (⟨((1 + y3) - 1), y11, [y46]⟩ : Reason)) ?_
                  refine D_fd [1, 1, 4] 0 rfl ?_
                  refine li rfl (D_ap s_24 y_31 rfl (by decide) rfl rfl rfl rfl rfl rfl (by first | omega | (simp; omega)) (by first | omega | (simp; omega)) fun v51 => ?_)
                  refine q1 rfl (D_fb f_26_1 rfl rfl (q := 1) rfl) ?_
                  refine D_pre (fun w' hs => one_own (k := 0) hs rfl) ?_
                  intro ho52
                  refine li rfl (D_stb (vs := [v51]) (cs' := [(.int .i64 (1 + y3)), v51]) 3 z_24 rfl rfl rfl rfl rfl (cells_of_one ho52) (ocons ho52 onil) (by simp) rfl ?_)
                  refine D_end ?_
                  refine x_blk ?_
                  refine x_then ?_
                  refine D_weak [(0, (.pointer (some ⟨g_c, 0, none⟩))), (2, (.bool outs)), (6, (.pointer (some ⟨g2, 0, none⟩))), (7, (.pointer (some ⟨g4, 0, none⟩))), (8, (.int .i64 nn))] ⟨rfl, rfl, rfl, rfl, rfl, trivial⟩ ?_
                  refine D_H (ov [v51] (rs ++ [(⟨((1 + y3) - 1), y11, [y46]⟩ : Reason)] : (List Reason)) :: cu g_c v_c code.length :: bx g8 [(.int .i64 ((1 + y3) - 1)), v13, v48] :: bx g4 [(.int .i64 (1 + y3)), v51] :: bx g2 [(.int .i64 0), (.slice none 0 0)] :: Hs) rfl ?_
                  refine C_reg ?_
                  refine p1 rfl ?_
                  refine q1 rfl (D_sub rfl rfl rfl rfl (by omega)) ?_
                  refine p1 rfl ?_
                  refine D_end ?_
                  refine x_then ?_
                  refine D_eq 0 rfl (show (rs ++ [(⟨((1 + y3) - 1), y11, [y46]⟩ : Reason)] : (List Reason)) = (rs ++ [(⟨((1 + y3) - 1), y11, [y46]⟩ : Reason)]) from by first | rfl | simp | (simp; omega)) ?_
                  refine fun ac w' hf hs => ⟨_, ?_, (nn - 1), rs ++ [(⟨((1 + y3) - 1), y11, [y46]⟩ : Reason)], v51, ?_, ?_, ?_, ?_, rfl, hf.weak ⟨rfl, rfl, rfl, rfl, rfl, trivial⟩, hs.fd [4, 4, 3, 3, 4] 1 rfl⟩
                  · omega
                  · first | assumption | omega | simp
                  · simp; omega
                  · exact all_snoc hval (isR_mk (by omega) (by first | rfl | assumption | exact asc_one (by omega)) (by first | rfl | assumption | exact asc_one (by omega)))
                  · intro ho; first | (exact all_snoc (hout ho) rfl) | (exfalso; simp_all; done)
                · have pr45 : ¬ (0 : Int) < 0 := of_decide_eq_false h45
                  refine C_skip ?_
                  refine x_then ?_
                  refine C_reg ?_
                  refine q1 rfl (D_fb f_26_1 rfl rfl (q := 1) rfl) ?_
                  refine q1 rfl (lb 4 o_24 rfl rfl rfl rfl) ?_
                  refine q1 rfl (lbw 2 a_31 rfl rfl rfl) ?_
                  refine li rfl (D_bs s_24 y_31 rfl (by decide) (by decide) rfl rfl rfl rfl rfl rfl fun g53 => ?_)
                  refine D_nil (α := Int) ?_
                  refine D_fd [0, 3] 0 rfl ?_
                  refine pk_Reason (r := (⟨y7, y11, []⟩ : Reason)) ?_
                  refine D_fd [1, 1, 4] 0 rfl ?_
                  refine li rfl (D_ap s_24 y_31 rfl (by decide) rfl rfl rfl rfl rfl rfl (by first | omega | (simp; omega)) (by first | omega | (simp; omega)) fun v54 => ?_)
                  refine q1 rfl (D_fb f_26_1 rfl rfl (q := 1) rfl) ?_
                  refine D_pre (fun w' hs => one_own (k := 0) hs rfl) ?_
                  intro ho55
                  refine li rfl (D_stb (vs := [v54]) (cs' := [(.int .i64 (1 + y3)), v54]) 3 z_24 rfl rfl rfl rfl rfl (cells_of_one ho55) (ocons ho55 onil) (by simp) rfl ?_)
                  refine D_end ?_
                  refine x_blk ?_
                  refine x_then ?_
                  refine D_H (ov [v54] (rs ++ [(⟨y7, y11, []⟩ : Reason)] : (List Reason)) :: cu g_c v_c code.length :: bx g8 [(.int .i64 y7), v13, (.slice none 0 0)] :: bx g4 [(.int .i64 (1 + y3)), v54] :: bx g2 [(.int .i64 0), (.slice none 0 0)] :: Hs) rfl ?_
                  refine C_reg ?_
                  refine p1 rfl ?_
                  refine q1 rfl (D_sub rfl rfl rfl rfl (by omega)) ?_
                  refine p1 rfl ?_
                  refine D_end ?_
                  refine x_then ?_
                  refine D_eq 0 rfl (show (rs ++ [(⟨y7, y11, []⟩ : Reason)] : (List Reason)) = (rs ++ [(⟨y7, y11, []⟩ : Reason)]) from by first | rfl | simp | (simp; omega)) ?_
                  refine fun ac w' hf hs => ⟨_, ?_, (nn - 1), rs ++ [(⟨y7, y11, []⟩ : Reason)], v54, ?_, ?_, ?_, ?_, rfl, hf.weak ⟨rfl, rfl, rfl, rfl, rfl, trivial⟩, hs.fd [4, 4, 3, 3, 4] 1 rfl⟩
                  · omega
                  · first | assumption | omega | simp
                  · simp; omega
                  · exact all_snoc hval (isR_mk (by omega) (by first | rfl | assumption | exact asc_one (by omega)) (by first | rfl | assumption | exact asc_one (by omega)))
                  · intro ho; first | (exact all_snoc (hout ho) rfl) | (exfalso; simp_all; done)
              · refine n1 rfl ?_
                refine n1 rfl ?_
                refine n1 rfl ?_
                refine n1 rfl ?_
                refine p1 rfl ?_
                refine D_end ?_
                refine x_then ?_
                refine D_weak [(0, (.pointer (some ⟨g_c, 0, none⟩))), (2, (.bool outs)), (6, (.pointer (some ⟨g2, 0, none⟩))), (7, (.pointer (some ⟨g4, 0, none⟩))), (8, (.int .i64 nn)), (9, (.pointer (some ⟨g8, 0, none⟩))), (56, (.bool false))] ⟨rfl, rfl, rfl, rfl, rfl, rfl, rfl, trivial⟩ ?_
                refine C_f rfl ?_
                refine C_skip ?_
                refine x_then ?_
                refine C_reg ?_
                refine q1 rfl (D_fb f_26_1 rfl rfl (q := 1) rfl) ?_
                refine q1 rfl (lb 4 o_24 rfl rfl rfl rfl) ?_
                refine q1 rfl (lbw 2 a_31 rfl rfl rfl) ?_
                refine li rfl (D_bs s_24 y_31 rfl (by decide) (by decide) rfl rfl rfl rfl rfl rfl fun g56 => ?_)
                refine D_nil (α := Int) ?_
                refine D_fd [0, 3] 0 rfl ?_
                refine pk_Reason (r := (⟨y7, y11, []⟩ : Reason)) ?_
                refine D_fd [1, 1, 4] 0 rfl ?_
                refine li rfl (D_ap s_24 y_31 rfl (by decide) rfl rfl rfl rfl rfl rfl (by first | omega | (simp; omega)) (by first | omega | (simp; omega)) fun v57 => ?_)
                refine q1 rfl (D_fb f_26_1 rfl rfl (q := 1) rfl) ?_
                refine D_pre (fun w' hs => one_own (k := 0) hs rfl) ?_
                intro ho58
                refine li rfl (D_stb (vs := [v57]) (cs' := [(.int .i64 (1 + y3)), v57]) 3 z_24 rfl rfl rfl rfl rfl (cells_of_one ho58) (ocons ho58 onil) (by simp) rfl ?_)
                refine D_end ?_
                refine x_blk ?_
                refine x_then ?_
                refine D_H (ov [v57] (rs ++ [(⟨y7, y11, []⟩ : Reason)] : (List Reason)) :: cu g_c v_c code.length :: bx g8 [(.int .i64 y7), v13, (.slice none 0 0)] :: bx g4 [(.int .i64 (1 + y3)), v57] :: bx g2 [(.int .i64 0), (.slice none 0 0)] :: Hs) rfl ?_
                refine C_reg ?_
                refine p1 rfl ?_
                refine q1 rfl (D_sub rfl rfl rfl rfl (by omega)) ?_
                refine p1 rfl ?_
                refine D_end ?_
                refine x_then ?_
                refine D_eq 0 rfl (show (rs ++ [(⟨y7, y11, []⟩ : Reason)] : (List Reason)) = (rs ++ [(⟨y7, y11, []⟩ : Reason)]) from by first | rfl | simp | (simp; omega)) ?_
                refine fun ac w' hf hs => ⟨_, ?_, (nn - 1), rs ++ [(⟨y7, y11, []⟩ : Reason)], v57, ?_, ?_, ?_, ?_, rfl, hf.weak ⟨rfl, rfl, rfl, rfl, rfl, trivial⟩, hs.fd [4, 4, 3, 3, 4] 1 rfl⟩
                · omega
                · first | assumption | omega | simp
                · simp; omega
                · exact all_snoc hval (isR_mk (by omega) (by first | rfl | assumption | exact asc_one (by omega)) (by first | rfl | assumption | exact asc_one (by omega)))
                · intro ho; first | (exact all_snoc (hout ho) rfl) | (exfalso; simp_all; done)
            · refine n1 rfl ?_
              refine n1 rfl ?_
              refine p1 rfl <| p1 rfl ?_
              refine n1 rfl ?_
              refine n1 rfl ?_
              refine n1 rfl ?_
              refine n1 rfl ?_
              refine p1 rfl ?_
              refine D_end ?_
              refine x_then ?_
              refine D_weak [(0, (.pointer (some ⟨g_c, 0, none⟩))), (2, (.bool outs)), (6, (.pointer (some ⟨g2, 0, none⟩))), (7, (.pointer (some ⟨g4, 0, none⟩))), (8, (.int .i64 nn)), (9, (.pointer (some ⟨g8, 0, none⟩))), (56, (.bool false))] ⟨rfl, rfl, rfl, rfl, rfl, rfl, rfl, trivial⟩ ?_
              refine C_f rfl ?_
              refine C_skip ?_
              refine x_then ?_
              refine C_reg ?_
              refine q1 rfl (D_fb f_26_1 rfl rfl (q := 1) rfl) ?_
              refine q1 rfl (lb 4 o_24 rfl rfl rfl rfl) ?_
              refine q1 rfl (lbw 2 a_31 rfl rfl rfl) ?_
              refine li rfl (D_bs s_24 y_31 rfl (by decide) (by decide) rfl rfl rfl rfl rfl rfl fun g59 => ?_)
              refine D_nil (α := Int) ?_
              refine D_fd [0, 3] 0 rfl ?_
              refine pk_Reason (r := (⟨y7, y11, []⟩ : Reason)) ?_
              refine D_fd [1, 1, 4] 0 rfl ?_
              refine li rfl (D_ap s_24 y_31 rfl (by decide) rfl rfl rfl rfl rfl rfl (by first | omega | (simp; omega)) (by first | omega | (simp; omega)) fun v60 => ?_)
              refine q1 rfl (D_fb f_26_1 rfl rfl (q := 1) rfl) ?_
              refine D_pre (fun w' hs => one_own (k := 0) hs rfl) ?_
              intro ho61
              refine li rfl (D_stb (vs := [v60]) (cs' := [(.int .i64 (1 + y3)), v60]) 3 z_24 rfl rfl rfl rfl rfl (cells_of_one ho61) (ocons ho61 onil) (by simp) rfl ?_)
              refine D_end ?_
              refine x_blk ?_
              refine x_then ?_
              refine D_H (ov [v60] (rs ++ [(⟨y7, y11, []⟩ : Reason)] : (List Reason)) :: cu g_c v_c code.length :: bx g8 [(.int .i64 y7), v13, (.slice none 0 0)] :: bx g4 [(.int .i64 (1 + y3)), v60] :: bx g2 [(.int .i64 0), (.slice none 0 0)] :: Hs) rfl ?_
              refine C_reg ?_
              refine p1 rfl ?_
              refine q1 rfl (D_sub rfl rfl rfl rfl (by omega)) ?_
              refine p1 rfl ?_
              refine D_end ?_
              refine x_then ?_
              refine D_eq 0 rfl (show (rs ++ [(⟨y7, y11, []⟩ : Reason)] : (List Reason)) = (rs ++ [(⟨y7, y11, []⟩ : Reason)]) from by first | rfl | simp | (simp; omega)) ?_
              refine fun ac w' hf hs => ⟨_, ?_, (nn - 1), rs ++ [(⟨y7, y11, []⟩ : Reason)], v60, ?_, ?_, ?_, ?_, rfl, hf.weak ⟨rfl, rfl, rfl, rfl, rfl, trivial⟩, hs.fd [4, 4, 3, 3, 4] 1 rfl⟩
              · omega
              · first | assumption | omega | simp
              · simp; omega
              · exact all_snoc hval (isR_mk (by omega) (by first | rfl | assumption | exact asc_one (by omega)) (by first | rfl | assumption | exact asc_one (by omega)))
              · intro ho; first | (exact all_snoc (hout ho) rfl) | (exfalso; simp_all; done)
        · refine n1 rfl ?_
          refine n1 rfl ?_
          refine p1 rfl ?_
          refine D_end ?_
          refine x_then ?_
          refine C_f rfl ?_
          refine C_skip ?_
          refine x_then ?_
          refine C_seq ?_
          refine C_seq ?_
          refine C_reg ?_
          refine p1 rfl <| p1 rfl ?_
          refine gs 47 rfl rfl (fun h62 => ?_) (fun h62 => ?_)
          · refine p1 rfl ?_
            refine D_fd [1] 0 rfl ?_
            refine li rfl (ccB b_42 rfl rfl rfl rfl (fun w' hs => spec_l1Once _ _ w' g_c v_c code 2 h_c hs) fun y63 => ?_)
            refine p1 rfl <| p1 rfl ?_
            refine gs 51 rfl rfl (fun h64 => ?_) (fun h64 => ?_)
            · refine q1 rfl (D_fb f_31_2 rfl rfl (q := 2) rfl) ?_
              refine q1 rfl (lb 2 o_27 rfl rfl rfl rfl) ?_
              refine q1 rfl (D_len s_27 rfl rfl (n := 0) ⟨_, _, rfl⟩) ?_
              refine p1 rfl <| p1 rfl ?_
              refine D_end ?_
              refine x_then ?_
              refine D_weak [(0, (.pointer (some ⟨g_c, 0, none⟩))), (2, (.bool outs)), (6, (.pointer (some ⟨g2, 0, none⟩))), (7, (.pointer (some ⟨g4, 0, none⟩))), (8, (.int .i64 nn)), (9, (.pointer (some ⟨g8, 0, none⟩))), (56, (.bool (decide ((0 : Int) < 0))))] ⟨rfl, rfl, rfl, rfl, rfl, rfl, rfl, trivial⟩ ?_
              refine D_H (cu g_c v_c code.length :: ov [v13] (y11 : (List Int)) :: bx g8 [(.int .i64 y7), v13, (.slice none 0 0)] :: ov [v] (rs : (List Reason)) :: bx g4 [(.int .i64 (1 + y3)), v] :: bx g2 [(.int .i64 0), (.slice none 0 0)] :: Hs) rfl ?_
              refine C_if _ rfl (fun h65 => ?_) (fun h65 => ?_)
              · have pr65 : (0 : Int) < 0 := of_decide_eq_true h65
                refine C_seq ?_
                refine C_reg ?_
                refine q1 rfl (D_fb f_26_0 rfl rfl (q := 0) rfl) ?_
                refine q1 rfl (lb 4 o_3 rfl rfl rfl rfl) ?_
                refine q1 rfl (D_sub rfl rfl rfl rfl (by omega)) ?_
                refine q1 rfl (D_fb f_31_0 rfl rfl (q := 0) rfl) ?_
                refine li rfl (D_stb (vs := [(.int .i64 ((1 + y3) - 1))]) (cs' := [(.int .i64 ((1 + y3) - 1)), v13, (.slice none 0 0)]) 2 z_3 rfl rfl rfl rfl rfl rfl (ocons rfl onil) (by simp) rfl ?_)
                refine D_end ?_
                refine x_then ?_
                refine D_H (cu g_c v_c code.length :: ov [v13] (y11 : (List Int)) :: bx g8 [(.int .i64 ((1 + y3) - 1)), v13, (.slice none 0 0)] :: ov [v] (rs : (List Reason)) :: bx g4 [(.int .i64 (1 + y3)), v] :: bx g2 [(.int .i64 0), (.slice none 0 0)] :: Hs) rfl ?_
                refine C_reg ?_
                refine p1 rfl ?_
                refine q1 rfl (D_fb f_26_0 rfl rfl (q := 0) rfl) ?_
                refine q1 rfl (lb 4 o_3 rfl rfl rfl rfl) ?_
                refine q1 rfl (D_quo rfl rfl rfl (by omega) (by omega)) ?_
                refine q1 rfl (D_max rfl rfl rfl) ?_
                refine li rfl (ccI b_60 rfl rfl rfl rfl (fun w' hs => spec_l1Below _ _ w' g_c v_c code (max 1 ((1 + y3) / 2)) h_c hs) fun y66 hy66 => ?_)
                have hy66l := hy66.1
                have hy66r := hy66.2
                refine li rfl (D_bsl (y := y66) s_27 y_3 rfl rfl rfl rfl rfl fun v68 => ?_)
                refine q1 rfl (D_fb f_31_2 rfl rfl (q := 2) rfl) ?_
                refine D_pre (fun w' hs => one_own (k := 0) hs rfl) ?_
                intro ho69
                refine li rfl (D_stb (vs := [v68]) (cs' := [(.int .i64 ((1 + y3) - 1)), v13, v68]) 3 z_27 rfl rfl rfl rfl rfl (cells_of_one ho69) (ocons ho69 onil) (by simp) rfl ?_)
                refine D_end ?_
                refine x_then ?_
                refine D_H (ov [v68] ([y66] : (List Int)) :: cu g_c v_c code.length :: ov [v13] (y11 : (List Int)) :: bx g8 [(.int .i64 ((1 + y3) - 1)), v13, v68] :: ov [v] (rs : (List Reason)) :: bx g4 [(.int .i64 (1 + y3)), v] :: bx g2 [(.int .i64 0), (.slice none 0 0)] :: Hs) rfl ?_
                refine C_reg ?_
                refine q1 rfl (D_fb f_26_1 rfl rfl (q := 1) rfl) ?_
                refine q1 rfl (lb 5 o_24 rfl rfl rfl rfl) ?_
                refine q1 rfl (lbw 3 a_31 rfl rfl rfl) ?_
                refine li rfl (D_bs s_24 y_31 rfl (by decide) (by decide) rfl rfl rfl rfl rfl rfl fun g70 => ?_)
                refine D_fd [1, 3] 0 rfl ?_
                refine pk_Reason (r := (⟨((1 + y3) - 1), y11, [y66]⟩ : Reason)) ?_
                refine D_fd [1, 1, 4] 0 rfl ?_
                refine li rfl (D_ap s_24 y_31 rfl (by decide) rfl rfl rfl rfl rfl rfl (by first | omega | (simp; omega)) (by first | omega | (simp; omega)) fun v71 => ?_)
                refine q1 rfl (D_fb f_26_1 rfl rfl (q := 1) rfl) ?_
                refine D_pre (fun w' hs => one_own (k := 0) hs rfl) ?_
                intro ho72
                refine li rfl (D_stb (vs := [v71]) (cs' := [(.int .i64 (1 + y3)), v71]) 3 z_24 rfl rfl rfl rfl rfl (cells_of_one ho72) (ocons ho72 onil) (by simp) rfl ?_)
                refine D_end ?_
                refine x_blk ?_
                refine x_then ?_
                refine D_weak [(0, (.pointer (some ⟨g_c, 0, none⟩))), (2, (.bool outs)), (6, (.pointer (some ⟨g2, 0, none⟩))), (7, (.pointer (some ⟨g4, 0, none⟩))), (8, (.int .i64 nn))] ⟨rfl, rfl, rfl, rfl, rfl, trivial⟩ ?_
                refine D_H (ov [v71] (rs ++ [(⟨((1 + y3) - 1), y11, [y66]⟩ : Reason)] : (List Reason)) :: cu g_c v_c code.length :: bx g8 [(.int .i64 ((1 + y3) - 1)), v13, v68] :: bx g4 [(.int .i64 (1 + y3)), v71] :: bx g2 [(.int .i64 0), (.slice none 0 0)] :: Hs) rfl ?_
                refine C_reg ?_
                refine p1 rfl ?_
                refine q1 rfl (D_sub rfl rfl rfl rfl (by omega)) ?_
                refine p1 rfl ?_
                refine D_end ?_
                refine x_then ?_
                refine D_eq 0 rfl (show (rs ++ [(⟨((1 + y3) - 1), y11, [y66]⟩ : Reason)] : (List Reason)) = (rs ++ [(⟨((1 + y3) - 1), y11, [y66]⟩ : Reason)]) from by first | rfl | simp | (simp; omega)) ?_
                refine fun ac w' hf hs => ⟨_, ?_, (nn - 1), rs ++ [(⟨((1 + y3) - 1), y11, [y66]⟩ : Reason)], v71, ?_, ?_, ?_, ?_, rfl, hf.weak ⟨rfl, rfl, rfl, rfl, rfl, trivial⟩, hs.fd [4, 4, 3, 3, 4] 1 rfl⟩
                · omega
                · first | assumption | omega | simp
                · simp; omega
                · exact all_snoc hval (isR_mk (by omega) (by first | rfl | assumption | exact asc_one (by omega)) (by first | rfl | assumption | exact asc_one (by omega)))
                · intro ho; first | (exact all_snoc (hout ho) rfl) | (exfalso; simp_all; done)
              · have pr65 : ¬ (0 : Int) < 0 := of_decide_eq_false h65
                refine C_skip ?_
                refine x_then ?_
                refine C_reg ?_
                refine q1 rfl (D_fb f_26_1 rfl rfl (q := 1) rfl) ?_
                refine q1 rfl (lb 4 o_24 rfl rfl rfl rfl) ?_
                refine q1 rfl (lbw 2 a_31 rfl rfl rfl) ?_
                refine li rfl (D_bs s_24 y_31 rfl (by decide) (by decide) rfl rfl rfl rfl rfl rfl fun g73 => ?_)
                refine D_nil (α := Int) ?_
                refine D_fd [0, 3] 0 rfl ?_
                refine pk_Reason (r := (⟨y7, y11, []⟩ : Reason)) ?_
                refine D_fd [1, 1, 4] 0 rfl ?_
                refine li rfl (D_ap s_24 y_31 rfl (by decide) rfl rfl rfl rfl rfl rfl (by first | omega | (simp; omega)) (by first | omega | (simp; omega)) fun v74 => ?_)
                refine q1 rfl (D_fb f_26_1 rfl rfl (q := 1) rfl) ?_
                refine D_pre (fun w' hs => one_own (k := 0) hs rfl) ?_
                intro ho75
                refine li rfl (D_stb (vs := [v74]) (cs' := [(.int .i64 (1 + y3)), v74]) 3 z_24 rfl rfl rfl rfl rfl (cells_of_one ho75) (ocons ho75 onil) (by simp) rfl ?_)
                refine D_end ?_
                refine x_blk ?_
                refine x_then ?_
                refine D_H (ov [v74] (rs ++ [(⟨y7, y11, []⟩ : Reason)] : (List Reason)) :: cu g_c v_c code.length :: bx g8 [(.int .i64 y7), v13, (.slice none 0 0)] :: bx g4 [(.int .i64 (1 + y3)), v74] :: bx g2 [(.int .i64 0), (.slice none 0 0)] :: Hs) rfl ?_
                refine C_reg ?_
                refine p1 rfl ?_
                refine q1 rfl (D_sub rfl rfl rfl rfl (by omega)) ?_
                refine p1 rfl ?_
                refine D_end ?_
                refine x_then ?_
                refine D_eq 0 rfl (show (rs ++ [(⟨y7, y11, []⟩ : Reason)] : (List Reason)) = (rs ++ [(⟨y7, y11, []⟩ : Reason)]) from by first | rfl | simp | (simp; omega)) ?_
                refine fun ac w' hf hs => ⟨_, ?_, (nn - 1), rs ++ [(⟨y7, y11, []⟩ : Reason)], v74, ?_, ?_, ?_, ?_, rfl, hf.weak ⟨rfl, rfl, rfl, rfl, rfl, trivial⟩, hs.fd [4, 4, 3, 3, 4] 1 rfl⟩
                · omega
                · first | assumption | omega | simp
                · simp; omega
                · exact all_snoc hval (isR_mk (by omega) (by first | rfl | assumption | exact asc_one (by omega)) (by first | rfl | assumption | exact asc_one (by omega)))
                · intro ho; first | (exact all_snoc (hout ho) rfl) | (exfalso; simp_all; done)
            · refine n1 rfl ?_
              refine n1 rfl ?_
              refine n1 rfl ?_
              refine n1 rfl ?_
              refine p1 rfl ?_
              refine D_end ?_
              refine x_then ?_
              refine D_weak [(0, (.pointer (some ⟨g_c, 0, none⟩))), (2, (.bool outs)), (6, (.pointer (some ⟨g2, 0, none⟩))), (7, (.pointer (some ⟨g4, 0, none⟩))), (8, (.int .i64 nn)), (9, (.pointer (some ⟨g8, 0, none⟩))), (56, (.bool false))] ⟨rfl, rfl, rfl, rfl, rfl, rfl, rfl, trivial⟩ ?_
              refine D_H (cu g_c v_c code.length :: ov [v13] (y11 : (List Int)) :: bx g8 [(.int .i64 y7), v13, (.slice none 0 0)] :: ov [v] (rs : (List Reason)) :: bx g4 [(.int .i64 (1 + y3)), v] :: bx g2 [(.int .i64 0), (.slice none 0 0)] :: Hs) rfl ?_
              refine C_f rfl ?_
              refine C_skip ?_
              refine x_then ?_
              refine C_reg ?_
              refine q1 rfl (D_fb f_26_1 rfl rfl (q := 1) rfl) ?_
              refine q1 rfl (lb 4 o_24 rfl rfl rfl rfl) ?_
              refine q1 rfl (lbw 2 a_31 rfl rfl rfl) ?_
              refine li rfl (D_bs s_24 y_31 rfl (by decide) (by decide) rfl rfl rfl rfl rfl rfl fun g76 => ?_)
              refine D_nil (α := Int) ?_
              refine D_fd [0, 3] 0 rfl ?_
              refine pk_Reason (r := (⟨y7, y11, []⟩ : Reason)) ?_
              refine D_fd [1, 1, 4] 0 rfl ?_
              refine li rfl (D_ap s_24 y_31 rfl (by decide) rfl rfl rfl rfl rfl rfl (by first | omega | (simp; omega)) (by first | omega | (simp; omega)) fun v77 => ?_)
              refine q1 rfl (D_fb f_26_1 rfl rfl (q := 1) rfl) ?_
              refine D_pre (fun w' hs => one_own (k := 0) hs rfl) ?_
              intro ho78
              refine li rfl (D_stb (vs := [v77]) (cs' := [(.int .i64 (1 + y3)), v77]) 3 z_24 rfl rfl rfl rfl rfl (cells_of_one ho78) (ocons ho78 onil) (by simp) rfl ?_)
              refine D_end ?_
              refine x_blk ?_
              refine x_then ?_
              refine D_H (ov [v77] (rs ++ [(⟨y7, y11, []⟩ : Reason)] : (List Reason)) :: cu g_c v_c code.length :: bx g8 [(.int .i64 y7), v13, (.slice none 0 0)] :: bx g4 [(.int .i64 (1 + y3)), v77] :: bx g2 [(.int .i64 0), (.slice none 0 0)] :: Hs) rfl ?_
              refine C_reg ?_
              refine p1 rfl ?_
              refine q1 rfl (D_sub rfl rfl rfl rfl (by omega)) ?_
              refine p1 rfl ?_
              refine D_end ?_
              refine x_then ?_
              refine D_eq 0 rfl (show (rs ++ [(⟨y7, y11, []⟩ : Reason)] : (List Reason)) = (rs ++ [(⟨y7, y11, []⟩ : Reason)]) from by first | rfl | simp | (simp; omega)) ?_
              refine fun ac w' hf hs => ⟨_, ?_, (nn - 1), rs ++ [(⟨y7, y11, []⟩ : Reason)], v77, ?_, ?_, ?_, ?_, rfl, hf.weak ⟨rfl, rfl, rfl, rfl, rfl, trivial⟩, hs.fd [4, 4, 3, 3, 4] 1 rfl⟩
              · omega
              · first | assumption | omega | simp
              · simp; omega
              · exact all_snoc hval (isR_mk (by omega) (by first | rfl | assumption | exact asc_one (by omega)) (by first | rfl | assumption | exact asc_one (by omega)))
              · intro ho; first | (exact all_snoc (hout ho) rfl) | (exfalso; simp_all; done)
          · refine n1 rfl ?_
            refine n1 rfl ?_
            refine p1 rfl <| p1 rfl ?_
            refine n1 rfl ?_
            refine n1 rfl ?_
            refine n1 rfl ?_
            refine n1 rfl ?_
            refine p1 rfl ?_
            refine D_end ?_
            refine x_then ?_
            refine D_weak [(0, (.pointer (some ⟨g_c, 0, none⟩))), (2, (.bool outs)), (6, (.pointer (some ⟨g2, 0, none⟩))), (7, (.pointer (some ⟨g4, 0, none⟩))), (8, (.int .i64 nn)), (9, (.pointer (some ⟨g8, 0, none⟩))), (56, (.bool false))] ⟨rfl, rfl, rfl, rfl, rfl, rfl, rfl, trivial⟩ ?_
            refine C_f rfl ?_
            refine C_skip ?_
            refine x_then ?_
            refine C_reg ?_
            refine q1 rfl (D_fb f_26_1 rfl rfl (q := 1) rfl) ?_
            refine q1 rfl (lb 4 o_24 rfl rfl rfl rfl) ?_
            refine q1 rfl (lbw 2 a_31 rfl rfl rfl) ?_
            refine li rfl (D_bs s_24 y_31 rfl (by decide) (by decide) rfl rfl rfl rfl rfl rfl fun g79 => ?_)
            refine D_nil (α := Int) ?_
            refine D_fd [0, 2] 0 rfl ?_
            refine pk_Reason (r := (⟨y7, y11, []⟩ : Reason)) ?_
            refine D_fd [1, 1, 4] 0 rfl ?_
            refine li rfl (D_ap s_24 y_31 rfl (by decide) rfl rfl rfl rfl rfl rfl (by first | omega | (simp; omega)) (by first | omega | (simp; omega)) fun v80 => ?_)
            refine q1 rfl (D_fb f_26_1 rfl rfl (q := 1) rfl) ?_
            refine D_pre (fun w' hs => one_own (k := 0) hs rfl) ?_
            intro ho81
            refine li rfl (D_stb (vs := [v80]) (cs' := [(.int .i64 (1 + y3)), v80]) 3 z_24 rfl rfl rfl rfl rfl (cells_of_one ho81) (ocons ho81 onil) (by simp) rfl ?_)
            refine D_end ?_
            refine x_blk ?_
            refine x_then ?_
            refine D_H (ov [v80] (rs ++ [(⟨y7, y11, []⟩ : Reason)] : (List Reason)) :: cu g_c v_c code.length :: bx g8 [(.int .i64 y7), v13, (.slice none 0 0)] :: bx g4 [(.int .i64 (1 + y3)), v80] :: bx g2 [(.int .i64 0), (.slice none 0 0)] :: Hs) rfl ?_
            refine C_reg ?_
            refine p1 rfl ?_
            refine q1 rfl (D_sub rfl rfl rfl rfl (by omega)) ?_
            refine p1 rfl ?_
            refine D_end ?_
            refine x_then ?_
            refine D_eq 0 rfl (show (rs ++ [(⟨y7, y11, []⟩ : Reason)] : (List Reason)) = (rs ++ [(⟨y7, y11, []⟩ : Reason)]) from by first | rfl | simp | (simp; omega)) ?_
            refine fun ac w' hf hs => ⟨_, ?_, (nn - 1), rs ++ [(⟨y7, y11, []⟩ : Reason)], v80, ?_, ?_, ?_, ?_, rfl, hf.weak ⟨rfl, rfl, rfl, rfl, rfl, trivial⟩, hs.fd [4, 4, 3, 3, 4] 1 rfl⟩
            · omega
            · first | assumption | omega | simp
            · simp; omega
            · exact all_snoc hval (isR_mk (by omega) (by first | rfl | assumption | exact asc_one (by omega)) (by first | rfl | assumption | exact asc_one (by omega)))
            · intro ho; first | (exact all_snoc (hout ho) rfl) | (exfalso; simp_all; done)
      · have h10n : y9 = true := not_f h10
        refine C_skip ?_
        refine x_then ?_
        refine C_seq ?_
        refine C_seq ?_
        refine C_reg ?_
        refine p1 rfl <| p1 rfl ?_
        refine gs 37 rfl rfl (fun h82 => ?_) (fun h82 => ?_)
        · refine p1 rfl ?_
          refine li rfl (ccB b_42 rfl rfl rfl rfl (fun w' hs => spec_l1Once _ _ w' g_c v_c code 4 h_c hs) fun y83 => ?_)
          refine p1 rfl ?_
          refine D_end ?_
          refine x_then ?_
          refine C_if _ rfl (fun h84 => ?_) (fun h84 => ?_)
          · refine C_reg ?_
            refine p1 rfl ?_
            refine q1 rfl (D_fb f_26_0 rfl rfl (q := 0) rfl) ?_
            refine q1 rfl (lb 3 o_3 rfl rfl rfl rfl) ?_
            refine li rfl (ccR (α := List Int) b_40 rfl rfl rfl rfl (fun w' hs => spec_l11Nodes _ _ w' g_c v_c code (1 + y3) 2 h_c (by first | assumption | omega) (by first | assumption | omega) hs) fun y85 cs86 hy85 => ?_)
            have hy85l := hy85.1
            have hy85r := hy85.2
            refine D_pre (fun w' hs => rd_cell (rd_own (k := 0) hs rfl)) ?_
            rintro ⟨v87, rfl⟩
            refine D_re 44 (v' := v87) rfl rfl rfl ?_
            refine q1 rfl (D_fb f_31_2 rfl rfl (q := 2) rfl) ?_
            refine D_pre (fun w' hs => one_own (k := 0) hs rfl) ?_
            intro ho88
            refine li rfl (D_stb (vs := [v87]) (cs' := [(.int .i64 y7), (.slice none 0 0), v87]) 2 z_27 rfl rfl rfl rfl rfl (cells_of_one ho88) (ocons ho88 onil) (by simp) rfl ?_)
            refine D_end ?_
            refine x_then ?_
            refine D_weak [(0, (.pointer (some ⟨g_c, 0, none⟩))), (2, (.bool outs)), (6, (.pointer (some ⟨g2, 0, none⟩))), (7, (.pointer (some ⟨g4, 0, none⟩))), (8, (.int .i64 nn)), (9, (.pointer (some ⟨g8, 0, none⟩)))] ⟨rfl, rfl, rfl, rfl, rfl, rfl, trivial⟩ ?_
            refine D_H (ov [v87] (y85 : (List Int)) :: cu g_c v_c code.length :: bx g8 [(.int .i64 y7), (.slice none 0 0), v87] :: ov [v] (rs : (List Reason)) :: bx g4 [(.int .i64 (1 + y3)), v] :: bx g2 [(.int .i64 0), (.slice none 0 0)] :: Hs) rfl ?_
            refine C_seq ?_
            refine C_seq ?_
            refine C_reg ?_
            refine p1 rfl <| p1 rfl ?_
            refine gs 47 rfl rfl (fun h89 => ?_) (fun h89 => ?_)
            · refine p1 rfl ?_
              refine D_fd [1] 0 rfl ?_
              refine li rfl (ccB b_42 rfl rfl rfl rfl (fun w' hs => spec_l1Once _ _ w' g_c v_c code 2 h_c hs) fun y90 => ?_)
              refine p1 rfl <| p1 rfl ?_
              refine gs 51 rfl rfl (fun h91 => ?_) (fun h91 => ?_)
              · refine q1 rfl (D_fb f_31_2 rfl rfl (q := 2) rfl) ?_
                refine q1 rfl (lb 2 o_27 rfl rfl rfl rfl) ?_
                refine q1 rfl (D_leno 1 s_27 rfl rfl rfl) ?_
                refine p1 rfl <| p1 rfl ?_
                refine D_end ?_
                refine x_then ?_
                refine D_H (cu g_c v_c code.length :: ov [v87] (y85 : (List Int)) :: bx g8 [(.int .i64 y7), (.slice none 0 0), v87] :: ov [v] (rs : (List Reason)) :: bx g4 [(.int .i64 (1 + y3)), v] :: bx g2 [(.int .i64 0), (.slice none 0 0)] :: Hs) rfl ?_
                refine C_if _ rfl (fun h92 => ?_) (fun h92 => ?_)
                · have pr92 : (0 : Int) < ((y85.length : Nat) : Int) := of_decide_eq_true h92
                  refine C_seq ?_
                  refine C_reg ?_
                  refine q1 rfl (D_fb f_26_0 rfl rfl (q := 0) rfl) ?_
                  refine q1 rfl (lb 4 o_3 rfl rfl rfl rfl) ?_
                  refine q1 rfl (D_sub rfl rfl rfl rfl (by omega)) ?_
                  refine q1 rfl (D_fb f_31_0 rfl rfl (q := 0) rfl) ?_
                  refine li rfl (D_stb (vs := [(.int .i64 ((1 + y3) - 1))]) (cs' := [(.int .i64 ((1 + y3) - 1)), (.slice none 0 0), v87]) 2 z_3 rfl rfl rfl rfl rfl rfl (ocons rfl onil) (by simp) rfl ?_)
                  refine D_end ?_
                  refine x_then ?_
                  refine D_weak [(0, (.pointer (some ⟨g_c, 0, none⟩))), (2, (.bool outs)), (6, (.pointer (some ⟨g2, 0, none⟩))), (7, (.pointer (some ⟨g4, 0, none⟩))), (8, (.int .i64 nn)), (9, (.pointer (some ⟨g8, 0, none⟩)))] ⟨rfl, rfl, rfl, rfl, rfl, rfl, trivial⟩ ?_
                  refine D_H (cu g_c v_c code.length :: ov [v87] (y85 : (List Int)) :: bx g8 [(.int .i64 ((1 + y3) - 1)), (.slice none 0 0), v87] :: ov [v] (rs : (List Reason)) :: bx g4 [(.int .i64 (1 + y3)), v] :: bx g2 [(.int .i64 0), (.slice none 0 0)] :: Hs) rfl ?_
                  refine C_reg ?_
                  refine p1 rfl ?_
                  refine q1 rfl (D_fb f_26_0 rfl rfl (q := 0) rfl) ?_
                  refine q1 rfl (lb 4 o_3 rfl rfl rfl rfl) ?_
                  refine q1 rfl (D_quo rfl rfl rfl (by omega) (by omega)) ?_
                  refine q1 rfl (D_max rfl rfl rfl) ?_
                  refine li rfl (ccI b_60 rfl rfl rfl rfl (fun w' hs => spec_l1Below _ _ w' g_c v_c code (max 1 ((1 + y3) / 2)) h_c hs) fun y93 hy93 => ?_)
                  have hy93l := hy93.1
                  have hy93r := hy93.2
                  refine li rfl (D_bsl (y := y93) s_27 y_3 rfl rfl rfl rfl rfl fun v95 => ?_)
                  refine q1 rfl (D_fb f_31_2 rfl rfl (q := 2) rfl) ?_
                  refine D_pre (fun w' hs => one_own (k := 0) hs rfl) ?_
                  intro ho96
                  refine li rfl (D_stb (vs := [v95]) (cs' := [(.int .i64 ((1 + y3) - 1)), (.slice none 0 0), v95]) 3 z_27 rfl rfl rfl rfl rfl (cells_of_one ho96) (ocons ho96 onil) (by simp) rfl ?_)
                  refine D_end ?_
                  refine x_then ?_
                  refine D_H (ov [v95] ([y93] : (List Int)) :: cu g_c v_c code.length :: ov [v87] (y85 : (List Int)) :: bx g8 [(.int .i64 ((1 + y3) - 1)), (.slice none 0 0), v95] :: ov [v] (rs : (List Reason)) :: bx g4 [(.int .i64 (1 + y3)), v] :: bx g2 [(.int .i64 0), (.slice none 0 0)] :: Hs) rfl ?_
                  refine C_reg ?_
                  refine q1 rfl (D_fb f_26_1 rfl rfl (q := 1) rfl) ?_
                  refine q1 rfl (lb 5 o_24 rfl rfl rfl rfl) ?_
                  refine q1 rfl (lbw 3 a_31 rfl rfl rfl) ?_
                  refine li rfl (D_bs s_24 y_31 rfl (by decide) (by decide) rfl rfl rfl rfl rfl rfl fun g97 => ?_)
                  refine D_nil (α := Int) ?_
                  refine D_fd [2, 1] 0 rfl ?_
                  refine pk_Reason (r := (⟨((1 + y3) - 1), [], [y93]⟩ : Reason)) ?_
                  refine D_fd [1, 1, 5] 0 rfl ?_
                  refine li rfl (D_ap s_24 y_31 rfl (by decide) rfl rfl rfl rfl rfl rfl (by first | omega | (simp; omega)) (by first | omega | (simp; omega)) fun v98 => ?_)
                  refine q1 rfl (D_fb f_26_1 rfl rfl (q := 1) rfl) ?_
                  refine D_pre (fun w' hs => one_own (k := 0) hs rfl) ?_
                  intro ho99
                  refine li rfl (D_stb (vs := [v98]) (cs' := [(.int .i64 (1 + y3)), v98]) 4 z_24 rfl rfl rfl rfl rfl (cells_of_one ho99) (ocons ho99 onil) (by simp) rfl ?_)
                  refine D_end ?_
                  refine x_blk ?_
                  refine x_then ?_
                  refine D_weak [(0, (.pointer (some ⟨g_c, 0, none⟩))), (2, (.bool outs)), (6, (.pointer (some ⟨g2, 0, none⟩))), (7, (.pointer (some ⟨g4, 0, none⟩))), (8, (.int .i64 nn))] ⟨rfl, rfl, rfl, rfl, rfl, trivial⟩ ?_
                  refine D_H (ov [v98] (rs ++ [(⟨((1 + y3) - 1), [], [y93]⟩ : Reason)] : (List Reason)) :: cu g_c v_c code.length :: ov [v87] (y85 : (List Int)) :: bx g8 [(.int .i64 ((1 + y3) - 1)), (.slice none 0 0), v95] :: bx g4 [(.int .i64 (1 + y3)), v98] :: bx g2 [(.int .i64 0), (.slice none 0 0)] :: Hs) rfl ?_
                  refine C_reg ?_
                  refine p1 rfl ?_
                  refine q1 rfl (D_sub rfl rfl rfl rfl (by omega)) ?_
                  refine p1 rfl ?_
                  refine D_end ?_
                  refine x_then ?_
                  refine D_eq 0 rfl (show (rs ++ [(⟨((1 + y3) - 1), [], [y93]⟩ : Reason)] : (List Reason)) = (rs ++ [(⟨((1 + y3) - 1), [], [y93]⟩ : Reason)]) from by first | rfl | simp | (simp; omega)) ?_
                  refine fun ac w' hf hs => ⟨_, ?_, (nn - 1), rs ++ [(⟨((1 + y3) - 1), [], [y93]⟩ : Reason)], v98, ?_, ?_, ?_, ?_, rfl, hf.weak ⟨rfl, rfl, rfl, rfl, rfl, trivial⟩, hs.fd [5, 5, 3, 3, 5, 5] 2 rfl⟩
                  · omega
                  · first | assumption | omega | simp
                  · simp; omega
                  · exact all_snoc hval (isR_mk (by omega) (by first | rfl | assumption | exact asc_one (by omega)) (by first | rfl | assumption | exact asc_one (by omega)))
                  · intro ho; first | (exact all_snoc (hout ho) rfl) | (exfalso; simp_all; done)
                · have pr92 : ¬ (0 : Int) < ((y85.length : Nat) : Int) := of_decide_eq_false h92
                  refine C_skip ?_
                  refine x_then ?_
                  refine C_reg ?_
                  refine q1 rfl (D_fb f_26_1 rfl rfl (q := 1) rfl) ?_
                  refine q1 rfl (lb 4 o_24 rfl rfl rfl rfl) ?_
                  refine q1 rfl (lbw 2 a_31 rfl rfl rfl) ?_
                  refine li rfl (D_bs s_24 y_31 rfl (by decide) (by decide) rfl rfl rfl rfl rfl rfl fun g100 => ?_)
                  refine D_nil (α := Int) ?_
                  refine D_fd [3, 1] 0 rfl ?_
                  refine pk_Reason (r := (⟨y7, [], y85⟩ : Reason)) ?_
                  refine D_fd [1, 1, 4] 0 rfl ?_
                  refine li rfl (D_ap s_24 y_31 rfl (by decide) rfl rfl rfl rfl rfl rfl (by first | omega | (simp; omega)) (by first | omega | (simp; omega)) fun v101 => ?_)
                  refine q1 rfl (D_fb f_26_1 rfl rfl (q := 1) rfl) ?_
                  refine D_pre (fun w' hs => one_own (k := 0) hs rfl) ?_
                  intro ho102
                  refine li rfl (D_stb (vs := [v101]) (cs' := [(.int .i64 (1 + y3)), v101]) 3 z_24 rfl rfl rfl rfl rfl (cells_of_one ho102) (ocons ho102 onil) (by simp) rfl ?_)
                  refine D_end ?_
                  refine x_blk ?_
                  refine x_then ?_
                  refine D_weak [(0, (.pointer (some ⟨g_c, 0, none⟩))), (2, (.bool outs)), (6, (.pointer (some ⟨g2, 0, none⟩))), (7, (.pointer (some ⟨g4, 0, none⟩))), (8, (.int .i64 nn))] ⟨rfl, rfl, rfl, rfl, rfl, trivial⟩ ?_
                  refine D_H (ov [v101] (rs ++ [(⟨y7, [], y85⟩ : Reason)] : (List Reason)) :: cu g_c v_c code.length :: bx g8 [(.int .i64 y7), (.slice none 0 0), v87] :: bx g4 [(.int .i64 (1 + y3)), v101] :: bx g2 [(.int .i64 0), (.slice none 0 0)] :: Hs) rfl ?_
                  refine C_reg ?_
                  refine p1 rfl ?_
                  refine q1 rfl (D_sub rfl rfl rfl rfl (by omega)) ?_
                  refine p1 rfl ?_
                  refine D_end ?_
                  refine x_then ?_
                  refine D_eq 0 rfl (show (rs ++ [(⟨y7, [], y85⟩ : Reason)] : (List Reason)) = (rs ++ [(⟨y7, [], y85⟩ : Reason)]) from by first | rfl | simp | (simp; omega)) ?_
                  refine fun ac w' hf hs => ⟨_, ?_, (nn - 1), rs ++ [(⟨y7, [], y85⟩ : Reason)], v101, ?_, ?_, ?_, ?_, rfl, hf.weak ⟨rfl, rfl, rfl, rfl, rfl, trivial⟩, hs.fd [4, 4, 3, 3, 4] 1 rfl⟩
                  · omega
                  · first | assumption | omega | simp
                  · simp; omega
                  · exact all_snoc hval (isR_mk (by omega) (by first | rfl | assumption | exact asc_one (by omega)) (by first | rfl | assumption | exact asc_one (by omega)))
                  · intro ho; first | (exact all_snoc (hout ho) rfl) | (exfalso; simp_all; done)
              · refine n1 rfl ?_
                refine n1 rfl ?_
                refine n1 rfl ?_
                refine n1 rfl ?_
                refine p1 rfl ?_
                refine D_end ?_
                refine x_then ?_
                refine D_H (cu g_c v_c code.length :: ov [v87] (y85 : (List Int)) :: bx g8 [(.int .i64 y7), (.slice none 0 0), v87] :: ov [v] (rs : (List Reason)) :: bx g4 [(.int .i64 (1 + y3)), v] :: bx g2 [(.int .i64 0), (.slice none 0 0)] :: Hs) rfl ?_
                refine C_f rfl ?_
                refine C_skip ?_
                refine x_then ?_
                refine C_reg ?_
                refine q1 rfl (D_fb f_26_1 rfl rfl (q := 1) rfl) ?_
                refine q1 rfl (lb 4 o_24 rfl rfl rfl rfl) ?_
                refine q1 rfl (lbw 2 a_31 rfl rfl rfl) ?_
                refine li rfl (D_bs s_24 y_31 rfl (by decide) (by decide) rfl rfl rfl rfl rfl rfl fun g103 => ?_)
                refine D_nil (α := Int) ?_
                refine D_fd [3, 1] 0 rfl ?_
                refine pk_Reason (r := (⟨y7, [], y85⟩ : Reason)) ?_
                refine D_fd [1, 1, 4] 0 rfl ?_
                refine li rfl (D_ap s_24 y_31 rfl (by decide) rfl rfl rfl rfl rfl rfl (by first | omega | (simp; omega)) (by first | omega | (simp; omega)) fun v104 => ?_)
                refine q1 rfl (D_fb f_26_1 rfl rfl (q := 1) rfl) ?_
                refine D_pre (fun w' hs => one_own (k := 0) hs rfl) ?_
                intro ho105
                refine li rfl (D_stb (vs := [v104]) (cs' := [(.int .i64 (1 + y3)), v104]) 3 z_24 rfl rfl rfl rfl rfl (cells_of_one ho105) (ocons ho105 onil) (by simp) rfl ?_)
                refine D_end ?_
                refine x_blk ?_
                refine x_then ?_
                refine D_weak [(0, (.pointer (some ⟨g_c, 0, none⟩))), (2, (.bool outs)), (6, (.pointer (some ⟨g2, 0, none⟩))), (7, (.pointer (some ⟨g4, 0, none⟩))), (8, (.int .i64 nn))] ⟨rfl, rfl, rfl, rfl, rfl, trivial⟩ ?_
                refine D_H (ov [v104] (rs ++ [(⟨y7, [], y85⟩ : Reason)] : (List Reason)) :: cu g_c v_c code.length :: bx g8 [(.int .i64 y7), (.slice none 0 0), v87] :: bx g4 [(.int .i64 (1 + y3)), v104] :: bx g2 [(.int .i64 0), (.slice none 0 0)] :: Hs) rfl ?_
                refine C_reg ?_
                refine p1 rfl ?_
                refine q1 rfl (D_sub rfl rfl rfl rfl (by omega)) ?_
                refine p1 rfl ?_
                refine D_end ?_
                refine x_then ?_
                refine D_eq 0 rfl (show (rs ++ [(⟨y7, [], y85⟩ : Reason)] : (List Reason)) = (rs ++ [(⟨y7, [], y85⟩ : Reason)]) from by first | rfl | simp | (simp; omega)) ?_
                refine fun ac w' hf hs => ⟨_, ?_, (nn - 1), rs ++ [(⟨y7, [], y85⟩ : Reason)], v104, ?_, ?_, ?_, ?_, rfl, hf.weak ⟨rfl, rfl, rfl, rfl, rfl, trivial⟩, hs.fd [4, 4, 3, 3, 4] 1 rfl⟩
                · omega
                · first | assumption | omega | simp
                · simp; omega
                · exact all_snoc hval (isR_mk (by omega) (by first | rfl | assumption | exact asc_one (by omega)) (by first | rfl | assumption | exact asc_one (by omega)))
                · intro ho; first | (exact all_snoc (hout ho) rfl) | (exfalso; simp_all; done)
            · refine n1 rfl ?_
              refine n1 rfl ?_
              refine p1 rfl <| p1 rfl ?_
              refine n1 rfl ?_
              refine n1 rfl ?_
              refine n1 rfl ?_
              refine n1 rfl ?_
              refine p1 rfl ?_
              refine D_end ?_
              refine x_then ?_
              refine C_f rfl ?_
              refine C_skip ?_
              refine x_then ?_
              refine C_reg ?_
              refine q1 rfl (D_fb f_26_1 rfl rfl (q := 1) rfl) ?_
              refine q1 rfl (lb 4 o_24 rfl rfl rfl rfl) ?_
              refine q1 rfl (lbw 2 a_31 rfl rfl rfl) ?_
              refine li rfl (D_bs s_24 y_31 rfl (by decide) (by decide) rfl rfl rfl rfl rfl rfl fun g106 => ?_)
              refine D_nil (α := Int) ?_
              refine D_fd [2, 1] 0 rfl ?_
              refine pk_Reason (r := (⟨y7, [], y85⟩ : Reason)) ?_
              refine D_fd [1, 1, 4] 0 rfl ?_
              refine li rfl (D_ap s_24 y_31 rfl (by decide) rfl rfl rfl rfl rfl rfl (by first | omega | (simp; omega)) (by first | omega | (simp; omega)) fun v107 => ?_)
              refine q1 rfl (D_fb f_26_1 rfl rfl (q := 1) rfl) ?_
              refine D_pre (fun w' hs => one_own (k := 0) hs rfl) ?_
              intro ho108
              refine li rfl (D_stb (vs := [v107]) (cs' := [(.int .i64 (1 + y3)), v107]) 3 z_24 rfl rfl rfl rfl rfl (cells_of_one ho108) (ocons ho108 onil) (by simp) rfl ?_)
              refine D_end ?_
              refine x_blk ?_
              refine x_then ?_
              refine D_weak [(0, (.pointer (some ⟨g_c, 0, none⟩))), (2, (.bool outs)), (6, (.pointer (some ⟨g2, 0, none⟩))), (7, (.pointer (some ⟨g4, 0, none⟩))), (8, (.int .i64 nn))] ⟨rfl, rfl, rfl, rfl, rfl, trivial⟩ ?_
              refine D_H (ov [v107] (rs ++ [(⟨y7, [], y85⟩ : Reason)] : (List Reason)) :: cu g_c v_c code.length :: bx g8 [(.int .i64 y7), (.slice none 0 0), v87] :: bx g4 [(.int .i64 (1 + y3)), v107] :: bx g2 [(.int .i64 0), (.slice none 0 0)] :: Hs) rfl ?_
              refine C_reg ?_
              refine p1 rfl ?_
              refine q1 rfl (D_sub rfl rfl rfl rfl (by omega)) ?_
              refine p1 rfl ?_
              refine D_end ?_
              refine x_then ?_
              refine D_eq 0 rfl (show (rs ++ [(⟨y7, [], y85⟩ : Reason)] : (List Reason)) = (rs ++ [(⟨y7, [], y85⟩ : Reason)]) from by first | rfl | simp | (simp; omega)) ?_
              refine fun ac w' hf hs => ⟨_, ?_, (nn - 1), rs ++ [(⟨y7, [], y85⟩ : Reason)], v107, ?_, ?_, ?_, ?_, rfl, hf.weak ⟨rfl, rfl, rfl, rfl, rfl, trivial⟩, hs.fd [4, 4, 3, 3, 4] 1 rfl⟩
              · omega
              · first | assumption | omega | simp
              · simp; omega
              · exact all_snoc hval (isR_mk (by omega) (by first | rfl | assumption | exact asc_one (by omega)) (by first | rfl | assumption | exact asc_one (by omega)))
              · intro ho; first | (exact all_snoc (hout ho) rfl) | (exfalso; simp_all; done)
          · refine C_skip ?_
            refine x_then ?_
            refine D_weak [(0, (.pointer (some ⟨g_c, 0, none⟩))), (2, (.bool outs)), (6, (.pointer (some ⟨g2, 0, none⟩))), (7, (.pointer (some ⟨g4, 0, none⟩))), (8, (.int .i64 nn)), (9, (.pointer (some ⟨g8, 0, none⟩)))] ⟨rfl, rfl, rfl, rfl, rfl, rfl, trivial⟩ ?_
            refine C_seq ?_
            refine C_seq ?_
            refine C_reg ?_
            refine p1 rfl <| p1 rfl ?_
            refine gs 47 rfl rfl (fun h109 => ?_) (fun h109 => ?_)
            · refine p1 rfl ?_
              refine li rfl (ccB b_42 rfl rfl rfl rfl (fun w' hs => spec_l1Once _ _ w' g_c v_c code 2 h_c hs) fun y110 => ?_)
              refine p1 rfl <| p1 rfl ?_
              refine gs 51 rfl rfl (fun h111 => ?_) (fun h111 => ?_)
              · refine q1 rfl (D_fb f_31_2 rfl rfl (q := 2) rfl) ?_
                refine q1 rfl (lb 1 o_27 rfl rfl rfl rfl) ?_
                refine q1 rfl (D_len s_27 rfl rfl (n := 0) ⟨_, _, rfl⟩) ?_
                refine p1 rfl <| p1 rfl ?_
                refine D_end ?_
                refine x_then ?_
                refine C_if _ rfl (fun h112 => ?_) (fun h112 => ?_)
                · have pr112 : (0 : Int) < 0 := of_decide_eq_true h112
                  refine C_seq ?_
                  refine C_reg ?_
                  refine q1 rfl (D_fb f_26_0 rfl rfl (q := 0) rfl) ?_
                  refine q1 rfl (lb 3 o_3 rfl rfl rfl rfl) ?_
                  refine q1 rfl (D_sub rfl rfl rfl rfl (by omega)) ?_
                  refine q1 rfl (D_fb f_31_0 rfl rfl (q := 0) rfl) ?_
                  refine li rfl (D_stb (vs := [(.int .i64 ((1 + y3) - 1))]) (cs' := [(.int .i64 ((1 + y3) - 1)), (.slice none 0 0), (.slice none 0 0)]) 1 z_3 rfl rfl rfl rfl rfl rfl (ocons rfl onil) (by simp) rfl ?_)
                  refine D_end ?_
                  refine x_then ?_
                  refine D_weak [(0, (.pointer (some ⟨g_c, 0, none⟩))), (2, (.bool outs)), (6, (.pointer (some ⟨g2, 0, none⟩))), (7, (.pointer (some ⟨g4, 0, none⟩))), (8, (.int .i64 nn)), (9, (.pointer (some ⟨g8, 0, none⟩)))] ⟨rfl, rfl, rfl, rfl, rfl, rfl, trivial⟩ ?_
                  refine D_H (cu g_c v_c code.length :: bx g8 [(.int .i64 ((1 + y3) - 1)), (.slice none 0 0), (.slice none 0 0)] :: ov [v] (rs : (List Reason)) :: bx g4 [(.int .i64 (1 + y3)), v] :: bx g2 [(.int .i64 0), (.slice none 0 0)] :: Hs) rfl ?_
                  refine C_reg ?_
                  refine p1 rfl ?_
                  refine q1 rfl (D_fb f_26_0 rfl rfl (q := 0) rfl) ?_
                  refine q1 rfl (lb 3 o_3 rfl rfl rfl rfl) ?_
                  refine q1 rfl (D_quo rfl rfl rfl (by omega) (by omega)) ?_
                  refine q1 rfl (D_max rfl rfl rfl) ?_
                  refine li rfl (ccI b_60 rfl rfl rfl rfl (fun w' hs => spec_l1Below _ _ w' g_c v_c code (max 1 ((1 + y3) / 2)) h_c hs) fun y113 hy113 => ?_)
                  have hy113l := hy113.1
                  have hy113r := hy113.2
                  refine li rfl (D_bsl (y := y113) s_27 y_3 rfl rfl rfl rfl rfl fun v115 => ?_)
                  refine q1 rfl (D_fb f_31_2 rfl rfl (q := 2) rfl) ?_
                  refine D_pre (fun w' hs => one_own (k := 0) hs rfl) ?_
                  intro ho116
                  refine li rfl (D_stb (vs := [v115]) (cs' := [(.int .i64 ((1 + y3) - 1)), (.slice none 0 0), v115]) 2 z_27 rfl rfl rfl rfl rfl (cells_of_one ho116) (ocons ho116 onil) (by simp) rfl ?_)
                  refine D_end ?_
                  refine x_then ?_
                  refine D_H (ov [v115] ([y113] : (List Int)) :: cu g_c v_c code.length :: bx g8 [(.int .i64 ((1 + y3) - 1)), (.slice none 0 0), v115] :: ov [v] (rs : (List Reason)) :: bx g4 [(.int .i64 (1 + y3)), v] :: bx g2 [(.int .i64 0), (.slice none 0 0)] :: Hs) rfl ?_
                  refine C_reg ?_
                  refine q1 rfl (D_fb f_26_1 rfl rfl (q := 1) rfl) ?_
                  refine q1 rfl (lb 4 o_24 rfl rfl rfl rfl) ?_
                  refine q1 rfl (lbw 2 a_31 rfl rfl rfl) ?_
                  refine li rfl (D_bs s_24 y_31 rfl (by decide) (by decide) rfl rfl rfl rfl rfl rfl fun g117 => ?_)
                  refine D_nil (α := Int) ?_
                  refine D_fd [2, 1] 0 rfl ?_
                  refine pk_Reason (r := (⟨((1 + y3) - 1), [], [y113]⟩ : Reason)) ?_
                  refine D_fd [1, 1, 4] 0 rfl ?_
                  refine li rfl (D_ap s_24 y_31 rfl (by decide) rfl rfl rfl rfl rfl rfl (by first | omega | (simp; omega)) (by first | omega | (simp; omega)) fun v118 => ?_)
                  refine q1 rfl (D_fb f_26_1 rfl rfl (q := 1) rfl) ?_
                  refine D_pre (fun w' hs => one_own (k := 0) hs rfl) ?_
                  intro ho119
                  refine li rfl (D_stb (vs := [v118]) (cs' := [(.int .i64 (1 + y3)), v118]) 3 z_24 rfl rfl rfl rfl rfl (cells_of_one ho119) (ocons ho119 onil) (by simp) rfl ?_)
                  refine D_end ?_
                  refine x_blk ?_
                  refine x_then ?_
                  refine D_weak [(0, (.pointer (some ⟨g_c, 0, none⟩))), (2, (.bool outs)), (6, (.pointer (some ⟨g2, 0, none⟩))), (7, (.pointer (some ⟨g4, 0, none⟩))), (8, (.int .i64 nn))] ⟨rfl, rfl, rfl, rfl, rfl, trivial⟩ ?_
                  refine D_H (ov [v118] (rs ++ [(⟨((1 + y3) - 1), [], [y113]⟩ : Reason)] : (List Reason)) :: cu g_c v_c code.length :: bx g8 [(.int .i64 ((1 + y3) - 1)), (.slice none 0 0), v115] :: bx g4 [(.int .i64 (1 + y3)), v118] :: bx g2 [(.int .i64 0), (.slice none 0 0)] :: Hs) rfl ?_
                  refine C_reg ?_
                  refine p1 rfl ?_
                  refine q1 rfl (D_sub rfl rfl rfl rfl (by omega)) ?_
                  refine p1 rfl ?_
                  refine D_end ?_
                  refine x_then ?_
                  refine D_eq 0 rfl (show (rs ++ [(⟨((1 + y3) - 1), [], [y113]⟩ : Reason)] : (List Reason)) = (rs ++ [(⟨((1 + y3) - 1), [], [y113]⟩ : Reason)]) from by first | rfl | simp | (simp; omega)) ?_
                  refine fun ac w' hf hs => ⟨_, ?_, (nn - 1), rs ++ [(⟨((1 + y3) - 1), [], [y113]⟩ : Reason)], v118, ?_, ?_, ?_, ?_, rfl, hf.weak ⟨rfl, rfl, rfl, rfl, rfl, trivial⟩, hs.fd [4, 4, 3, 3, 4] 1 rfl⟩
                  · omega
                  · first | assumption | omega | simp
                  · simp; omega
                  · exact all_snoc hval (isR_mk (by omega) (by first | rfl | assumption | exact asc_one (by omega)) (by first | rfl | assumption | exact asc_one (by omega)))
                  · intro ho; first | (exact all_snoc (hout ho) rfl) | (exfalso; simp_all; done)
                · have pr112 : ¬ (0 : Int) < 0 := of_decide_eq_false h112
                  refine C_skip ?_
                  refine x_then ?_
                  refine C_reg ?_
                  refine q1 rfl (D_fb f_26_1 rfl rfl (q := 1) rfl) ?_
                  refine q1 rfl (lb 3 o_24 rfl rfl rfl rfl) ?_
                  refine q1 rfl (lbw 1 a_31 rfl rfl rfl) ?_
                  refine li rfl (D_bs s_24 y_31 rfl (by decide) (by decide) rfl rfl rfl rfl rfl rfl fun g120 => ?_)
                  refine D_nil (α := Int) ?_
                  refine D_nil (α := Int) ?_
                  refine pk_Reason (r := (⟨y7, [], []⟩ : Reason)) ?_
                  refine D_fd [1, 1, 4] 0 rfl ?_
                  refine li rfl (D_ap s_24 y_31 rfl (by decide) rfl rfl rfl rfl rfl rfl (by first | omega | (simp; omega)) (by first | omega | (simp; omega)) fun v121 => ?_)
                  refine q1 rfl (D_fb f_26_1 rfl rfl (q := 1) rfl) ?_
                  refine D_pre (fun w' hs => one_own (k := 0) hs rfl) ?_
                  intro ho122
                  refine li rfl (D_stb (vs := [v121]) (cs' := [(.int .i64 (1 + y3)), v121]) 3 z_24 rfl rfl rfl rfl rfl (cells_of_one ho122) (ocons ho122 onil) (by simp) rfl ?_)
                  refine D_end ?_
                  refine x_blk ?_
                  refine x_then ?_
                  refine D_weak [(0, (.pointer (some ⟨g_c, 0, none⟩))), (2, (.bool outs)), (6, (.pointer (some ⟨g2, 0, none⟩))), (7, (.pointer (some ⟨g4, 0, none⟩))), (8, (.int .i64 nn))] ⟨rfl, rfl, rfl, rfl, rfl, trivial⟩ ?_
                  refine D_H (ov [v121] (rs ++ [(⟨y7, [], []⟩ : Reason)] : (List Reason)) :: cu g_c v_c code.length :: bx g8 [(.int .i64 y7), (.slice none 0 0), (.slice none 0 0)] :: bx g4 [(.int .i64 (1 + y3)), v121] :: bx g2 [(.int .i64 0), (.slice none 0 0)] :: Hs) rfl ?_
                  refine C_reg ?_
                  refine p1 rfl ?_
                  refine q1 rfl (D_sub rfl rfl rfl rfl (by omega)) ?_
                  refine p1 rfl ?_
                  refine D_end ?_
                  refine x_then ?_
                  refine D_eq 0 rfl (show (rs ++ [(⟨y7, [], []⟩ : Reason)] : (List Reason)) = (rs ++ [(⟨y7, [], []⟩ : Reason)]) from by first | rfl | simp | (simp; omega)) ?_
                  refine fun ac w' hf hs => ⟨_, ?_, (nn - 1), rs ++ [(⟨y7, [], []⟩ : Reason)], v121, ?_, ?_, ?_, ?_, rfl, hf.weak ⟨rfl, rfl, rfl, rfl, rfl, trivial⟩, hs.fd [4, 4, 3, 3, 4] 1 rfl⟩
                  · omega
                  · first | assumption | omega | simp
                  · simp; omega
                  · exact all_snoc hval (isR_mk (by omega) (by first | rfl | assumption | exact asc_one (by omega)) (by first | rfl | assumption | exact asc_one (by omega)))
                  · intro ho; first | (exact all_snoc (hout ho) rfl) | (exfalso; simp_all; done)
              · refine n1 rfl ?_
                refine n1 rfl ?_
                refine n1 rfl ?_
                refine n1 rfl ?_
                refine p1 rfl ?_
                refine D_end ?_
                refine x_then ?_
                refine C_f rfl ?_
                refine C_skip ?_
                refine x_then ?_
                refine C_reg ?_
                refine q1 rfl (D_fb f_26_1 rfl rfl (q := 1) rfl) ?_
                refine q1 rfl (lb 3 o_24 rfl rfl rfl rfl) ?_
                refine q1 rfl (lbw 1 a_31 rfl rfl rfl) ?_
                refine li rfl (D_bs s_24 y_31 rfl (by decide) (by decide) rfl rfl rfl rfl rfl rfl fun g123 => ?_)
                refine D_nil (α := Int) ?_
                refine D_nil (α := Int) ?_
                refine pk_Reason (r := (⟨y7, [], []⟩ : Reason)) ?_
                refine D_fd [1, 1, 4] 0 rfl ?_
                refine li rfl (D_ap s_24 y_31 rfl (by decide) rfl rfl rfl rfl rfl rfl (by first | omega | (simp; omega)) (by first | omega | (simp; omega)) fun v124 => ?_)
                refine q1 rfl (D_fb f_26_1 rfl rfl (q := 1) rfl) ?_
                refine D_pre (fun w' hs => one_own (k := 0) hs rfl) ?_
                intro ho125
                refine li rfl (D_stb (vs := [v124]) (cs' := [(.int .i64 (1 + y3)), v124]) 3 z_24 rfl rfl rfl rfl rfl (cells_of_one ho125) (ocons ho125 onil) (by simp) rfl ?_)
                refine D_end ?_
                refine x_blk ?_
                refine x_then ?_
                refine D_weak [(0, (.pointer (some ⟨g_c, 0, none⟩))), (2, (.bool outs)), (6, (.pointer (some ⟨g2, 0, none⟩))), (7, (.pointer (some ⟨g4, 0, none⟩))), (8, (.int .i64 nn))] ⟨rfl, rfl, rfl, rfl, rfl, trivial⟩ ?_
                refine D_H (ov [v124] (rs ++ [(⟨y7, [], []⟩ : Reason)] : (List Reason)) :: cu g_c v_c code.length :: bx g8 [(.int .i64 y7), (.slice none 0 0), (.slice none 0 0)] :: bx g4 [(.int .i64 (1 + y3)), v124] :: bx g2 [(.int .i64 0), (.slice none 0 0)] :: Hs) rfl ?_
                refine C_reg ?_
                refine p1 rfl ?_
                refine q1 rfl (D_sub rfl rfl rfl rfl (by omega)) ?_
                refine p1 rfl ?_
                refine D_end ?_
                refine x_then ?_
                refine D_eq 0 rfl (show (rs ++ [(⟨y7, [], []⟩ : Reason)] : (List Reason)) = (rs ++ [(⟨y7, [], []⟩ : Reason)]) from by first | rfl | simp | (simp; omega)) ?_
                refine fun ac w' hf hs => ⟨_, ?_, (nn - 1), rs ++ [(⟨y7, [], []⟩ : Reason)], v124, ?_, ?_, ?_, ?_, rfl, hf.weak ⟨rfl, rfl, rfl, rfl, rfl, trivial⟩, hs.fd [4, 4, 3, 3, 4] 1 rfl⟩
                · omega
                · first | assumption | omega | simp
                · simp; omega
                · exact all_snoc hval (isR_mk (by omega) (by first | rfl | assumption | exact asc_one (by omega)) (by first | rfl | assumption | exact asc_one (by omega)))
                · intro ho; first | (exact all_snoc (hout ho) rfl) | (exfalso; simp_all; done)
            · refine n1 rfl ?_
              refine n1 rfl ?_
              refine p1 rfl <| p1 rfl ?_
              refine n1 rfl ?_
              refine n1 rfl ?_
              refine n1 rfl ?_
              refine n1 rfl ?_
              refine p1 rfl ?_
              refine D_end ?_
              refine x_then ?_
              refine C_f rfl ?_
              refine C_skip ?_
              refine x_then ?_
              refine C_reg ?_
              refine q1 rfl (D_fb f_26_1 rfl rfl (q := 1) rfl) ?_
              refine q1 rfl (lb 3 o_24 rfl rfl rfl rfl) ?_
              refine q1 rfl (lbw 1 a_31 rfl rfl rfl) ?_
              refine li rfl (D_bs s_24 y_31 rfl (by decide) (by decide) rfl rfl rfl rfl rfl rfl fun g126 => ?_)
              refine D_nil (α := Int) ?_
              refine D_nil (α := Int) ?_
              refine pk_Reason (r := (⟨y7, [], []⟩ : Reason)) ?_
              refine D_fd [1, 1, 4] 0 rfl ?_
              refine li rfl (D_ap s_24 y_31 rfl (by decide) rfl rfl rfl rfl rfl rfl (by first | omega | (simp; omega)) (by first | omega | (simp; omega)) fun v127 => ?_)
              refine q1 rfl (D_fb f_26_1 rfl rfl (q := 1) rfl) ?_
              refine D_pre (fun w' hs => one_own (k := 0) hs rfl) ?_
              intro ho128
              refine li rfl (D_stb (vs := [v127]) (cs' := [(.int .i64 (1 + y3)), v127]) 3 z_24 rfl rfl rfl rfl rfl (cells_of_one ho128) (ocons ho128 onil) (by simp) rfl ?_)
              refine D_end ?_
              refine x_blk ?_
              refine x_then ?_
              refine D_weak [(0, (.pointer (some ⟨g_c, 0, none⟩))), (2, (.bool outs)), (6, (.pointer (some ⟨g2, 0, none⟩))), (7, (.pointer (some ⟨g4, 0, none⟩))), (8, (.int .i64 nn))] ⟨rfl, rfl, rfl, rfl, rfl, trivial⟩ ?_
              refine D_H (ov [v127] (rs ++ [(⟨y7, [], []⟩ : Reason)] : (List Reason)) :: cu g_c v_c code.length :: bx g8 [(.int .i64 y7), (.slice none 0 0), (.slice none 0 0)] :: bx g4 [(.int .i64 (1 + y3)), v127] :: bx g2 [(.int .i64 0), (.slice none 0 0)] :: Hs) rfl ?_
              refine C_reg ?_
              refine p1 rfl ?_
              refine q1 rfl (D_sub rfl rfl rfl rfl (by omega)) ?_
              refine p1 rfl ?_
              refine D_end ?_
              refine x_then ?_
              refine D_eq 0 rfl (show (rs ++ [(⟨y7, [], []⟩ : Reason)] : (List Reason)) = (rs ++ [(⟨y7, [], []⟩ : Reason)]) from by first | rfl | simp | (simp; omega)) ?_
              refine fun ac w' hf hs => ⟨_, ?_, (nn - 1), rs ++ [(⟨y7, [], []⟩ : Reason)], v127, ?_, ?_, ?_, ?_, rfl, hf.weak ⟨rfl, rfl, rfl, rfl, rfl, trivial⟩, hs.fd [4, 4, 3, 3, 4] 1 rfl⟩
              · omega
              · first | assumption | omega | simp
              · simp; omega
              · exact all_snoc hval (isR_mk (by omega) (by first | rfl | assumption | exact asc_one (by omega)) (by first | rfl | assumption | exact asc_one (by omega)))
              · intro ho; first | (exact all_snoc (hout ho) rfl) | (exfalso; simp_all; done)
        · refine n1 rfl ?_
          refine n1 rfl ?_
          refine p1 rfl ?_
          refine D_end ?_
          refine x_then ?_
          refine C_f rfl ?_
          refine C_skip ?_
          refine x_then ?_
          refine D_weak [(0, (.pointer (some ⟨g_c, 0, none⟩))), (2, (.bool outs)), (6, (.pointer (some ⟨g2, 0, none⟩))), (7, (.pointer (some ⟨g4, 0, none⟩))), (8, (.int .i64 nn)), (9, (.pointer (some ⟨g8, 0, none⟩)))] ⟨rfl, rfl, rfl, rfl, rfl, rfl, trivial⟩ ?_
          refine C_seq ?_
          refine C_seq ?_
          refine C_reg ?_
          refine p1 rfl <| p1 rfl ?_
          refine gs 47 rfl rfl (fun h129 => ?_) (fun h129 => ?_)
          · refine p1 rfl ?_
            refine li rfl (ccB b_42 rfl rfl rfl rfl (fun w' hs => spec_l1Once _ _ w' g_c v_c code 2 h_c hs) fun y130 => ?_)
            refine p1 rfl <| p1 rfl ?_
            refine gs 51 rfl rfl (fun h131 => ?_) (fun h131 => ?_)
            · refine q1 rfl (D_fb f_31_2 rfl rfl (q := 2) rfl) ?_
              refine q1 rfl (lb 1 o_27 rfl rfl rfl rfl) ?_
              refine q1 rfl (D_len s_27 rfl rfl (n := 0) ⟨_, _, rfl⟩) ?_
              refine p1 rfl <| p1 rfl ?_
              refine D_end ?_
              refine x_then ?_
              refine C_if _ rfl (fun h132 => ?_) (fun h132 => ?_)
              · have pr132 : (0 : Int) < 0 := of_decide_eq_true h132
                refine C_seq ?_
                refine C_reg ?_
                refine q1 rfl (D_fb f_26_0 rfl rfl (q := 0) rfl) ?_
                refine q1 rfl (lb 3 o_3 rfl rfl rfl rfl) ?_
                refine q1 rfl (D_sub rfl rfl rfl rfl (by omega)) ?_
                refine q1 rfl (D_fb f_31_0 rfl rfl (q := 0) rfl) ?_
                refine li rfl (D_stb (vs := [(.int .i64 ((1 + y3) - 1))]) (cs' := [(.int .i64 ((1 + y3) - 1)), (.slice none 0 0), (.slice none 0 0)]) 1 z_3 rfl rfl rfl rfl rfl rfl (ocons rfl onil) (by simp) rfl ?_)
                refine D_end ?_
                refine x_then ?_
                refine D_weak [(0, (.pointer (some ⟨g_c, 0, none⟩))), (2, (.bool outs)), (6, (.pointer (some ⟨g2, 0, none⟩))), (7, (.pointer (some ⟨g4, 0, none⟩))), (8, (.int .i64 nn)), (9, (.pointer (some ⟨g8, 0, none⟩)))] ⟨rfl, rfl, rfl, rfl, rfl, rfl, trivial⟩ ?_
                refine D_H (cu g_c v_c code.length :: bx g8 [(.int .i64 ((1 + y3) - 1)), (.slice none 0 0), (.slice none 0 0)] :: ov [v] (rs : (List Reason)) :: bx g4 [(.int .i64 (1 + y3)), v] :: bx g2 [(.int .i64 0), (.slice none 0 0)] :: Hs) rfl ?_
                refine C_reg ?_
                refine p1 rfl ?_
                refine q1 rfl (D_fb f_26_0 rfl rfl (q := 0) rfl) ?_
                refine q1 rfl (lb 3 o_3 rfl rfl rfl rfl) ?_
                refine q1 rfl (D_quo rfl rfl rfl (by omega) (by omega)) ?_
                refine q1 rfl (D_max rfl rfl rfl) ?_
                refine li rfl (ccI b_60 rfl rfl rfl rfl (fun w' hs => spec_l1Below _ _ w' g_c v_c code (max 1 ((1 + y3) / 2)) h_c hs) fun y133 hy133 => ?_)
                have hy133l := hy133.1
                have hy133r := hy133.2
                refine li rfl (D_bsl (y := y133) s_27 y_3 rfl rfl rfl rfl rfl fun v135 => ?_)
                refine q1 rfl (D_fb f_31_2 rfl rfl (q := 2) rfl) ?_
                refine D_pre (fun w' hs => one_own (k := 0) hs rfl) ?_
                intro ho136
                refine li rfl (D_stb (vs := [v135]) (cs' := [(.int .i64 ((1 + y3) - 1)), (.slice none 0 0), v135]) 2 z_27 rfl rfl rfl rfl rfl (cells_of_one ho136) (ocons ho136 onil) (by simp) rfl ?_)
                refine D_end ?_
                refine x_then ?_
                refine D_H (ov [v135] ([y133] : (List Int)) :: cu g_c v_c code.length :: bx g8 [(.int .i64 ((1 + y3) - 1)), (.slice none 0 0), v135] :: ov [v] (rs : (List Reason)) :: bx g4 [(.int .i64 (1 + y3)), v] :: bx g2 [(.int .i64 0), (.slice none 0 0)] :: Hs) rfl ?_
                refine C_reg ?_
                refine q1 rfl (D_fb f_26_1 rfl rfl (q := 1) rfl) ?_
                refine q1 rfl (lb 4 o_24 rfl rfl rfl rfl) ?_
                refine q1 rfl (lbw 2 a_31 rfl rfl rfl) ?_
                refine li rfl (D_bs s_24 y_31 rfl (by decide) (by decide) rfl rfl rfl rfl rfl rfl fun g137 => ?_)
                refine D_nil (α := Int) ?_
                refine D_fd [2, 1] 0 rfl ?_
                refine pk_Reason (r := (⟨((1 + y3) - 1), [], [y133]⟩ : Reason)) ?_
                refine D_fd [1, 1, 4] 0 rfl ?_
                refine li rfl (D_ap s_24 y_31 rfl (by decide) rfl rfl rfl rfl rfl rfl (by first | omega | (simp; omega)) (by first | omega | (simp; omega)) fun v138 => ?_)
                refine q1 rfl (D_fb f_26_1 rfl rfl (q := 1) rfl) ?_
                refine D_pre (fun w' hs => one_own (k := 0) hs rfl) ?_
                intro ho139
                refine li rfl (D_stb (vs := [v138]) (cs' := [(.int .i64 (1 + y3)), v138]) 3 z_24 rfl rfl rfl rfl rfl (cells_of_one ho139) (ocons ho139 onil) (by simp) rfl ?_)
                refine D_end ?_
                refine x_blk ?_
                refine x_then ?_
                refine D_weak [(0, (.pointer (some ⟨g_c, 0, none⟩))), (2, (.bool outs)), (6, (.pointer (some ⟨g2, 0, none⟩))), (7, (.pointer (some ⟨g4, 0, none⟩))), (8, (.int .i64 nn))] ⟨rfl, rfl, rfl, rfl, rfl, trivial⟩ ?_
                refine D_H (ov [v138] (rs ++ [(⟨((1 + y3) - 1), [], [y133]⟩ : Reason)] : (List Reason)) :: cu g_c v_c code.length :: bx g8 [(.int .i64 ((1 + y3) - 1)), (.slice none 0 0), v135] :: bx g4 [(.int .i64 (1 + y3)), v138] :: bx g2 [(.int .i64 0), (.slice none 0 0)] :: Hs) rfl ?_
                refine C_reg ?_
                refine p1 rfl ?_
                refine q1 rfl (D_sub rfl rfl rfl rfl (by omega)) ?_
                refine p1 rfl ?_
                refine D_end ?_
                refine x_then ?_
                refine D_eq 0 rfl (show (rs ++ [(⟨((1 + y3) - 1), [], [y133]⟩ : Reason)] : (List Reason)) = (rs ++ [(⟨((1 + y3) - 1), [], [y133]⟩ : Reason)]) from by first | rfl | simp | (simp; omega)) ?_
                refine fun ac w' hf hs => ⟨_, ?_, (nn - 1), rs ++ [(⟨((1 + y3) - 1), [], [y133]⟩ : Reason)], v138, ?_, ?_, ?_, ?_, rfl, hf.weak ⟨rfl, rfl, rfl, rfl, rfl, trivial⟩, hs.fd [4, 4, 3, 3, 4] 1 rfl⟩
                · omega
                · first | assumption | omega | simp
                · simp; omega
                · exact all_snoc hval (isR_mk (by omega) (by first | rfl | assumption | exact asc_one (by omega)) (by first | rfl | assumption | exact asc_one (by omega)))
                · intro ho; first | (exact all_snoc (hout ho) rfl) | (exfalso; simp_all; done)
              · have pr132 : ¬ (0 : Int) < 0 := of_decide_eq_false h132
                refine C_skip ?_
                refine x_then ?_
                refine C_reg ?_
                refine q1 rfl (D_fb f_26_1 rfl rfl (q := 1) rfl) ?_
                refine q1 rfl (lb 3 o_24 rfl rfl rfl rfl) ?_
                refine q1 rfl (lbw 1 a_31 rfl rfl rfl) ?_
                refine li rfl (D_bs s_24 y_31 rfl (by decide) (by decide) rfl rfl rfl rfl rfl rfl fun g140 => ?_)
                refine D_nil (α := Int) ?_
                refine D_nil (α := Int) ?_
                refine pk_Reason (r := (⟨y7, [], []⟩ : Reason)) ?_
                refine D_fd [1, 1, 4] 0 rfl ?_
                refine li rfl (D_ap s_24 y_31 rfl (by decide) rfl rfl rfl rfl rfl rfl (by first | omega | (simp; omega)) (by first | omega | (simp; omega)) fun v141 => ?_)
                refine q1 rfl (D_fb f_26_1 rfl rfl (q := 1) rfl) ?_
                refine D_pre (fun w' hs => one_own (k := 0) hs rfl) ?_
                intro ho142
                refine li rfl (D_stb (vs := [v141]) (cs' := [(.int .i64 (1 + y3)), v141]) 3 z_24 rfl rfl rfl rfl rfl (cells_of_one ho142) (ocons ho142 onil) (by simp) rfl ?_)
                refine D_end ?_
                refine x_blk ?_
                refine x_then ?_
                refine D_weak [(0, (.pointer (some ⟨g_c, 0, none⟩))), (2, (.bool outs)), (6, (.pointer (some ⟨g2, 0, none⟩))), (7, (.pointer (some ⟨g4, 0, none⟩))), (8, (.int .i64 nn))] ⟨rfl, rfl, rfl, rfl, rfl, trivial⟩ ?_
                refine D_H (ov [v141] (rs ++ [(⟨y7, [], []⟩ : Reason)] : (List Reason)) :: cu g_c v_c code.length :: bx g8 [(.int .i64 y7), (.slice none 0 0), (.slice none 0 0)] :: bx g4 [(.int .i64 (1 + y3)), v141] :: bx g2 [(.int .i64 0), (.slice none 0 0)] :: Hs) rfl ?_
                refine C_reg ?_
                refine p1 rfl ?_
                refine q1 rfl (D_sub rfl rfl rfl rfl (by omega)) ?_
                refine p1 rfl ?_
                refine D_end ?_
                refine x_then ?_
                refine D_eq 0 rfl (show (rs ++ [(⟨y7, [], []⟩ : Reason)] : (List Reason)) = (rs ++ [(⟨y7, [], []⟩ : Reason)]) from by first | rfl | simp | (simp; omega)) ?_
                refine fun ac w' hf hs => ⟨_, ?_, (nn - 1), rs ++ [(⟨y7, [], []⟩ : Reason)], v141, ?_, ?_, ?_, ?_, rfl, hf.weak ⟨rfl, rfl, rfl, rfl, rfl, trivial⟩, hs.fd [4, 4, 3, 3, 4] 1 rfl⟩
                · omega
                · first | assumption | omega | simp
                · simp; omega
                · exact all_snoc hval (isR_mk (by omega) (by first | rfl | assumption | exact asc_one (by omega)) (by first | rfl | assumption | exact asc_one (by omega)))
                · intro ho; first | (exact all_snoc (hout ho) rfl) | (exfalso; simp_all; done)
            · refine n1 rfl ?_
              refine n1 rfl ?_
              refine n1 rfl ?_
              refine n1 rfl ?_
              refine p1 rfl ?_
              refine D_end ?_
              refine x_then ?_
              refine C_f rfl ?_
              refine C_skip ?_
              refine x_then ?_
              refine C_reg ?_
              refine q1 rfl (D_fb f_26_1 rfl rfl (q := 1) rfl) ?_
              refine q1 rfl (lb 3 o_24 rfl rfl rfl rfl) ?_
              refine q1 rfl (lbw 1 a_31 rfl rfl rfl) ?_
              refine li rfl (D_bs s_24 y_31 rfl (by decide) (by decide) rfl rfl rfl rfl rfl rfl fun g143 => ?_)
              refine D_nil (α := Int) ?_
              refine D_nil (α := Int) ?_
              refine pk_Reason (r := (⟨y7, [], []⟩ : Reason)) ?_
              refine D_fd [1, 1, 4] 0 rfl ?_
              refine li rfl (D_ap s_24 y_31 rfl (by decide) rfl rfl rfl rfl rfl rfl (by first | omega | (simp; omega)) (by first | omega | (simp; omega)) fun v144 => ?_)
              refine q1 rfl (D_fb f_26_1 rfl rfl (q := 1) rfl) ?_
              refine D_pre (fun w' hs => one_own (k := 0) hs rfl) ?_
              intro ho145
              refine li rfl (D_stb (vs := [v144]) (cs' := [(.int .i64 (1 + y3)), v144]) 3 z_24 rfl rfl rfl rfl rfl (cells_of_one ho145) (ocons ho145 onil) (by simp) rfl ?_)
              refine D_end ?_
              refine x_blk ?_
              refine x_then ?_
              refine D_weak [(0, (.pointer (some ⟨g_c, 0, none⟩))), (2, (.bool outs)), (6, (.pointer (some ⟨g2, 0, none⟩))), (7, (.pointer (some ⟨g4, 0, none⟩))), (8, (.int .i64 nn))] ⟨rfl, rfl, rfl, rfl, rfl, trivial⟩ ?_
              refine D_H (ov [v144] (rs ++ [(⟨y7, [], []⟩ : Reason)] : (List Reason)) :: cu g_c v_c code.length :: bx g8 [(.int .i64 y7), (.slice none 0 0), (.slice none 0 0)] :: bx g4 [(.int .i64 (1 + y3)), v144] :: bx g2 [(.int .i64 0), (.slice none 0 0)] :: Hs) rfl ?_
              refine C_reg ?_
              refine p1 rfl ?_
              refine q1 rfl (D_sub rfl rfl rfl rfl (by omega)) ?_
              refine p1 rfl ?_
              refine D_end ?_
              refine x_then ?_
              refine D_eq 0 rfl (show (rs ++ [(⟨y7, [], []⟩ : Reason)] : (List Reason)) = (rs ++ [(⟨y7, [], []⟩ : Reason)]) from by first | rfl | simp | (simp; omega)) ?_
              refine fun ac w' hf hs => ⟨_, ?_, (nn - 1), rs ++ [(⟨y7, [], []⟩ : Reason)], v144, ?_, ?_, ?_, ?_, rfl, hf.weak ⟨rfl, rfl, rfl, rfl, rfl, trivial⟩, hs.fd [4, 4, 3, 3, 4] 1 rfl⟩
              · omega
              · first | assumption | omega | simp
              · simp; omega
              · exact all_snoc hval (isR_mk (by omega) (by first | rfl | assumption | exact asc_one (by omega)) (by first | rfl | assumption | exact asc_one (by omega)))
              · intro ho; first | (exact all_snoc (hout ho) rfl) | (exfalso; simp_all; done)
          · refine n1 rfl ?_
            refine n1 rfl ?_
            refine p1 rfl <| p1 rfl ?_
            refine n1 rfl ?_
            refine n1 rfl ?_
            refine n1 rfl ?_
            refine n1 rfl ?_
            refine p1 rfl ?_
            refine D_end ?_
            refine x_then ?_
            refine C_f rfl ?_
            refine C_skip ?_
            refine x_then ?_
            refine C_reg ?_
            refine q1 rfl (D_fb f_26_1 rfl rfl (q := 1) rfl) ?_
            refine q1 rfl (lb 3 o_24 rfl rfl rfl rfl) ?_
            refine q1 rfl (lbw 1 a_31 rfl rfl rfl) ?_
            refine li rfl (D_bs s_24 y_31 rfl (by decide) (by decide) rfl rfl rfl rfl rfl rfl fun g146 => ?_)
            refine D_nil (α := Int) ?_
            refine D_nil (α := Int) ?_
            refine pk_Reason (r := (⟨y7, [], []⟩ : Reason)) ?_
            refine D_fd [1, 1, 4] 0 rfl ?_
            refine li rfl (D_ap s_24 y_31 rfl (by decide) rfl rfl rfl rfl rfl rfl (by first | omega | (simp; omega)) (by first | omega | (simp; omega)) fun v147 => ?_)
            refine q1 rfl (D_fb f_26_1 rfl rfl (q := 1) rfl) ?_
            refine D_pre (fun w' hs => one_own (k := 0) hs rfl) ?_
            intro ho148
            refine li rfl (D_stb (vs := [v147]) (cs' := [(.int .i64 (1 + y3)), v147]) 3 z_24 rfl rfl rfl rfl rfl (cells_of_one ho148) (ocons ho148 onil) (by simp) rfl ?_)
            refine D_end ?_
            refine x_blk ?_
            refine x_then ?_
            refine D_weak [(0, (.pointer (some ⟨g_c, 0, none⟩))), (2, (.bool outs)), (6, (.pointer (some ⟨g2, 0, none⟩))), (7, (.pointer (some ⟨g4, 0, none⟩))), (8, (.int .i64 nn))] ⟨rfl, rfl, rfl, rfl, rfl, trivial⟩ ?_
            refine D_H (ov [v147] (rs ++ [(⟨y7, [], []⟩ : Reason)] : (List Reason)) :: cu g_c v_c code.length :: bx g8 [(.int .i64 y7), (.slice none 0 0), (.slice none 0 0)] :: bx g4 [(.int .i64 (1 + y3)), v147] :: bx g2 [(.int .i64 0), (.slice none 0 0)] :: Hs) rfl ?_
            refine C_reg ?_
            refine p1 rfl ?_
            refine q1 rfl (D_sub rfl rfl rfl rfl (by omega)) ?_
            refine p1 rfl ?_
            refine D_end ?_
            refine x_then ?_
            refine D_eq 0 rfl (show (rs ++ [(⟨y7, [], []⟩ : Reason)] : (List Reason)) = (rs ++ [(⟨y7, [], []⟩ : Reason)]) from by first | rfl | simp | (simp; omega)) ?_
            refine fun ac w' hf hs => ⟨_, ?_, (nn - 1), rs ++ [(⟨y7, [], []⟩ : Reason)], v147, ?_, ?_, ?_, ?_, rfl, hf.weak ⟨rfl, rfl, rfl, rfl, rfl, trivial⟩, hs.fd [4, 4, 3, 3, 4] 1 rfl⟩
            · omega
            · first | assumption | omega | simp
            · simp; omega
            · exact all_snoc hval (isR_mk (by omega) (by first | rfl | assumption | exact asc_one (by omega)) (by first | rfl | assumption | exact asc_one (by omega)))
            · intro ho; first | (exact all_snoc (hout ho) rfl) | (exfalso; simp_all; done)
    · have pr6 : ¬ (0 : Int) < nn := of_decide_eq_false h6
      refine C_exit ?_
      refine x_then_exit ?_
      refine x_then_exit ?_
      refine x_blk_eq ?_
      refine x_then ?_
      refine C_seq ?_
      refine C_reg ?_
      refine q1 rfl (lbw 2 a_26 rfl rfl rfl) ?_
      refine D_pre (fun w' hs => one_own (k := 0) hs rfl) ?_
      intro ho149
      refine li rfl (D_stb (vs := [(.int .i64 (1 + y3)), v]) (cs' := [(.int .i64 (1 + y3)), v]) 3 z_26 rfl rfl rfl rfl rfl rfl (ocons rfl (ocons ho149 onil)) (by simp) rfl ?_)
      refine D_end ?_
      refine x_then ?_
      refine D_H (ov [v] (rs : (List Reason)) :: cu g_c v_c code.length :: bx g4 [(.int .i64 (1 + y3)), v] :: bx g2 [(.int .i64 (1 + y3)), v] :: Hs) rfl ?_
      refine C_ret ?_
      refine pk_Beliefs (r := (⟨(1 + y3), rs⟩ : Beliefs)) ?_
      refine R_c (cs := [(.int .i64 (1 + y3)), v]) 3 a_26 rfl rfl rfl fun w' hs => ⟨(⟨(1 + y3), rs⟩ : Beliefs), [(.int .i64 (1 + y3)), v], ?_, rfl, hs.fd [1, 1, 3, 3] 2 rfl⟩
      exact ⟨by show (1 : Int) ≤ 1 + _; omega, by show 1 + _ ≤ most; omega, hval, by show (rs.length : Int) < 2 * most; omega, hout⟩

theorem spec_l11Good (w0 : World) (Hs : List Chunk) (w : World) (g_c : Nat) (v_c : Value) (code : List UInt8) (most : Int) (h_c : Gd.rd w0 [v_c] code) (hq0 : 1 ≤ most) (hq1 : most ≤ 12) (hst : St w0 (cu g_c v_c code.length :: Hs) w) : Calls Try.prog 39 [(.pointer (some ⟨g_c, 0, none⟩)), (.int .i64 most)].toArray w (fun e w' => ∃ (y : Beliefs) (cs : List Value), (isStrat y = true ∧ drawn y most true) ∧ e = .returned (Gd.vl (Beliefs) cs) ∧ St w0 (ov cs y :: cu g_c v_c code.length :: Hs) w') := by
  have hm1 := rd_max h_c
  refine enterS 26 Try.func39 rfl rfl rfl hst ?_
  refine C_seq ?_
  refine C_reg ?_
  refine li rfl (D_alloc y_26 rfl rfl rfl rfl fun g2 => ?_)
  refine D_end ?_
  refine x_then ?_
  refine D_H (bx g2 [(.int .i64 0), (.slice none 0 0)] :: cu g_c v_c code.length :: Hs) rfl ?_
  refine C_seq ?_
  refine C_reg ?_
  refine p1 rfl <| p1 rfl ?_
  refine D_fd [1] 0 rfl ?_
  refine li rfl (ccR (α := Beliefs) b_59 rfl rfl rfl rfl (fun w' hs => spec_l11Draw _ _ w' g_c v_c code most true h_c (by first | assumption | omega) (by first | assumption | omega) hs) fun y3 cs4 hy3 => ?_)
  refine D_pre (fun w' hs => shape_Beliefs (rd_own (k := 0) hs rfl)) ?_
  rintro ⟨v5, rfl, ho6⟩
  refine D_re 9 (v' := (.agg #[(.int .i64 y3.Nodes), v5])) rfl rfl rfl ?_
  refine li rfl (D_alloc y_26 rfl rfl rfl rfl fun g7 => ?_)
  refine li rfl (D_stb (vs := [(.int .i64 y3.Nodes), v5]) (cs' := [(.int .i64 y3.Nodes), v5]) 0 z_26 rfl rfl rfl rfl rfl rfl (ocons rfl (ocons ho6 onil)) (by simp) rfl ?_)
  refine D_end ?_
  refine x_then ?_
  refine D_H (bx g7 [(.int .i64 y3.Nodes), v5] :: ov [(.int .i64 y3.Nodes), v5] (y3 : Beliefs) :: cu g_c v_c code.length :: bx g2 [(.int .i64 0), (.slice none 0 0)] :: Hs) rfl ?_
  refine C_seq ?_
  refine C_seq ?_
  refine C_reg ?_
  refine q1 rfl (lbw 0 a_26 rfl rfl rfl) ?_
  refine li rfl (cv b_45 rfl rfl rfl rfl (fun w' hs => (spec_IsStratified w' [(.int .i64 y3.Nodes), v5] y3 (rd_own (k := 1) hs rfl))) ?_)
  refine p1 rfl ?_
  refine D_end ?_
  refine x_then ?_
  refine C_if _ rfl (fun h8 => ?_) (fun h8 => ?_)
  · have h8n : (isStrat y3) = false := not_t h8
    refine C_seq ?_
    have hdl : (y3.Reasons.length : Int) < 2 * most := hy3.2.2.2.1
    refine C_reg ?_
    refine p1 rfl ?_
    refine D_end ?_
    refine x_then ?_
    refine C_block ?_
    refine D_fd [1] 0 rfl ?_
    refine D_unpair (α := Int) (β := (List Reason)) (c1 := [(.int .i64 y3.Nodes)]) (c2 := [v5]) (x := y3.Nodes) (y := (y3.Reasons)) rfl rfl ?_
    refine D_fd [] 1 rfl ?_
    refine C_loop (fun m_ ac w' => ∃ (k : Nat), (k ≤ y3.Reasons.length) ∧ m_ = y3.Reasons.length - k ∧ Fits ac 26 [(4, (.pointer (some ⟨g2, 0, none⟩))), (5, (.pointer (some ⟨g7, 0, none⟩))), (6, (.int .i64 ((k : Nat) : Int)))] ∧ St w0 (ov [v5] (mapAt fNo cR 0 y3.Reasons k : (List Reason)) :: bx g7 [(.int .i64 y3.Nodes), v5] :: cu g_c v_c code.length :: bx g2 [(.int .i64 0), (.slice none 0 0)] :: Hs) w') ?_ ?_
    · refine D_eq 0 rfl (show (y3.Reasons : (List Reason)) = mapAt fNo cR 0 y3.Reasons 0 from by rw [mapAt_zero]) ?_
      refine fun ac w' hf hs => ⟨_, 0, ?_, rfl, hf.weak ⟨rfl, rfl, rfl, trivial⟩, hs⟩
      · first | assumption | omega | simp
    · rintro m_ ac w' ⟨k, hk, rfl, hf, hs⟩
      refine D.use ?_ hf hs
      clear hf hs ac w'
      have hcl := mapAt_len (f := fNo) (c := cR) (k := 0) hk
      refine C_seq ?_
      refine C_seq ?_
      refine C_reg ?_
      refine p1 rfl ?_
      refine q1 rfl (D_fb f_26_1 rfl rfl (q := 1) rfl) ?_
      refine q1 rfl (lb 1 o_24 rfl rfl rfl rfl) ?_
      refine q1 rfl (D_leno 0 s_24 rfl rfl rfl) ?_
      refine p1 rfl ?_
      refine D_end ?_
      refine x_then ?_
      refine D_H (ov [v5] (mapAt fNo cR 0 y3.Reasons k : (List Reason)) :: bx g7 [(.int .i64 y3.Nodes), v5] :: cu g_c v_c code.length :: bx g2 [(.int .i64 0), (.slice none 0 0)] :: Hs) rfl ?_
      refine C_if _ rfl (fun h9 => ?_) (fun h9 => ?_)
      · have pr9 : (((k : Nat) : Int) : Int) < (((mapAt fNo cR 0 y3.Reasons k).length : Nat) : Int) := of_decide_eq_true h9
        refine C_skip ?_
        refine x_then ?_
        refine C_seq ?_
        refine C_block ?_
        refine C_reg ?_
        refine q1 rfl (D_fb f_26_1 rfl rfl (q := 1) rfl) ?_
        refine q1 rfl (lb 1 o_24 rfl rfl rfl rfl) ?_
        refine p1 rfl ?_
        obtain ⟨x10, hx11⟩ := some_of_lt (l := (mapAt fNo cR 0 y3.Reasons k)) (i := k) (by omega)
        refine D_take hx11 fun es12 => ?_
        refine D_pre (fun w' hs => shape_Reason (rd_own (k := 0) hs rfl)) ?_
        rintro ⟨v13, v14, rfl, ho15, ho16⟩
        refine q1 rfl (D_ixh 1 s_24 rfl rfl rfl rfl rfl) ?_
        refine q1 rfl (D_fa f_31_2 rfl rfl) ?_
        refine D_unpair (α := Int) (β := (List Int) × (List Int)) (c1 := [(.int .i64 x10.For)]) (c2 := [v13, v14]) (x := x10.For) (y := (x10.In, x10.Out)) rfl rfl ?_
        refine D_fd [] 1 rfl ?_
        refine D_unpair (α := (List Int)) (β := (List Int)) (c1 := [v13]) (c2 := [v14]) (x := x10.In) (y := (x10.Out)) rfl rfl ?_
        refine D_fd [1] 0 rfl ?_
        refine li rfl (sh (n := 3) (f := 2) 2 rfl z_27 rfl rfl rfl rfl rfl rfl rfl (by simp) ?_)
        refine D_end ?_
        refine x_blk ?_
        refine x_then ?_
        refine C_reg ?_
        refine p1 rfl ?_
        refine q1 rfl (D_add rfl rfl rfl (r := ((k + 1 : Nat) : Int)) (by omega) (by omega)) ?_
        refine p1 rfl ?_
        refine D_end ?_
        refine x_then ?_
        refine D_nil (α := Int) ?_
        refine D_fd [0, 2] 0 rfl ?_
        refine pk_Reason (r := (⟨x10.For, x10.In, []⟩ : Reason)) ?_
        refine D_fd [2, 1] 0 rfl ?_
        refine D_put ?_
        refine D_eq 0 rfl (show ((mapAt fNo cR 0 y3.Reasons k).set k (⟨x10.For, x10.In, []⟩ : Reason) : (List Reason)) = mapAt fNo cR 0 y3.Reasons (k + 1) from by exact fNo_set hk hx11) ?_
        refine fun ac w' hf hs => ⟨_, ?_, k + 1, ?_, rfl, hf.weak ⟨rfl, rfl, rfl, trivial⟩, hs.fd [4, 4, 4, 3, 4] 1 rfl⟩
        · omega
        · first | assumption | omega | simp
      · have pr9 : ¬ (((k : Nat) : Int) : Int) < (((mapAt fNo cR 0 y3.Reasons k).length : Nat) : Int) := of_decide_eq_false h9
        refine C_exit ?_
        refine x_then_exit ?_
        refine x_then_exit ?_
        refine x_blk_eq ?_
        refine x_then ?_
        refine C_seq ?_
        refine C_reg ?_
        refine q1 rfl (lbw 1 a_26 rfl rfl rfl) ?_
        refine D_pre (fun w' hs => one_own (k := 0) hs rfl) ?_
        intro ho17
        refine li rfl (D_stb (vs := [(.int .i64 y3.Nodes), v5]) (cs' := [(.int .i64 y3.Nodes), v5]) 3 z_26 rfl rfl rfl rfl rfl rfl (ocons rfl (ocons ho17 onil)) (by simp) rfl ?_)
        refine D_end ?_
        refine x_then ?_
        refine D_H (ov [v5] (mapAt fNo cR 0 y3.Reasons k : (List Reason)) :: bx g7 [(.int .i64 y3.Nodes), v5] :: cu g_c v_c code.length :: bx g2 [(.int .i64 y3.Nodes), v5] :: Hs) rfl ?_
        refine C_ret ?_
        refine pk_Beliefs (r := (⟨y3.Nodes, mapAt fNo cR 0 y3.Reasons k⟩ : Beliefs)) ?_
        refine R_c (cs := [(.int .i64 y3.Nodes), v5]) 3 a_26 rfl rfl rfl fun w' hs => ⟨(⟨y3.Nodes, mapAt fNo cR 0 y3.Reasons k⟩ : Beliefs), [(.int .i64 y3.Nodes), v5], ?_, rfl, hs.fd [2, 1, 3, 3] 2 rfl⟩
        first | exact ⟨by assumption, hy3⟩ | (rw [mapAt_done (by omega)]; exact clr_strat hy3 hq1)
  · have h8n : (isStrat y3) = true := not_f h8
    refine C_skip ?_
    refine x_then ?_
    refine C_seq ?_
    refine C_reg ?_
    refine q1 rfl (lbw 0 a_26 rfl rfl rfl) ?_
    refine li rfl (D_stb (vs := [(.int .i64 y3.Nodes), v5]) (cs' := [(.int .i64 y3.Nodes), v5]) 3 z_26 rfl rfl rfl rfl rfl rfl (ocons rfl (ocons ho6 onil)) (by simp) rfl ?_)
    refine D_end ?_
    refine x_then ?_
    refine D_H (bx g7 [(.int .i64 y3.Nodes), v5] :: ov [(.int .i64 y3.Nodes), v5] (y3 : Beliefs) :: cu g_c v_c code.length :: bx g2 [(.int .i64 y3.Nodes), v5] :: Hs) rfl ?_
    refine C_ret ?_
    refine R_c (cs := [(.int .i64 y3.Nodes), v5]) 3 a_26 rfl rfl rfl fun w' hs => ⟨y3, [(.int .i64 y3.Nodes), v5], ?_, rfl, hs.fd [2, 2, 3, 3] 2 rfl⟩
    first | exact ⟨by assumption, hy3⟩ | (rw [mapAt_done (by omega)]; exact clr_strat hy3 hq1)
end Go.Sy.Cur1
