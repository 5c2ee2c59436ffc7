/-
  Contracts of functions of the program, walked (printed by a program of ours).
  Conditions: those that each theorem states.
-/
import Derived.Test.YtamkdpknhaninaaGreatEng4
import Derived.Test.YtamkdpknhaninaaGreatBel3
import Derived.Test.YtamkdpknhaninaaGreatMk
set_option linter.unusedVariables false
set_option maxRecDepth 20000
namespace Go.Sy.Eng5
open Go Go.RowKit Go.Proofs Go.Sy
theorem mixed : Tryz.prog.follows .mixedOrders = true := by kernel_rfl
theorem u8_5 : Tryz.prog.underlying 5 = some (.int .u8) := by kernel_rfl
theorem ui_3 : Tryz.prog.underlying 3 = some (.int .i64) := by kernel_rfl
theorem s_82 : sliceTy Tryz.prog 82 = some (5, 1, 1) := by kernel_rfl
theorem y_5 : zeroTy Tryz.prog 5 = some (.int .u8 0) := by kernel_rfl
theorem usl_82 : Tryz.prog.underlying 82 = some (.slice 5) := by kernel_rfl
theorem us_9 : Tryz.prog.underlying 9 = some .string := by kernel_rfl
theorem s_68 : sliceTy Tryz.prog 68 = some (9, 1, 16) := by kernel_rfl
theorem b_23 : hasBody Tryz.prog 23 = true := by kernel_rfl
theorem z_9 : sizeTy Tryz.prog 9 = some 1 := by kernel_rfl
theorem o_9 : oneTy Tryz.prog 9 = true := by kernel_rfl
theorem s_45 : sliceTy Tryz.prog 45 = some (85, 5, 80) := by kernel_rfl
theorem f_85_0 : fieldOff Tryz.prog 85 0 = some 0 := by kernel_rfl
theorem z_3 : sizeTy Tryz.prog 3 = some 1 := by kernel_rfl
theorem f_85_1 : fieldOff Tryz.prog 85 1 = some 1 := by kernel_rfl
theorem f_83_0 : fieldOff Tryz.prog 83 0 = some 0 := by kernel_rfl
theorem f_83_1 : fieldOff Tryz.prog 83 1 = some 1 := by kernel_rfl
theorem o_68 : oneTy Tryz.prog 68 = true := by kernel_rfl
theorem b_48 : hasBody Tryz.prog 48 = true := by kernel_rfl
theorem f_85_2 : fieldOff Tryz.prog 85 2 = some 3 := by kernel_rfl
theorem f_85_3 : fieldOff Tryz.prog 85 3 = some 4 := by kernel_rfl
theorem o_3 : oneTy Tryz.prog 3 = true := by kernel_rfl
theorem b_52 : hasBody Tryz.prog 52 = true := by kernel_rfl
theorem s_46 : sliceTy Tryz.prog 46 = some (88, 3, 48) := by kernel_rfl
theorem f_88_0 : fieldOff Tryz.prog 88 0 = some 0 := by kernel_rfl
theorem f_88_1 : fieldOff Tryz.prog 88 1 = some 1 := by kernel_rfl
theorem s_24 : sliceTy Tryz.prog 24 = some (48, 4, 72) := by kernel_rfl
theorem f_48_0 : fieldOff Tryz.prog 48 0 = some 0 := by kernel_rfl
theorem f_48_1 : fieldOff Tryz.prog 48 1 = some 1 := by kernel_rfl
theorem f_48_2 : fieldOff Tryz.prog 48 2 = some 2 := by kernel_rfl
theorem o_45 : oneTy Tryz.prog 45 = true := by kernel_rfl
theorem b_24 : hasBody Tryz.prog 24 = true := by kernel_rfl
theorem f_48_3 : fieldOff Tryz.prog 48 3 = some 3 := by kernel_rfl
theorem o_46 : oneTy Tryz.prog 46 = true := by kernel_rfl
theorem b_25 : hasBody Tryz.prog 25 = true := by kernel_rfl
theorem b_50 : hasBody Tryz.prog 50 = true := by kernel_rfl
theorem b_51 : hasBody Tryz.prog 51 = true := by kernel_rfl
theorem s_25 : sliceTy Tryz.prog 25 = some (72, 3, 48) := by kernel_rfl
theorem f_72_0 : fieldOff Tryz.prog 72 0 = some 0 := by kernel_rfl
theorem f_70_0 : fieldOff Tryz.prog 70 0 = some 0 := by kernel_rfl
theorem f_70_1 : fieldOff Tryz.prog 70 1 = some 1 := by kernel_rfl
theorem f_72_1 : fieldOff Tryz.prog 72 1 = some 2 := by kernel_rfl
theorem s_26 : sliceTy Tryz.prog 26 = some (76, 2, 40) := by kernel_rfl
theorem f_76_0 : fieldOff Tryz.prog 76 0 = some 0 := by kernel_rfl
theorem f_76_1 : fieldOff Tryz.prog 76 1 = some 1 := by kernel_rfl
theorem o_74 : oneTy Tryz.prog 74 = true := by kernel_rfl
theorem b_49 : hasBody Tryz.prog 49 = true := by kernel_rfl
theorem b_53 : hasBody Tryz.prog 53 = true := by kernel_rfl
theorem s_27 : sliceTy Tryz.prog 27 = some (79, 4, 64) := by kernel_rfl
theorem f_79_0 : fieldOff Tryz.prog 79 0 = some 0 := by kernel_rfl
theorem f_79_1 : fieldOff Tryz.prog 79 1 = some 1 := by kernel_rfl
theorem f_79_2 : fieldOff Tryz.prog 79 2 = some 2 := by kernel_rfl
theorem f_29_0 : fieldOff Tryz.prog 29 0 = some 0 := by kernel_rfl
theorem o_24 : oneTy Tryz.prog 24 = true := by kernel_rfl
theorem b_10 : hasBody Tryz.prog 10 = true := by kernel_rfl
theorem f_29_1 : fieldOff Tryz.prog 29 1 = some 1 := by kernel_rfl
theorem o_25 : oneTy Tryz.prog 25 = true := by kernel_rfl
theorem b_26 : hasBody Tryz.prog 26 = true := by kernel_rfl
theorem f_29_3 : fieldOff Tryz.prog 29 3 = some 3 := by kernel_rfl
theorem o_26 : oneTy Tryz.prog 26 = true := by kernel_rfl
theorem b_27 : hasBody Tryz.prog 27 = true := by kernel_rfl
theorem f_29_5 : fieldOff Tryz.prog 29 5 = some 5 := by kernel_rfl
theorem o_27 : oneTy Tryz.prog 27 = true := by kernel_rfl
theorem b_28 : hasBody Tryz.prog 28 = true := by kernel_rfl
theorem b_29 : hasBody Tryz.prog 29 = true := by kernel_rfl
theorem b_30 : hasBody Tryz.prog 30 = true := by kernel_rfl
theorem b_31 : hasBody Tryz.prog 31 = true := by kernel_rfl
theorem b_32 : hasBody Tryz.prog 32 = true := by kernel_rfl
theorem b_4 : hasBody Tryz.prog 4 = true := by kernel_rfl
theorem b_6 : hasBody Tryz.prog 6 = true := by kernel_rfl
theorem b_5 : hasBody Tryz.prog 5 = true := by kernel_rfl
theorem y_29 : zeroTy Tryz.prog 29 = some (.agg #[(.slice none 0 0), (.slice none 0 0), (.int .i64 0), (.slice none 0 0), (.bool false), (.slice none 0 0)]) := by kernel_rfl
theorem z_29 : sizeTy Tryz.prog 29 = some 6 := by kernel_rfl
theorem b_7 : hasBody Tryz.prog 7 = true := by kernel_rfl
theorem a_29 : aggTy Tryz.prog 29 = some 6 := by kernel_rfl
theorem b_8 : hasBody Tryz.prog 8 = true := by kernel_rfl
theorem ub_4 : Tryz.prog.underlying 4 = some .bool := by kernel_rfl
theorem b_9 : hasBody Tryz.prog 9 = true := by kernel_rfl
theorem b_11 : hasBody Tryz.prog 11 = true := by kernel_rfl
theorem b_12 : hasBody Tryz.prog 12 = true := by kernel_rfl
open Go.Sy.Bel1 Go.Sy.Bel3 Go.Sy.Ev1 Go.Sy.Ev2 Go.Sy.Eng1 Go.Sy.Eng2 Go.Sy.Eng3 Go.Sy.Eng4
theorem laws_markText (w : World) (k : Int) (h1 : k ≤ 4611686018427387904) : Calls Tryz.prog 23 [(.int .i64 k)].toArray w (Val w (.string (markS k))) := by
  refine enter 20 Tryz.func23 rfl rfl rfl ?_
  refine C_seq ?_
  refine C_reg ?_
  refine p1 rfl ?_
  refine D_end ?_
  refine x_then ?_
  refine C_seq ?_
  refine C_seq ?_
  refine C_reg ?_
  refine p1 rfl <| p1 rfl ?_
  refine D_end ?_
  refine x_then ?_
  refine C_if _ rfl (fun h1 => ?_) (fun h1 => ?_)
  · have pr1 : (k : Int) ≤ 0 := of_decide_eq_true h1
    refine C_seq ?_
    refine C_reg ?_
    refine p1 rfl ?_
    refine D_end ?_
    refine x_then ?_
    refine C_ret ?_
    refine x_then_ret ?_
    refine R_1 rfl rfl fun w' hs => ⟨congrArg (fun z => Ending.returned (Value.string z)) ?_, hs.bel⟩
    show (⟨#[109, 48]⟩ : ByteArray) = markS k
    exact mark_low (by omega)
  · have pr1 : ¬ (k : Int) ≤ 0 := of_decide_eq_false h1
    refine C_skip ?_
    refine x_then ?_
    refine C_seq ?_
    refine C_reg ?_
    refine p1 rfl ?_
    refine D_end ?_
    refine x_then ?_
    refine C_seq ?_
    refine C_block ?_
    refine C_loop (fun m_ ac w' => ∃ (nn : Int), ∃ (s : ByteArray), (dg k nn s) ∧ m_ = nn.toNat ∧ Fits ac 20 [(0, (.int .i64 nn)), (3, (.string s))] ∧ St w ([]) w') ?_ ?_
    · refine fun ac w' hf hs => ⟨_, k, ⟨#[]⟩, ?_, rfl, hf.weak ⟨rfl, rfl, trivial⟩, hs⟩
      · exact dg_zero (by omega)
    · rintro m_ ac w' ⟨nn, s, hd, rfl, hf, hs⟩
      refine D.use ?_ hf hs
      clear hf hs ac w'
      have hd0 := hd.1
      have hd1 := hd.2.1
      have hd3 := hd.2.2.2
      have htm := mtmod10 hd0
      refine C_seq ?_
      refine C_seq ?_
      refine C_reg ?_
      refine p1 rfl <| p1 rfl ?_
      refine D_end ?_
      refine x_then ?_
      refine C_if _ rfl (fun h2 => ?_) (fun h2 => ?_)
      · have pr2 : (0 : Int) < nn := of_decide_eq_true h2
        refine C_skip ?_
        refine x_then ?_
        refine C_block ?_
        refine C_seq ?_
        refine C_reg ?_
        refine p1 rfl ?_
        refine q1 rfl (D_rem rfl rfl rfl rfl) ?_
        refine q1 rfl (D_add rfl rfl rfl rfl (by omega)) ?_
        refine q1 rfl (D_cv8 u8_5 ⟨_, ui_3⟩ rfl rfl (by omega)) ?_
        refine li rfl (D_bs s_82 y_5 rfl (by decide) (by decide) rfl rfl rfl rfl rfl rfl fun g3 => ?_)
        refine q1 rfl (D_cvbs 0 usl_82 u8_5 us_9 rfl rfl rfl) ?_
        refine p1 rfl ?_
        refine q1 rfl (D_cat rfl rfl rfl (by show 1 + s.size ≤ 9223372036854775807; omega)) ?_
        refine p1 rfl ?_
        refine D_end ?_
        refine x_then ?_
        refine D_H ([bx g3 [(.int .u8 (48 + (Int.tmod nn 10)))]]) rfl ?_
        refine C_reg ?_
        refine p1 rfl ?_
        refine q1 rfl (D_quo rfl rfl rfl (by omega) (by omega)) ?_
        refine p1 rfl ?_
        refine D_end ?_
        refine x_blk ?_
        refine x_then ?_
        refine fun ac w' hf hs => ⟨_, ?_, (nn / 10), ((⟨#[UInt8.ofNat (48 + (Int.tmod nn 10)).toNat]⟩ : ByteArray) ++ s), ?_, rfl, hf.weak ⟨rfl, rfl, trivial⟩, hs.pk [] rfl rfl⟩
        · omega
        · exact dg_step hd (by omega)
      · have pr2 : ¬ (0 : Int) < nn := of_decide_eq_false h2
        refine C_exit ?_
        refine x_then_exit ?_
        refine x_then_exit ?_
        refine x_blk_eq ?_
        refine x_then ?_
        refine C_seq ?_
        refine C_reg ?_
        refine p1 rfl ?_
        refine q1 rfl (D_cat rfl rfl rfl (by show 1 + s.size ≤ 9223372036854775807; omega)) ?_
        refine p1 rfl ?_
        refine D_end ?_
        refine x_then ?_
        refine C_ret ?_
        refine R_1 rfl rfl fun w' hs => ⟨congrArg (fun z => Ending.returned (Value.string z)) ?_, hs.bel⟩
        show ((⟨#[109]⟩ ++ s) : ByteArray) = markS k
        exact dg_done hd (by omega) (by omega)

theorem laws_markStringS (w0 : World) (Hs : List Chunk) (w : World) (v_a : Value) (a : (List ByteArray)) (k : Int) (h0 : 0 ≤ k) (h1 : k + a.length ≤ 4611686018427387904) (hst : St w0 (ov [v_a] (a : (List ByteArray)) :: Hs) w) : Calls Tryz.prog 48 [v_a, (.int .i64 k)].toArray w (fun e w' => e = .returned (.int .i64 (k + a.length)) ∧ St w0 (ov [v_a] (mkSs k a : (List ByteArray)) :: Hs) w') := by
  have hm1 := rd_max (rd_own (k := 0) hst rfl)
  refine enterS 20 Tryz.func48 rfl rfl rfl hst ?_
  refine C_seq ?_
  refine C_reg ?_
  refine p1 rfl ?_
  refine D_end ?_
  refine x_then ?_
  refine D_H (ov [v_a] (a : (List ByteArray)) :: Hs) rfl ?_
  refine C_seq ?_
  refine C_seq ?_
  refine C_reg ?_
  refine p1 rfl ?_
  refine D_end ?_
  refine x_then ?_
  refine C_block ?_
  refine C_loop (fun m_ ac w' => ∃ (i : Nat), ∃ (kk : Int), (i ≤ a.length) ∧ (kk = k + i) ∧ m_ = a.length - i ∧ Fits ac 20 [(0, v_a), (1, (.int .i64 kk)), (5, (.int .i64 ((i : Nat) : Int)))] ∧ St w0 (ov [v_a] (mapAt fS cS k a i : (List ByteArray)) :: Hs) w') ?_ ?_
  · refine D_eq 0 rfl (show (a : (List ByteArray)) = mapAt fS cS k a 0 from by rw [mapAt_zero]) ?_
    refine fun ac w' hf hs => ⟨_, 0, k, ?_, ?_, rfl, hf.weak ⟨rfl, rfl, rfl, trivial⟩, hs⟩
    · first | assumption | omega | simp
    · first | assumption | omega | simp
  · rintro m_ ac w' ⟨i, kk, hi, hk, rfl, hf, hs⟩
    refine D.use ?_ hf hs
    clear hf hs ac w'
    have hcl := mapAt_len (f := fS) (c := cS) (k := k) hi
    refine C_seq ?_
    refine C_seq ?_
    refine C_reg ?_
    refine p1 rfl <| p1 rfl ?_
    refine q1 rfl (D_leno 0 s_68 rfl rfl rfl) ?_
    refine p1 rfl ?_
    refine D_end ?_
    refine x_then ?_
    refine D_H (ov [v_a] (mapAt fS cS k a i : (List ByteArray)) :: Hs) rfl ?_
    refine C_if _ rfl (fun h2 => ?_) (fun h2 => ?_)
    · have pr2 : (((i : Nat) : Int) : Int) < (((mapAt fS cS k a i).length : Nat) : Int) := of_decide_eq_true h2
      refine C_skip ?_
      refine x_then ?_
      refine C_seq ?_
      refine C_block ?_
      refine C_seq ?_
      refine C_reg ?_
      refine p1 rfl <| p1 rfl <| p1 rfl ?_
      refine li rfl (cv b_23 rfl rfl rfl rfl (fun w' hs => (laws_markText w' kk (by first | assumption | omega | (unfold szm at *; split at * <;> omega)))) ?_)
      obtain ⟨x3, hx4⟩ := some_of_lt (l := (mapAt fS cS k a i)) (i := i) (by omega)
      refine q1 rfl (D_ix (l := (mapAt fS cS k a i)) (j := i) s_68 rfl rfl rfl (fun w' hs => (rd_own (k := 0) hs rfl)) rfl (lt_of_some hx4)) ?_
      refine li rfl (so (α := ByteArray) (z := (markS kk)) 0 z_9 rfl rfl rfl rfl rfl (lt_of_some hx4) ?_)
      refine D_end ?_
      refine x_then ?_
      refine D_H (ov [v_a] ((mapAt fS cS k a i).set i (markS kk) : (List ByteArray)) :: Hs) rfl ?_
      refine C_reg ?_
      refine p1 rfl ?_
      refine q1 rfl (D_add rfl rfl rfl rfl (by omega)) ?_
      refine p1 rfl ?_
      refine D_end ?_
      refine x_blk ?_
      refine x_then ?_
      refine C_reg ?_
      refine p1 rfl ?_
      refine q1 rfl (D_add rfl rfl rfl (r := ((i + 1 : Nat) : Int)) (by omega) (by omega)) ?_
      refine p1 rfl ?_
      refine D_end ?_
      refine x_then ?_
      refine D_eq 0 rfl (show ((mapAt fS cS k a i).set i (markS kk) : (List ByteArray)) = mapAt fS cS k a (i + 1) from by exact mkS_set (by omega) hk) ?_
      refine fun ac w' hf hs => ⟨_, ?_, i + 1, (kk + 1), ?_, ?_, rfl, hf.weak ⟨rfl, rfl, rfl, trivial⟩, hs⟩
      · omega
      · first | assumption | omega | simp
      · first | assumption | omega | simp
    · have pr2 : ¬ (((i : Nat) : Int) : Int) < (((mapAt fS cS k a i).length : Nat) : Int) := of_decide_eq_false h2
      refine C_exit ?_
      refine x_then_exit ?_
      refine x_then_exit ?_
      refine x_blk_eq ?_
      refine x_then ?_
      refine C_seq ?_
      refine C_reg ?_
      refine p1 rfl <| p1 rfl ?_
      refine D_end ?_
      refine x_then ?_
      refine C_ret ?_
      refine D_eq 0 rfl (show (mapAt fS cS k a i : (List ByteArray)) = mkSs k a from by exact mapAt_done (by omega)) ?_
      refine R_1 rfl rfl fun w' hs => ⟨congrArg (fun z => Ending.returned (Value.int .i64 z)) ?_, hs⟩
      show (kk : Int) = k + a.length
      omega

theorem laws_heldStringS (w : World) (v_a : Value) (a : (List ByteArray)) (k : Int) (h_a : Gd.rd w [v_a] a) (h0 : 0 ≤ k) (h1 : k + a.length ≤ 4611686018427387904) (he : a = mkSs k a) : Calls Tryz.prog 52 [v_a, (.int .i64 k)].toArray w (Val w (.int .i64 (k + a.length))) := by
  have hm1 := rd_max h_a
  refine enter 22 Tryz.func52 rfl rfl rfl ?_
  refine C_seq ?_
  refine C_reg ?_
  refine p1 rfl ?_
  refine D_end ?_
  refine x_then ?_
  refine C_seq ?_
  refine C_seq ?_
  refine C_reg ?_
  refine p1 rfl ?_
  refine D_end ?_
  refine x_then ?_
  refine C_block ?_
  refine C_loop (fun m_ ac w' => ∃ (i : Nat), ∃ (kk : Int), (i ≤ a.length) ∧ (kk = k + i) ∧ m_ = a.length - i ∧ Fits ac 22 [(0, v_a), (1, (.int .i64 kk)), (5, (.int .i64 ((i : Nat) : Int)))] ∧ St w ([]) w') ?_ ?_
  · refine fun ac w' hf hs => ⟨_, 0, k, ?_, ?_, rfl, hf.weak ⟨rfl, rfl, rfl, trivial⟩, hs⟩
    · first | assumption | omega | simp
    · first | assumption | omega | simp
  · rintro m_ ac w' ⟨i, kk, hi, hk, rfl, hf, hs⟩
    refine D.use ?_ hf hs
    clear hf hs ac w'
    refine C_seq ?_
    refine C_seq ?_
    refine C_reg ?_
    refine p1 rfl <| p1 rfl ?_
    refine q1 rfl (D_len s_68 rfl rfl (rd_sl h_a)) ?_
    refine p1 rfl ?_
    refine D_end ?_
    refine x_then ?_
    refine C_if _ rfl (fun h2 => ?_) (fun h2 => ?_)
    · have pr2 : (((i : Nat) : Int) : Int) < ((a.length : Nat) : Int) := of_decide_eq_true h2
      refine C_skip ?_
      refine x_then ?_
      refine C_seq ?_
      refine C_block ?_
      refine C_seq ?_
      refine C_seq ?_
      refine C_draw mixed [] (by kernel_rfl) ?_
      refine tk 0 rfl (by kernel_rfl) (by kernel_rfl) (by kernel_rfl) rfl (fun _ hs => hs) (rp rfl) ?_
      refine tk 1 rfl (by kernel_rfl) (by kernel_rfl) (by kernel_rfl) rfl (fun _ hs => hs) (rp rfl) ?_
      obtain ⟨x3, hx4⟩ := some_of_lt (l := a) (i := i) (by omega)
      obtain ⟨es5, at6, hr7⟩ := rd_elem (n := 1) rfl h_a hx4
      obtain rfl : es5 = [.string x3] := hr7
      refine tk 2 rfl (by kernel_rfl) (by kernel_rfl) (by kernel_rfl) rfl (fun _ hs => hs) (D_ix (l := a) (j := i) s_68 rfl rfl rfl (fun w' hs => (rd_at hs h_a)) rfl (lt_of_some hx4)) ?_
      refine tk 3 rfl (by kernel_rfl) (by kernel_rfl) (by kernel_rfl) rfl (fun _ hs => hs) (lr0 o_9 rfl rfl at6 rfl) ?_
      refine tk 4 rfl (by kernel_rfl) (by kernel_rfl) (by kernel_rfl) rfl (fun _ hs => hs) (rp rfl) ?_
      refine ty 5 rfl (by kernel_rfl) rfl (cv b_23 rfl rfl rfl rfl (fun w' hs => (laws_markText w' kk (by first | assumption | omega | (unfold szm at *; split at * <;> omega)))) ?_)
      refine tS (fun _ hs => hs) ?_
      refine tk 6 rfl (by kernel_rfl) (by kernel_rfl) (by kernel_rfl) rfl (fun _ hs => hs) (D_neS rfl rfl rfl) ?_
      refine tE (by kernel_rfl) ?_
      refine x_then ?_
      refine C_if _ rfl (fun h8 => ?_) (fun h8 => ?_)
      · have pr8 : ¬ (x3 : ByteArray) = (markS kk) := of_decide_eq_false (not_t h8)
        refine C_seq ?_
        refine C_reg ?_
        refine p1 rfl ?_
        refine D_end ?_
        refine x_then ?_
        refine C_ret ?_
        refine x_then_ret ?_
        refine x_blk_ret ?_
        refine x_then_ret ?_
        refine x_then_ret ?_
        refine x_blk_ret ?_
        refine x_then_ret ?_
        refine R_1 rfl rfl fun w' hs => ⟨congrArg (fun z => Ending.returned (Value.int .i64 z)) ?_, hs.bel⟩
        show ((-1) : Int) = k + a.length
        exfalso; have := mkS_fix he hx4; rw [← hk] at this; contradiction
      · have pr8 : (x3 : ByteArray) = (markS kk) := of_decide_eq_true (not_f h8)
        refine C_skip ?_
        refine x_then ?_
        refine C_reg ?_
        refine p1 rfl ?_
        refine q1 rfl (D_add rfl rfl rfl rfl (by omega)) ?_
        refine p1 rfl ?_
        refine D_end ?_
        refine x_blk ?_
        refine x_then ?_
        refine C_reg ?_
        refine p1 rfl ?_
        refine q1 rfl (D_add rfl rfl rfl (r := ((i + 1 : Nat) : Int)) (by omega) (by omega)) ?_
        refine p1 rfl ?_
        refine D_end ?_
        refine x_then ?_
        refine fun ac w' hf hs => ⟨_, ?_, i + 1, (kk + 1), ?_, ?_, rfl, hf.weak ⟨rfl, rfl, rfl, trivial⟩, hs⟩
        · omega
        · first | assumption | omega | simp
        · first | assumption | omega | simp
    · have pr2 : ¬ (((i : Nat) : Int) : Int) < ((a.length : Nat) : Int) := of_decide_eq_false h2
      refine C_exit ?_
      refine x_then_exit ?_
      refine x_then_exit ?_
      refine x_blk_eq ?_
      refine x_then ?_
      refine C_seq ?_
      refine C_reg ?_
      refine p1 rfl <| p1 rfl ?_
      refine D_end ?_
      refine x_then ?_
      refine C_ret ?_
      refine R_1 rfl rfl fun w' hs => ⟨congrArg (fun z => Ending.returned (Value.int .i64 z)) ?_, hs.bel⟩
      show (kk : Int) = k + a.length
      omega

theorem laws_markCondS (w0 : World) (Hs : List Chunk) (w : World) (v_a : Value) (a : (List Cond)) (k : Int) (h0 : 0 ≤ k) (h1 : k + sumC cCo a ≤ 4611686018427387904) (hst : St w0 (ov [v_a] (a : (List Cond)) :: Hs) w) : Calls Tryz.prog 24 [v_a, (.int .i64 k)].toArray w (fun e w' => e = .returned (.int .i64 (k + sumC cCo a)) ∧ St w0 (ov [v_a] (mapS fCo cCo k a : (List Cond)) :: Hs) w') := by
  have hm1 := rd_max (rd_own (k := 0) hst rfl)
  refine enterS 53 Tryz.func24 rfl rfl rfl hst ?_
  refine C_seq ?_
  refine C_reg ?_
  refine p1 rfl ?_
  refine D_end ?_
  refine x_then ?_
  refine D_H (ov [v_a] (a : (List Cond)) :: Hs) rfl ?_
  refine C_seq ?_
  refine C_seq ?_
  refine C_reg ?_
  refine p1 rfl ?_
  refine D_end ?_
  refine x_then ?_
  refine C_block ?_
  refine C_loop (fun m_ ac w' => ∃ (i : Nat), ∃ (kk : Int), (i ≤ a.length) ∧ (kk = k + sumC cCo (a.take i)) ∧ m_ = a.length - i ∧ Fits ac 53 [(0, v_a), (1, (.int .i64 kk)), (5, (.int .i64 ((i : Nat) : Int)))] ∧ St w0 (ov [v_a] (mapAt fCo cCo k a i : (List Cond)) :: Hs) w') ?_ ?_
  · refine D_eq 0 rfl (show (a : (List Cond)) = mapAt fCo cCo k a 0 from by rw [mapAt_zero]) ?_
    refine fun ac w' hf hs => ⟨_, 0, k, ?_, ?_, rfl, hf.weak ⟨rfl, rfl, rfl, trivial⟩, hs⟩
    · first | assumption | omega | simp
    · simp [sumC]
  · rintro m_ ac w' ⟨i, kk, hi, hk, rfl, hf, hs⟩
    refine D.use ?_ hf hs
    clear hf hs ac w'
    have hcl := mapAt_len (f := fCo) (c := cCo) (k := k) hi
    have htk := sumC_take_le a cCo i
    refine C_seq ?_
    refine C_seq ?_
    refine C_reg ?_
    refine p1 rfl <| p1 rfl ?_
    refine q1 rfl (D_leno 0 s_45 rfl rfl rfl) ?_
    refine p1 rfl ?_
    refine D_end ?_
    refine x_then ?_
    refine D_H (ov [v_a] (mapAt fCo cCo k a i : (List Cond)) :: Hs) rfl ?_
    refine C_if _ rfl (fun h2 => ?_) (fun h2 => ?_)
    · have pr2 : (((i : Nat) : Int) : Int) < (((mapAt fCo cCo k a i).length : Nat) : Int) := of_decide_eq_true h2
      refine C_skip ?_
      refine x_then ?_
      refine C_seq ?_
      refine C_block ?_
      refine C_seq ?_
      refine C_reg ?_
      refine p1 rfl <| p1 rfl <| p1 rfl ?_
      obtain ⟨x3, hx4⟩ := some_of_lt (l := (mapAt fCo cCo k a i)) (i := i) (by omega)
      refine D_take hx4 fun es5 => ?_
      refine D_pre (fun w' hs => shape_Cond (rd_own (k := 0) hs rfl)) ?_
      rintro ⟨v6, rfl, ho7⟩
      refine q1 rfl (D_ixh 1 s_45 rfl rfl rfl rfl rfl) ?_
      have hstep := mk_step hi hx4 hk
      have hcc : cCo x3 = 4 + x3.Pattern.Args.length := rfl
      refine q1 rfl (D_fa f_85_0 rfl rfl) ?_
      refine D_unpair (α := Int) (β := Go.Sy.Pattern × ByteArray × ByteArray) (c1 := [(.int .i64 x3.Kind)]) (c2 := [(.string x3.Pattern.Rel), v6, (.string x3.Left), (.string x3.Right)]) (x := x3.Kind) (y := (x3.Pattern, x3.Left, x3.Right)) rfl rfl ?_
      refine D_fd [] 1 rfl ?_
      refine D_unpair (α := Go.Sy.Pattern) (β := ByteArray × ByteArray) (c1 := [(.string x3.Pattern.Rel), v6]) (c2 := [(.string x3.Left), (.string x3.Right)]) (x := x3.Pattern) (y := (x3.Left, x3.Right)) rfl rfl ?_
      refine D_fd [1] 0 rfl ?_
      refine D_unpair (α := ByteArray) (β := ByteArray) (c1 := [(.string x3.Left)]) (c2 := [(.string x3.Right)]) (x := x3.Left) (y := (x3.Right)) rfl rfl ?_
      refine D_fd [] 1 rfl ?_
      refine D_fd [] 1 rfl ?_
      refine li rfl (sh (n := 5) (f := 0) 1 rfl z_3 rfl rfl rfl rfl rfl rfl rfl (by simp) ?_)
      refine D_end ?_
      refine x_then ?_
      refine C_seq ?_
      refine C_reg ?_
      refine p1 rfl ?_
      refine q1 rfl (D_add rfl rfl rfl rfl (by omega)) ?_
      refine p1 rfl ?_
      refine D_end ?_
      refine x_then ?_
      refine C_seq ?_
      refine C_reg ?_
      refine p1 rfl <| p1 rfl <| p1 rfl ?_
      refine li rfl (cv b_23 rfl rfl rfl rfl (fun w' hs => (laws_markText w' (kk + 1) (by first | assumption | omega | (unfold szm at *; split at * <;> omega)))) ?_)
      refine q1 rfl (D_ixh 1 s_45 rfl rfl rfl rfl rfl) ?_
      refine q1 rfl (D_fa f_85_1 rfl rfl) ?_
      refine q1 rfl (D_fa' f_83_0 rfl rfl (q := 1) rfl) ?_
      refine li rfl (sh (n := 5) (f := 1) 1 rfl z_9 rfl rfl rfl rfl rfl rfl rfl (by simp) ?_)
      refine D_end ?_
      refine x_then ?_
      refine D_weak [(0, v_a), (1, (.int .i64 (kk + 1))), (5, (.int .i64 ((i : Nat) : Int)))] ⟨rfl, rfl, rfl, trivial⟩ ?_
      refine C_seq ?_
      refine C_reg ?_
      refine p1 rfl ?_
      refine q1 rfl (D_add rfl rfl rfl rfl (by omega)) ?_
      refine p1 rfl ?_
      refine D_end ?_
      refine x_then ?_
      refine C_seq ?_
      refine C_reg ?_
      refine p1 rfl <| p1 rfl ?_
      refine q1 rfl (D_ixh 1 s_45 rfl rfl rfl rfl rfl) ?_
      refine q1 rfl (D_fa f_85_1 rfl rfl) ?_
      refine q1 rfl (D_fa' f_83_1 rfl rfl (q := 2) rfl) ?_
      refine q1 rfl (lh (n := 5) 1 rfl o_68 rfl rfl rfl rfl) ?_
      refine p1 rfl ?_
      refine D_unpair (α := ByteArray) (β := (List ByteArray)) (c1 := [(.string x3.Pattern.Rel)]) (c2 := [v6]) (x := x3.Pattern.Rel) (y := (x3.Pattern.Args)) rfl rfl ?_
      refine D_fd [] 1 rfl ?_
      refine li rfl (cm b_48 rfl rfl rfl rfl (fun w' hs => laws_markStringS _ _ w' v6 x3.Pattern.Args ((kk + 1) + 1) (by first | assumption | omega | (simp only; omega)) (by first | assumption | omega | (simp only; omega)) hs) ?_)
      refine p1 rfl ?_
      refine D_end ?_
      refine x_then ?_
      refine C_seq ?_
      refine C_reg ?_
      refine p1 rfl <| p1 rfl <| p1 rfl ?_
      refine li rfl (cv b_23 rfl rfl rfl rfl (fun w' hs => (laws_markText w' (((kk + 1) + 1) + x3.Pattern.Args.length) (by first | assumption | omega | (unfold szm at *; split at * <;> omega)))) ?_)
      refine q1 rfl (D_ixh 1 s_45 rfl rfl rfl rfl rfl) ?_
      refine q1 rfl (D_fa f_85_2 rfl rfl) ?_
      refine li rfl (sh (n := 5) (f := 3) 1 rfl z_9 rfl rfl rfl rfl rfl rfl rfl (by simp) ?_)
      refine D_end ?_
      refine x_then ?_
      refine D_weak [(0, v_a), (1, (.int .i64 (((kk + 1) + 1) + x3.Pattern.Args.length))), (5, (.int .i64 ((i : Nat) : Int)))] ⟨rfl, rfl, rfl, trivial⟩ ?_
      refine C_seq ?_
      refine C_reg ?_
      refine p1 rfl ?_
      refine q1 rfl (D_add rfl rfl rfl rfl (by omega)) ?_
      refine p1 rfl ?_
      refine D_end ?_
      refine x_then ?_
      refine C_seq ?_
      refine C_reg ?_
      refine p1 rfl <| p1 rfl <| p1 rfl ?_
      refine li rfl (cv b_23 rfl rfl rfl rfl (fun w' hs => (laws_markText w' ((((kk + 1) + 1) + x3.Pattern.Args.length) + 1) (by first | assumption | omega | (unfold szm at *; split at * <;> omega)))) ?_)
      refine q1 rfl (D_ixh 1 s_45 rfl rfl rfl rfl rfl) ?_
      refine q1 rfl (D_fa f_85_3 rfl rfl) ?_
      refine li rfl (sh (n := 5) (f := 4) 1 rfl z_9 rfl rfl rfl rfl rfl rfl rfl (by simp) ?_)
      refine D_end ?_
      refine x_then ?_
      refine C_reg ?_
      refine p1 rfl ?_
      refine q1 rfl (D_add rfl rfl rfl rfl (by omega)) ?_
      refine p1 rfl ?_
      refine D_end ?_
      refine x_blk ?_
      refine x_then ?_
      refine C_reg ?_
      refine p1 rfl ?_
      refine q1 rfl (D_add rfl rfl rfl (r := ((i + 1 : Nat) : Int)) (by omega) (by omega)) ?_
      refine p1 rfl ?_
      refine D_end ?_
      refine x_then ?_
      refine pk_Cond (r := (⟨kk, ⟨(markS (kk + 1)), mkSs ((kk + 1) + 1) x3.Pattern.Args⟩, (markS (((kk + 1) + 1) + x3.Pattern.Args.length)), (markS ((((kk + 1) + 1) + x3.Pattern.Args.length) + 1))⟩ : Cond)) ?_
      refine D_put ?_
      refine D_eq 0 rfl (show ((mapAt fCo cCo k a i).set i (⟨kk, ⟨(markS (kk + 1)), mkSs ((kk + 1) + 1) x3.Pattern.Args⟩, (markS (((kk + 1) + 1) + x3.Pattern.Args.length)), (markS ((((kk + 1) + 1) + x3.Pattern.Args.length) + 1))⟩ : Cond) : (List Cond)) = mapAt fCo cCo k a (i + 1) from by exact mk_set hi hx4 hk rfl) ?_
      refine fun ac w' hf hs => ⟨_, ?_, i + 1, (((((kk + 1) + 1) + x3.Pattern.Args.length) + 1) + 1), ?_, ?_, rfl, hf.weak ⟨rfl, rfl, rfl, trivial⟩, hs⟩
      · omega
      · first | assumption | omega | simp
      · omega
    · have pr2 : ¬ (((i : Nat) : Int) : Int) < (((mapAt fCo cCo k a i).length : Nat) : Int) := of_decide_eq_false h2
      refine C_exit ?_
      refine x_then_exit ?_
      refine x_then_exit ?_
      refine x_blk_eq ?_
      refine x_then ?_
      refine C_seq ?_
      refine C_reg ?_
      refine p1 rfl <| p1 rfl ?_
      refine D_end ?_
      refine x_then ?_
      refine C_ret ?_
      refine D_eq 0 rfl (show (mapAt fCo cCo k a i : (List Cond)) = mapS fCo cCo k a from by exact mapAt_done (by omega)) ?_
      refine R_1 rfl rfl fun w' hs => ⟨congrArg (fun z => Ending.returned (Value.int .i64 z)) ?_, hs⟩
      show (kk : Int) = k + sumC cCo a
      rw [List.take_of_length_le (by omega)] at hk; exact hk

set_option maxHeartbeats 4000000 in
theorem laws_heldCondS (w : World) (v_a : Value) (a : (List Cond)) (k : Int) (h_a : Gd.rd w [v_a] a) (h0 : 0 ≤ k) (h1 : k + sumC cCo a ≤ 4611686018427387904) (he : a = mapS fCo cCo k a) : Calls Tryz.prog 50 [v_a, (.int .i64 k)].toArray w (Val w (.int .i64 (k + sumC cCo a))) := by
  have hm1 := rd_max h_a
  refine enter 63 Tryz.func50 rfl rfl rfl ?_
  refine C_seq ?_
  refine C_reg ?_
  refine p1 rfl ?_
  refine D_end ?_
  refine x_then ?_
  refine C_seq ?_
  refine C_seq ?_
  refine C_reg ?_
  refine p1 rfl ?_
  refine D_end ?_
  refine x_then ?_
  refine C_block ?_
  refine C_loop (fun m_ ac w' => ∃ (i : Nat), ∃ (kk : Int), (i ≤ a.length) ∧ (kk = k + sumC cCo (a.take i)) ∧ m_ = a.length - i ∧ Fits ac 63 [(0, v_a), (1, (.int .i64 kk)), (5, (.int .i64 ((i : Nat) : Int)))] ∧ St w ([]) w') ?_ ?_
  · refine fun ac w' hf hs => ⟨_, 0, k, ?_, ?_, rfl, hf.weak ⟨rfl, rfl, rfl, trivial⟩, hs⟩
    · first | assumption | omega | simp
    · simp [sumC]
  · rintro m_ ac w' ⟨i, kk, hi, hk, rfl, hf, hs⟩
    refine D.use ?_ hf hs
    clear hf hs ac w'
    have htk := sumC_take_le a cCo i
    refine C_seq ?_
    refine C_seq ?_
    refine C_reg ?_
    refine p1 rfl <| p1 rfl ?_
    refine q1 rfl (D_len s_45 rfl rfl (rd_sl h_a)) ?_
    refine p1 rfl ?_
    refine D_end ?_
    refine x_then ?_
    refine C_if _ rfl (fun h2 => ?_) (fun h2 => ?_)
    · have pr2 : (((i : Nat) : Int) : Int) < ((a.length : Nat) : Int) := of_decide_eq_true h2
      refine C_skip ?_
      refine x_then ?_
      refine C_seq ?_
      refine C_block ?_
      refine C_seq ?_
      refine C_seq ?_
      refine C_reg ?_
      refine p1 rfl <| p1 rfl ?_
      obtain ⟨x3, hx4⟩ := some_of_lt (l := a) (i := i) (by omega)
      obtain ⟨es5, at6, hr7⟩ := rd_elem (n := 5) rfl h_a hx4
      obtain ⟨u9, rfl, hu10⟩ := open_Cond hr7
      have hm11 := rd_max hu10
      have hb12 := sub_Cond_Pattern hr7
      refine q1 rfl (D_ix (l := a) (j := i) s_45 rfl rfl rfl (fun w' hs => (rd_at hs h_a)) rfl (lt_of_some hx4)) ?_
      have hfx := mapS_fix he hx4
      rw [← hk] at hfx
      have hF0 : x3.Kind = kk := congrArg (fun y => y.Kind) hfx
      have hF1 : x3.Pattern.Rel = markS (kk + 1) := congrArg (fun y => y.Pattern.Rel) hfx
      have hF2 : x3.Pattern.Args = mkSs (kk + 1 + 1) x3.Pattern.Args := congrArg (fun y => y.Pattern.Args) hfx
      have hF3 : x3.Left = markS (kk + 1 + 1 + x3.Pattern.Args.length) := congrArg (fun y => y.Left) hfx
      have hF4 : x3.Right = markS (kk + 1 + 1 + x3.Pattern.Args.length + 1) := congrArg (fun y => y.Right) hfx
      have hstep := mk_stepH (c := cCo) hx4 hk
      have hcc : cCo x3 = 4 + x3.Pattern.Args.length := rfl
      refine q1 rfl (D_fa f_85_0 rfl rfl) ?_
      refine q1 rfl (lr o_3 rfl rfl at6 rfl) ?_
      refine p1 rfl <| p1 rfl ?_
      refine D_end ?_
      refine x_then ?_
      refine C_if _ rfl (fun h13 => ?_) (fun h13 => ?_)
      · have pr13 : (x3.Kind : Int) ≠ kk := bne_iff_ne.1 h13
        refine C_seq ?_
        refine C_reg ?_
        refine p1 rfl ?_
        refine D_end ?_
        refine x_then ?_
        refine C_ret ?_
        refine x_then_ret ?_
        refine x_blk_ret ?_
        refine x_then_ret ?_
        refine x_then_ret ?_
        refine x_blk_ret ?_
        refine x_then_ret ?_
        refine R_1 rfl rfl fun w' hs => ⟨congrArg (fun z => Ending.returned (Value.int .i64 z)) ?_, hs.bel⟩
        show ((-1) : Int) = k + sumC cCo a
        first | (exfalso; contradiction) | (exfalso; omega) | (rw [List.take_of_length_le (by omega)] at hk; exact hk)
      · have pr13 : (x3.Kind : Int) = kk := eq_of_bne_f h13
        refine C_skip ?_
        refine x_then ?_
        refine C_seq ?_
        refine C_reg ?_
        refine p1 rfl ?_
        refine q1 rfl (D_add rfl rfl rfl rfl (by omega)) ?_
        refine p1 rfl ?_
        refine D_end ?_
        refine x_then ?_
        refine C_seq ?_
        refine C_seq ?_
        refine C_draw mixed [] (by kernel_rfl) ?_
        refine tk 0 rfl (by kernel_rfl) (by kernel_rfl) (by kernel_rfl) rfl (fun _ hs => hs) (rp rfl) ?_
        refine tk 1 rfl (by kernel_rfl) (by kernel_rfl) (by kernel_rfl) rfl (fun _ hs => hs) (rp rfl) ?_
        refine tk 2 rfl (by kernel_rfl) (by kernel_rfl) (by kernel_rfl) rfl (fun _ hs => hs) (D_ix (l := a) (j := i) s_45 rfl rfl rfl (fun w' hs => (rd_at hs h_a)) rfl (lt_of_some hx4)) ?_
        refine tk 3 rfl (by kernel_rfl) (by kernel_rfl) (by kernel_rfl) rfl (fun _ hs => hs) (D_fa f_85_1 rfl rfl) ?_
        refine tk 4 rfl (by kernel_rfl) (by kernel_rfl) (by kernel_rfl) rfl (fun _ hs => hs) (D_fa' f_83_0 rfl rfl (q := 1) rfl) ?_
        refine tk 5 rfl (by kernel_rfl) (by kernel_rfl) (by kernel_rfl) rfl (fun _ hs => hs) (lr o_9 rfl rfl at6 rfl) ?_
        refine tk 6 rfl (by kernel_rfl) (by kernel_rfl) (by kernel_rfl) rfl (fun _ hs => hs) (rp rfl) ?_
        refine ty 7 rfl (by kernel_rfl) rfl (cv b_23 rfl rfl rfl rfl (fun w' hs => (laws_markText w' (kk + 1) (by first | assumption | omega | (unfold szm at *; split at * <;> omega)))) ?_)
        refine tS (fun _ hs => hs) ?_
        refine tk 8 rfl (by kernel_rfl) (by kernel_rfl) (by kernel_rfl) rfl (fun _ hs => hs) (D_neS rfl rfl rfl) ?_
        refine tE (by kernel_rfl) ?_
        refine x_then ?_
        refine D_weak [(0, v_a), (1, (.int .i64 (kk + 1))), (5, (.int .i64 ((i : Nat) : Int))), (29, (.bool (!(decide ((x3.Pattern.Rel : ByteArray) = (markS (kk + 1)))))))] ⟨rfl, rfl, rfl, rfl, trivial⟩ ?_
        refine C_if _ rfl (fun h14 => ?_) (fun h14 => ?_)
        · have pr14 : ¬ (x3.Pattern.Rel : ByteArray) = (markS (kk + 1)) := of_decide_eq_false (not_t h14)
          refine C_seq ?_
          refine C_reg ?_
          refine p1 rfl ?_
          refine D_end ?_
          refine x_then ?_
          refine C_ret ?_
          refine x_then_ret ?_
          refine x_blk_ret ?_
          refine x_then_ret ?_
          refine x_then_ret ?_
          refine x_blk_ret ?_
          refine x_then_ret ?_
          refine R_1 rfl rfl fun w' hs => ⟨congrArg (fun z => Ending.returned (Value.int .i64 z)) ?_, hs.bel⟩
          show ((-1) : Int) = k + sumC cCo a
          first | (exfalso; contradiction) | (exfalso; omega) | (rw [List.take_of_length_le (by omega)] at hk; exact hk)
        · have pr14 : (x3.Pattern.Rel : ByteArray) = (markS (kk + 1)) := of_decide_eq_true (not_f h14)
          refine C_skip ?_
          refine x_then ?_
          refine C_seq ?_
          refine C_reg ?_
          refine p1 rfl ?_
          refine q1 rfl (D_add rfl rfl rfl rfl (by omega)) ?_
          refine p1 rfl ?_
          refine D_end ?_
          refine x_then ?_
          refine C_seq ?_
          refine C_reg ?_
          refine p1 rfl <| p1 rfl ?_
          refine q1 rfl (D_ix (l := a) (j := i) s_45 rfl rfl rfl (fun w' hs => (rd_at hs h_a)) rfl (lt_of_some hx4)) ?_
          refine q1 rfl (D_fa f_85_1 rfl rfl) ?_
          refine q1 rfl (D_fa' f_83_1 rfl rfl (q := 2) rfl) ?_
          refine q1 rfl (lr o_68 rfl rfl at6 rfl) ?_
          refine p1 rfl ?_
          refine li rfl (cv b_52 rfl rfl rfl rfl (fun w' hs => (laws_heldStringS w' u9 x3.Pattern.Args ((kk + 1) + 1) (rd_at hs hu10) (by first | assumption | omega | (unfold szm at *; split at * <;> omega)) (by first | assumption | omega | (unfold szm at *; split at * <;> omega)) (by first | assumption | omega | (unfold szm at *; split at * <;> omega)))) ?_)
          refine p1 rfl ?_
          refine D_end ?_
          refine x_then ?_
          refine C_seq ?_
          refine C_seq ?_
          refine C_reg ?_
          refine p1 rfl <| p1 rfl ?_
          refine D_end ?_
          refine x_then ?_
          refine C_if _ rfl (fun h15 => ?_) (fun h15 => ?_)
          · have pr15 : ((((kk + 1) + 1) + x3.Pattern.Args.length) : Int) < 0 := of_decide_eq_true h15
            refine C_seq ?_
            refine C_reg ?_
            refine p1 rfl ?_
            refine D_end ?_
            refine x_then ?_
            refine D_weak [(4, (.int .i64 (-1)))] ⟨rfl, trivial⟩ ?_
            refine C_ret ?_
            refine x_then_ret ?_
            refine x_blk_ret ?_
            refine x_then_ret ?_
            refine x_then_ret ?_
            refine x_blk_ret ?_
            refine x_then_ret ?_
            refine R_1 rfl rfl fun w' hs => ⟨congrArg (fun z => Ending.returned (Value.int .i64 z)) ?_, hs.bel⟩
            show ((-1) : Int) = k + sumC cCo a
            first | (exfalso; contradiction) | (exfalso; omega) | (rw [List.take_of_length_le (by omega)] at hk; exact hk)
          · have pr15 : ¬ ((((kk + 1) + 1) + x3.Pattern.Args.length) : Int) < 0 := of_decide_eq_false h15
            refine C_skip ?_
            refine x_then ?_
            refine C_seq ?_
            refine C_seq ?_
            refine C_draw mixed [] (by kernel_rfl) ?_
            refine tk 0 rfl (by kernel_rfl) (by kernel_rfl) (by kernel_rfl) rfl (fun _ hs => hs) (rp rfl) ?_
            refine tk 1 rfl (by kernel_rfl) (by kernel_rfl) (by kernel_rfl) rfl (fun _ hs => hs) (rp rfl) ?_
            refine tk 2 rfl (by kernel_rfl) (by kernel_rfl) (by kernel_rfl) rfl (fun _ hs => hs) (D_ix (l := a) (j := i) s_45 rfl rfl rfl (fun w' hs => (rd_at hs h_a)) rfl (lt_of_some hx4)) ?_
            refine tk 3 rfl (by kernel_rfl) (by kernel_rfl) (by kernel_rfl) rfl (fun _ hs => hs) (D_fa f_85_2 rfl rfl) ?_
            refine tk 4 rfl (by kernel_rfl) (by kernel_rfl) (by kernel_rfl) rfl (fun _ hs => hs) (lr o_9 rfl rfl at6 rfl) ?_
            refine tk 5 rfl (by kernel_rfl) (by kernel_rfl) (by kernel_rfl) rfl (fun _ hs => hs) (rp rfl) ?_
            refine ty 6 rfl (by kernel_rfl) rfl (cv b_23 rfl rfl rfl rfl (fun w' hs => (laws_markText w' (((kk + 1) + 1) + x3.Pattern.Args.length) (by first | assumption | omega | (unfold szm at *; split at * <;> omega)))) ?_)
            refine tS (fun _ hs => hs) ?_
            refine tk 7 rfl (by kernel_rfl) (by kernel_rfl) (by kernel_rfl) rfl (fun _ hs => hs) (D_neS rfl rfl rfl) ?_
            refine tE (by kernel_rfl) ?_
            refine x_then ?_
            refine D_weak [(0, v_a), (1, (.int .i64 (((kk + 1) + 1) + x3.Pattern.Args.length))), (5, (.int .i64 ((i : Nat) : Int))), (49, (.bool (!(decide ((x3.Left : ByteArray) = (markS (((kk + 1) + 1) + x3.Pattern.Args.length)))))))] ⟨rfl, rfl, rfl, rfl, trivial⟩ ?_
            refine C_if _ rfl (fun h16 => ?_) (fun h16 => ?_)
            · have pr16 : ¬ (x3.Left : ByteArray) = (markS (((kk + 1) + 1) + x3.Pattern.Args.length)) := of_decide_eq_false (not_t h16)
              refine C_seq ?_
              refine C_reg ?_
              refine p1 rfl ?_
              refine D_end ?_
              refine x_then ?_
              refine C_ret ?_
              refine x_then_ret ?_
              refine x_blk_ret ?_
              refine x_then_ret ?_
              refine x_then_ret ?_
              refine x_blk_ret ?_
              refine x_then_ret ?_
              refine R_1 rfl rfl fun w' hs => ⟨congrArg (fun z => Ending.returned (Value.int .i64 z)) ?_, hs.bel⟩
              show ((-1) : Int) = k + sumC cCo a
              first | (exfalso; contradiction) | (exfalso; omega) | (rw [List.take_of_length_le (by omega)] at hk; exact hk)
            · have pr16 : (x3.Left : ByteArray) = (markS (((kk + 1) + 1) + x3.Pattern.Args.length)) := of_decide_eq_true (not_f h16)
              refine C_skip ?_
              refine x_then ?_
              refine C_seq ?_
              refine C_reg ?_
              refine p1 rfl ?_
              refine q1 rfl (D_add rfl rfl rfl rfl (by omega)) ?_
              refine p1 rfl ?_
              refine D_end ?_
              refine x_then ?_
              refine C_seq ?_
              refine C_seq ?_
              refine C_draw mixed [] (by kernel_rfl) ?_
              refine tk 0 rfl (by kernel_rfl) (by kernel_rfl) (by kernel_rfl) rfl (fun _ hs => hs) (rp rfl) ?_
              refine tk 1 rfl (by kernel_rfl) (by kernel_rfl) (by kernel_rfl) rfl (fun _ hs => hs) (rp rfl) ?_
              refine tk 2 rfl (by kernel_rfl) (by kernel_rfl) (by kernel_rfl) rfl (fun _ hs => hs) (D_ix (l := a) (j := i) s_45 rfl rfl rfl (fun w' hs => (rd_at hs h_a)) rfl (lt_of_some hx4)) ?_
              refine tk 3 rfl (by kernel_rfl) (by kernel_rfl) (by kernel_rfl) rfl (fun _ hs => hs) (D_fa f_85_3 rfl rfl) ?_
              refine tk 4 rfl (by kernel_rfl) (by kernel_rfl) (by kernel_rfl) rfl (fun _ hs => hs) (lr o_9 rfl rfl at6 rfl) ?_
              refine tk 5 rfl (by kernel_rfl) (by kernel_rfl) (by kernel_rfl) rfl (fun _ hs => hs) (rp rfl) ?_
              refine ty 6 rfl (by kernel_rfl) rfl (cv b_23 rfl rfl rfl rfl (fun w' hs => (laws_markText w' ((((kk + 1) + 1) + x3.Pattern.Args.length) + 1) (by first | assumption | omega | (unfold szm at *; split at * <;> omega)))) ?_)
              refine tS (fun _ hs => hs) ?_
              refine tk 7 rfl (by kernel_rfl) (by kernel_rfl) (by kernel_rfl) rfl (fun _ hs => hs) (D_neS rfl rfl rfl) ?_
              refine tE (by kernel_rfl) ?_
              refine x_then ?_
              refine C_if _ rfl (fun h17 => ?_) (fun h17 => ?_)
              · have pr17 : ¬ (x3.Right : ByteArray) = (markS ((((kk + 1) + 1) + x3.Pattern.Args.length) + 1)) := of_decide_eq_false (not_t h17)
                refine C_seq ?_
                refine C_reg ?_
                refine p1 rfl ?_
                refine D_end ?_
                refine x_then ?_
                refine C_ret ?_
                refine x_then_ret ?_
                refine x_blk_ret ?_
                refine x_then_ret ?_
                refine x_then_ret ?_
                refine x_blk_ret ?_
                refine x_then_ret ?_
                refine R_1 rfl rfl fun w' hs => ⟨congrArg (fun z => Ending.returned (Value.int .i64 z)) ?_, hs.bel⟩
                show ((-1) : Int) = k + sumC cCo a
                first | (exfalso; contradiction) | (exfalso; omega) | (rw [List.take_of_length_le (by omega)] at hk; exact hk)
              · have pr17 : (x3.Right : ByteArray) = (markS ((((kk + 1) + 1) + x3.Pattern.Args.length) + 1)) := of_decide_eq_true (not_f h17)
                refine C_skip ?_
                refine x_then ?_
                refine C_reg ?_
                refine p1 rfl ?_
                refine q1 rfl (D_add rfl rfl rfl rfl (by omega)) ?_
                refine p1 rfl ?_
                refine D_end ?_
                refine x_blk ?_
                refine x_then ?_
                refine C_reg ?_
                refine p1 rfl ?_
                refine q1 rfl (D_add rfl rfl rfl (r := ((i + 1 : Nat) : Int)) (by omega) (by omega)) ?_
                refine p1 rfl ?_
                refine D_end ?_
                refine x_then ?_
                refine fun ac w' hf hs => ⟨_, ?_, i + 1, (((((kk + 1) + 1) + x3.Pattern.Args.length) + 1) + 1), ?_, ?_, rfl, hf.weak ⟨rfl, rfl, rfl, trivial⟩, hs⟩
                · omega
                · first | assumption | omega | simp
                · omega
    · have pr2 : ¬ (((i : Nat) : Int) : Int) < ((a.length : Nat) : Int) := of_decide_eq_false h2
      refine C_exit ?_
      refine x_then_exit ?_
      refine x_then_exit ?_
      refine x_blk_eq ?_
      refine x_then ?_
      refine C_seq ?_
      refine C_reg ?_
      refine p1 rfl <| p1 rfl ?_
      refine D_end ?_
      refine x_then ?_
      refine C_ret ?_
      refine R_1 rfl rfl fun w' hs => ⟨congrArg (fun z => Ending.returned (Value.int .i64 z)) ?_, hs.bel⟩
      show (kk : Int) = k + sumC cCo a
      first | (exfalso; contradiction) | (exfalso; omega) | (rw [List.take_of_length_le (by omega)] at hk; exact hk)

theorem laws_markActionS (w0 : World) (Hs : List Chunk) (w : World) (v_a : Value) (a : (List Action)) (k : Int) (h0 : 0 ≤ k) (h1 : k + sumC cAc a ≤ 4611686018427387904) (hst : St w0 (ov [v_a] (a : (List Action)) :: Hs) w) : Calls Tryz.prog 25 [v_a, (.int .i64 k)].toArray w (fun e w' => e = .returned (.int .i64 (k + sumC cAc a)) ∧ St w0 (ov [v_a] (mapS fAc cAc k a : (List Action)) :: Hs) w') := by
  have hm1 := rd_max (rd_own (k := 0) hst rfl)
  refine enterS 37 Tryz.func25 rfl rfl rfl hst ?_
  refine C_seq ?_
  refine C_reg ?_
  refine p1 rfl ?_
  refine D_end ?_
  refine x_then ?_
  refine D_H (ov [v_a] (a : (List Action)) :: Hs) rfl ?_
  refine C_seq ?_
  refine C_seq ?_
  refine C_reg ?_
  refine p1 rfl ?_
  refine D_end ?_
  refine x_then ?_
  refine C_block ?_
  refine C_loop (fun m_ ac w' => ∃ (i : Nat), ∃ (kk : Int), (i ≤ a.length) ∧ (kk = k + sumC cAc (a.take i)) ∧ m_ = a.length - i ∧ Fits ac 37 [(0, v_a), (1, (.int .i64 kk)), (5, (.int .i64 ((i : Nat) : Int)))] ∧ St w0 (ov [v_a] (mapAt fAc cAc k a i : (List Action)) :: Hs) w') ?_ ?_
  · refine D_eq 0 rfl (show (a : (List Action)) = mapAt fAc cAc k a 0 from by rw [mapAt_zero]) ?_
    refine fun ac w' hf hs => ⟨_, 0, k, ?_, ?_, rfl, hf.weak ⟨rfl, rfl, rfl, trivial⟩, hs⟩
    · first | assumption | omega | simp
    · simp [sumC]
  · rintro m_ ac w' ⟨i, kk, hi, hk, rfl, hf, hs⟩
    refine D.use ?_ hf hs
    clear hf hs ac w'
    have hcl := mapAt_len (f := fAc) (c := cAc) (k := k) hi
    have htk := sumC_take_le a cAc i
    refine C_seq ?_
    refine C_seq ?_
    refine C_reg ?_
    refine p1 rfl <| p1 rfl ?_
    refine q1 rfl (D_leno 0 s_46 rfl rfl rfl) ?_
    refine p1 rfl ?_
    refine D_end ?_
    refine x_then ?_
    refine D_H (ov [v_a] (mapAt fAc cAc k a i : (List Action)) :: Hs) rfl ?_
    refine C_if _ rfl (fun h2 => ?_) (fun h2 => ?_)
    · have pr2 : (((i : Nat) : Int) : Int) < (((mapAt fAc cAc k a i).length : Nat) : Int) := of_decide_eq_true h2
      refine C_skip ?_
      refine x_then ?_
      refine C_seq ?_
      refine C_block ?_
      refine C_seq ?_
      refine C_reg ?_
      refine p1 rfl <| p1 rfl <| p1 rfl ?_
      obtain ⟨x3, hx4⟩ := some_of_lt (l := (mapAt fAc cAc k a i)) (i := i) (by omega)
      refine D_take hx4 fun es5 => ?_
      refine D_pre (fun w' hs => shape_Action (rd_own (k := 0) hs rfl)) ?_
      rintro ⟨v6, rfl, ho7⟩
      refine q1 rfl (D_ixh 1 s_46 rfl rfl rfl rfl rfl) ?_
      have hstep := mk_step hi hx4 hk
      have hcc : cAc x3 = 2 + x3.Pattern.Args.length := rfl
      refine q1 rfl (D_fa f_88_0 rfl rfl) ?_
      refine D_unpair (α := Int) (β := Go.Sy.Pattern) (c1 := [(.int .i64 x3.Kind)]) (c2 := [(.string x3.Pattern.Rel), v6]) (x := x3.Kind) (y := (x3.Pattern)) rfl rfl ?_
      refine D_fd [] 1 rfl ?_
      refine li rfl (sh (n := 3) (f := 0) 1 rfl z_3 rfl rfl rfl rfl rfl rfl rfl (by simp) ?_)
      refine D_end ?_
      refine x_then ?_
      refine C_seq ?_
      refine C_reg ?_
      refine p1 rfl ?_
      refine q1 rfl (D_add rfl rfl rfl rfl (by omega)) ?_
      refine p1 rfl ?_
      refine D_end ?_
      refine x_then ?_
      refine C_seq ?_
      refine C_reg ?_
      refine p1 rfl <| p1 rfl <| p1 rfl ?_
      refine li rfl (cv b_23 rfl rfl rfl rfl (fun w' hs => (laws_markText w' (kk + 1) (by first | assumption | omega | (unfold szm at *; split at * <;> omega)))) ?_)
      refine q1 rfl (D_ixh 1 s_46 rfl rfl rfl rfl rfl) ?_
      refine q1 rfl (D_fa f_88_1 rfl rfl) ?_
      refine q1 rfl (D_fa' f_83_0 rfl rfl (q := 1) rfl) ?_
      refine li rfl (sh (n := 3) (f := 1) 1 rfl z_9 rfl rfl rfl rfl rfl rfl rfl (by simp) ?_)
      refine D_end ?_
      refine x_then ?_
      refine D_weak [(0, v_a), (1, (.int .i64 (kk + 1))), (5, (.int .i64 ((i : Nat) : Int)))] ⟨rfl, rfl, rfl, trivial⟩ ?_
      refine C_seq ?_
      refine C_reg ?_
      refine p1 rfl ?_
      refine q1 rfl (D_add rfl rfl rfl rfl (by omega)) ?_
      refine p1 rfl ?_
      refine D_end ?_
      refine x_then ?_
      refine C_reg ?_
      refine p1 rfl <| p1 rfl ?_
      refine q1 rfl (D_ixh 1 s_46 rfl rfl rfl rfl rfl) ?_
      refine q1 rfl (D_fa f_88_1 rfl rfl) ?_
      refine q1 rfl (D_fa' f_83_1 rfl rfl (q := 2) rfl) ?_
      refine q1 rfl (lh (n := 3) 1 rfl o_68 rfl rfl rfl rfl) ?_
      refine p1 rfl ?_
      refine D_unpair (α := ByteArray) (β := (List ByteArray)) (c1 := [(.string x3.Pattern.Rel)]) (c2 := [v6]) (x := x3.Pattern.Rel) (y := (x3.Pattern.Args)) rfl rfl ?_
      refine D_fd [] 1 rfl ?_
      refine li rfl (cm b_48 rfl rfl rfl rfl (fun w' hs => laws_markStringS _ _ w' v6 x3.Pattern.Args ((kk + 1) + 1) (by first | assumption | omega | (simp only; omega)) (by first | assumption | omega | (simp only; omega)) hs) ?_)
      refine p1 rfl ?_
      refine D_end ?_
      refine x_blk ?_
      refine x_then ?_
      refine C_reg ?_
      refine p1 rfl ?_
      refine q1 rfl (D_add rfl rfl rfl (r := ((i + 1 : Nat) : Int)) (by omega) (by omega)) ?_
      refine p1 rfl ?_
      refine D_end ?_
      refine x_then ?_
      refine pk_Action (r := (⟨kk, ⟨(markS (kk + 1)), mkSs ((kk + 1) + 1) x3.Pattern.Args⟩⟩ : Action)) ?_
      refine D_put ?_
      refine D_eq 0 rfl (show ((mapAt fAc cAc k a i).set i (⟨kk, ⟨(markS (kk + 1)), mkSs ((kk + 1) + 1) x3.Pattern.Args⟩⟩ : Action) : (List Action)) = mapAt fAc cAc k a (i + 1) from by exact mk_set hi hx4 hk rfl) ?_
      refine fun ac w' hf hs => ⟨_, ?_, i + 1, (((kk + 1) + 1) + x3.Pattern.Args.length), ?_, ?_, rfl, hf.weak ⟨rfl, rfl, rfl, trivial⟩, hs⟩
      · omega
      · first | assumption | omega | simp
      · omega
    · have pr2 : ¬ (((i : Nat) : Int) : Int) < (((mapAt fAc cAc k a i).length : Nat) : Int) := of_decide_eq_false h2
      refine C_exit ?_
      refine x_then_exit ?_
      refine x_then_exit ?_
      refine x_blk_eq ?_
      refine x_then ?_
      refine C_seq ?_
      refine C_reg ?_
      refine p1 rfl <| p1 rfl ?_
      refine D_end ?_
      refine x_then ?_
      refine C_ret ?_
      refine D_eq 0 rfl (show (mapAt fAc cAc k a i : (List Action)) = mapS fAc cAc k a from by exact mapAt_done (by omega)) ?_
      refine R_1 rfl rfl fun w' hs => ⟨congrArg (fun z => Ending.returned (Value.int .i64 z)) ?_, hs⟩
      show (kk : Int) = k + sumC cAc a
      rw [List.take_of_length_le (by omega)] at hk; exact hk

theorem laws_heldActionS (w : World) (v_a : Value) (a : (List Action)) (k : Int) (h_a : Gd.rd w [v_a] a) (h0 : 0 ≤ k) (h1 : k + sumC cAc a ≤ 4611686018427387904) (he : a = mapS fAc cAc k a) : Calls Tryz.prog 51 [v_a, (.int .i64 k)].toArray w (Val w (.int .i64 (k + sumC cAc a))) := by
  have hm1 := rd_max h_a
  refine enter 43 Tryz.func51 rfl rfl rfl ?_
  refine C_seq ?_
  refine C_reg ?_
  refine p1 rfl ?_
  refine D_end ?_
  refine x_then ?_
  refine C_seq ?_
  refine C_seq ?_
  refine C_reg ?_
  refine p1 rfl ?_
  refine D_end ?_
  refine x_then ?_
  refine C_block ?_
  refine C_loop (fun m_ ac w' => ∃ (i : Nat), ∃ (kk : Int), (i ≤ a.length) ∧ (kk = k + sumC cAc (a.take i)) ∧ m_ = a.length - i ∧ Fits ac 43 [(0, v_a), (1, (.int .i64 kk)), (5, (.int .i64 ((i : Nat) : Int)))] ∧ St w ([]) w') ?_ ?_
  · refine fun ac w' hf hs => ⟨_, 0, k, ?_, ?_, rfl, hf.weak ⟨rfl, rfl, rfl, trivial⟩, hs⟩
    · first | assumption | omega | simp
    · simp [sumC]
  · rintro m_ ac w' ⟨i, kk, hi, hk, rfl, hf, hs⟩
    refine D.use ?_ hf hs
    clear hf hs ac w'
    have htk := sumC_take_le a cAc i
    refine C_seq ?_
    refine C_seq ?_
    refine C_reg ?_
    refine p1 rfl <| p1 rfl ?_
    refine q1 rfl (D_len s_46 rfl rfl (rd_sl h_a)) ?_
    refine p1 rfl ?_
    refine D_end ?_
    refine x_then ?_
    refine C_if _ rfl (fun h2 => ?_) (fun h2 => ?_)
    · have pr2 : (((i : Nat) : Int) : Int) < ((a.length : Nat) : Int) := of_decide_eq_true h2
      refine C_skip ?_
      refine x_then ?_
      refine C_seq ?_
      refine C_block ?_
      refine C_seq ?_
      refine C_seq ?_
      refine C_reg ?_
      refine p1 rfl <| p1 rfl ?_
      obtain ⟨x3, hx4⟩ := some_of_lt (l := a) (i := i) (by omega)
      obtain ⟨es5, at6, hr7⟩ := rd_elem (n := 3) rfl h_a hx4
      obtain ⟨u9, rfl, hu10⟩ := open_Action hr7
      have hm11 := rd_max hu10
      have hb12 := sub_Action_Pattern hr7
      refine q1 rfl (D_ix (l := a) (j := i) s_46 rfl rfl rfl (fun w' hs => (rd_at hs h_a)) rfl (lt_of_some hx4)) ?_
      have hfx := mapS_fix he hx4
      rw [← hk] at hfx
      have hF0 : x3.Kind = kk := congrArg (fun y => y.Kind) hfx
      have hF1 : x3.Pattern.Rel = markS (kk + 1) := congrArg (fun y => y.Pattern.Rel) hfx
      have hF2 : x3.Pattern.Args = mkSs (kk + 1 + 1) x3.Pattern.Args := congrArg (fun y => y.Pattern.Args) hfx
      have hstep := mk_stepH (c := cAc) hx4 hk
      have hcc : cAc x3 = 2 + x3.Pattern.Args.length := rfl
      refine q1 rfl (D_fa f_88_0 rfl rfl) ?_
      refine q1 rfl (lr o_3 rfl rfl at6 rfl) ?_
      refine p1 rfl <| p1 rfl ?_
      refine D_end ?_
      refine x_then ?_
      refine C_if _ rfl (fun h13 => ?_) (fun h13 => ?_)
      · have pr13 : (x3.Kind : Int) ≠ kk := bne_iff_ne.1 h13
        refine C_seq ?_
        refine C_reg ?_
        refine p1 rfl ?_
        refine D_end ?_
        refine x_then ?_
        refine C_ret ?_
        refine x_then_ret ?_
        refine x_blk_ret ?_
        refine x_then_ret ?_
        refine x_then_ret ?_
        refine x_blk_ret ?_
        refine x_then_ret ?_
        refine R_1 rfl rfl fun w' hs => ⟨congrArg (fun z => Ending.returned (Value.int .i64 z)) ?_, hs.bel⟩
        show ((-1) : Int) = k + sumC cAc a
        first | (exfalso; contradiction) | (exfalso; omega) | (rw [List.take_of_length_le (by omega)] at hk; exact hk)
      · have pr13 : (x3.Kind : Int) = kk := eq_of_bne_f h13
        refine C_skip ?_
        refine x_then ?_
        refine C_seq ?_
        refine C_reg ?_
        refine p1 rfl ?_
        refine q1 rfl (D_add rfl rfl rfl rfl (by omega)) ?_
        refine p1 rfl ?_
        refine D_end ?_
        refine x_then ?_
        refine C_seq ?_
        refine C_seq ?_
        refine C_draw mixed [] (by kernel_rfl) ?_
        refine tk 0 rfl (by kernel_rfl) (by kernel_rfl) (by kernel_rfl) rfl (fun _ hs => hs) (rp rfl) ?_
        refine tk 1 rfl (by kernel_rfl) (by kernel_rfl) (by kernel_rfl) rfl (fun _ hs => hs) (rp rfl) ?_
        refine tk 2 rfl (by kernel_rfl) (by kernel_rfl) (by kernel_rfl) rfl (fun _ hs => hs) (D_ix (l := a) (j := i) s_46 rfl rfl rfl (fun w' hs => (rd_at hs h_a)) rfl (lt_of_some hx4)) ?_
        refine tk 3 rfl (by kernel_rfl) (by kernel_rfl) (by kernel_rfl) rfl (fun _ hs => hs) (D_fa f_88_1 rfl rfl) ?_
        refine tk 4 rfl (by kernel_rfl) (by kernel_rfl) (by kernel_rfl) rfl (fun _ hs => hs) (D_fa' f_83_0 rfl rfl (q := 1) rfl) ?_
        refine tk 5 rfl (by kernel_rfl) (by kernel_rfl) (by kernel_rfl) rfl (fun _ hs => hs) (lr o_9 rfl rfl at6 rfl) ?_
        refine tk 6 rfl (by kernel_rfl) (by kernel_rfl) (by kernel_rfl) rfl (fun _ hs => hs) (rp rfl) ?_
        refine ty 7 rfl (by kernel_rfl) rfl (cv b_23 rfl rfl rfl rfl (fun w' hs => (laws_markText w' (kk + 1) (by first | assumption | omega | (unfold szm at *; split at * <;> omega)))) ?_)
        refine tS (fun _ hs => hs) ?_
        refine tk 8 rfl (by kernel_rfl) (by kernel_rfl) (by kernel_rfl) rfl (fun _ hs => hs) (D_neS rfl rfl rfl) ?_
        refine tE (by kernel_rfl) ?_
        refine x_then ?_
        refine D_weak [(0, v_a), (1, (.int .i64 (kk + 1))), (5, (.int .i64 ((i : Nat) : Int))), (29, (.bool (!(decide ((x3.Pattern.Rel : ByteArray) = (markS (kk + 1)))))))] ⟨rfl, rfl, rfl, rfl, trivial⟩ ?_
        refine C_if _ rfl (fun h14 => ?_) (fun h14 => ?_)
        · have pr14 : ¬ (x3.Pattern.Rel : ByteArray) = (markS (kk + 1)) := of_decide_eq_false (not_t h14)
          refine C_seq ?_
          refine C_reg ?_
          refine p1 rfl ?_
          refine D_end ?_
          refine x_then ?_
          refine C_ret ?_
          refine x_then_ret ?_
          refine x_blk_ret ?_
          refine x_then_ret ?_
          refine x_then_ret ?_
          refine x_blk_ret ?_
          refine x_then_ret ?_
          refine R_1 rfl rfl fun w' hs => ⟨congrArg (fun z => Ending.returned (Value.int .i64 z)) ?_, hs.bel⟩
          show ((-1) : Int) = k + sumC cAc a
          first | (exfalso; contradiction) | (exfalso; omega) | (rw [List.take_of_length_le (by omega)] at hk; exact hk)
        · have pr14 : (x3.Pattern.Rel : ByteArray) = (markS (kk + 1)) := of_decide_eq_true (not_f h14)
          refine C_skip ?_
          refine x_then ?_
          refine C_seq ?_
          refine C_reg ?_
          refine p1 rfl ?_
          refine q1 rfl (D_add rfl rfl rfl rfl (by omega)) ?_
          refine p1 rfl ?_
          refine D_end ?_
          refine x_then ?_
          refine C_seq ?_
          refine C_reg ?_
          refine p1 rfl <| p1 rfl ?_
          refine q1 rfl (D_ix (l := a) (j := i) s_46 rfl rfl rfl (fun w' hs => (rd_at hs h_a)) rfl (lt_of_some hx4)) ?_
          refine q1 rfl (D_fa f_88_1 rfl rfl) ?_
          refine q1 rfl (D_fa' f_83_1 rfl rfl (q := 2) rfl) ?_
          refine q1 rfl (lr o_68 rfl rfl at6 rfl) ?_
          refine p1 rfl ?_
          refine li rfl (cv b_52 rfl rfl rfl rfl (fun w' hs => (laws_heldStringS w' u9 x3.Pattern.Args ((kk + 1) + 1) (rd_at hs hu10) (by first | assumption | omega | (unfold szm at *; split at * <;> omega)) (by first | assumption | omega | (unfold szm at *; split at * <;> omega)) (by first | assumption | omega | (unfold szm at *; split at * <;> omega)))) ?_)
          refine p1 rfl ?_
          refine D_end ?_
          refine x_then ?_
          refine C_seq ?_
          refine C_reg ?_
          refine p1 rfl <| p1 rfl ?_
          refine D_end ?_
          refine x_then ?_
          refine C_if _ rfl (fun h15 => ?_) (fun h15 => ?_)
          · have pr15 : ((((kk + 1) + 1) + x3.Pattern.Args.length) : Int) < 0 := of_decide_eq_true h15
            refine C_seq ?_
            refine C_reg ?_
            refine p1 rfl ?_
            refine D_end ?_
            refine x_then ?_
            refine D_weak [(4, (.int .i64 (-1)))] ⟨rfl, trivial⟩ ?_
            refine C_ret ?_
            refine x_blk_ret ?_
            refine x_then_ret ?_
            refine x_then_ret ?_
            refine x_blk_ret ?_
            refine x_then_ret ?_
            refine R_1 rfl rfl fun w' hs => ⟨congrArg (fun z => Ending.returned (Value.int .i64 z)) ?_, hs.bel⟩
            show ((-1) : Int) = k + sumC cAc a
            first | (exfalso; contradiction) | (exfalso; omega) | (rw [List.take_of_length_le (by omega)] at hk; exact hk)
          · have pr15 : ¬ ((((kk + 1) + 1) + x3.Pattern.Args.length) : Int) < 0 := of_decide_eq_false h15
            refine C_skip ?_
            refine x_blk ?_
            refine x_then ?_
            refine C_reg ?_
            refine p1 rfl ?_
            refine q1 rfl (D_add rfl rfl rfl (r := ((i + 1 : Nat) : Int)) (by omega) (by omega)) ?_
            refine p1 rfl ?_
            refine D_end ?_
            refine x_then ?_
            refine fun ac w' hf hs => ⟨_, ?_, i + 1, (((kk + 1) + 1) + x3.Pattern.Args.length), ?_, ?_, rfl, hf.weak ⟨rfl, rfl, rfl, trivial⟩, hs⟩
            · omega
            · first | assumption | omega | simp
            · omega
    · have pr2 : ¬ (((i : Nat) : Int) : Int) < ((a.length : Nat) : Int) := of_decide_eq_false h2
      refine C_exit ?_
      refine x_then_exit ?_
      refine x_then_exit ?_
      refine x_blk_eq ?_
      refine x_then ?_
      refine C_seq ?_
      refine C_reg ?_
      refine p1 rfl <| p1 rfl ?_
      refine D_end ?_
      refine x_then ?_
      refine C_ret ?_
      refine R_1 rfl rfl fun w' hs => ⟨congrArg (fun z => Ending.returned (Value.int .i64 z)) ?_, hs.bel⟩
      show (kk : Int) = k + sumC cAc a
      first | (exfalso; contradiction) | (exfalso; omega) | (rw [List.take_of_length_le (by omega)] at hk; exact hk)

theorem laws_markRuleS (w0 : World) (Hs : List Chunk) (w : World) (v_a : Value) (a : (List Rule)) (k : Int) (h0 : 0 ≤ k) (h1 : k + sumC cRu a ≤ 4611686018427387904) (hst : St w0 (ov [v_a] (a : (List Rule)) :: Hs) w) : Calls Tryz.prog 10 [v_a, (.int .i64 k)].toArray w (fun e w' => e = .returned (.int .i64 (k + sumC cRu a)) ∧ St w0 (ov [v_a] (mapS fRu cRu k a : (List Rule)) :: Hs) w') := by
  have hm1 := rd_max (rd_own (k := 0) hst rfl)
  refine enterS 42 Tryz.func10 rfl rfl rfl hst ?_
  refine C_seq ?_
  refine C_reg ?_
  refine p1 rfl ?_
  refine D_end ?_
  refine x_then ?_
  refine D_H (ov [v_a] (a : (List Rule)) :: Hs) rfl ?_
  refine C_seq ?_
  refine C_seq ?_
  refine C_reg ?_
  refine p1 rfl ?_
  refine D_end ?_
  refine x_then ?_
  refine C_block ?_
  refine C_loop (fun m_ ac w' => ∃ (i : Nat), ∃ (kk : Int), (i ≤ a.length) ∧ (kk = k + sumC cRu (a.take i)) ∧ m_ = a.length - i ∧ Fits ac 42 [(0, v_a), (1, (.int .i64 kk)), (5, (.int .i64 ((i : Nat) : Int)))] ∧ St w0 (ov [v_a] (mapAt fRu cRu k a i : (List Rule)) :: Hs) w') ?_ ?_
  · refine D_eq 0 rfl (show (a : (List Rule)) = mapAt fRu cRu k a 0 from by rw [mapAt_zero]) ?_
    refine fun ac w' hf hs => ⟨_, 0, k, ?_, ?_, rfl, hf.weak ⟨rfl, rfl, rfl, trivial⟩, hs⟩
    · first | assumption | omega | simp
    · simp [sumC]
  · rintro m_ ac w' ⟨i, kk, hi, hk, rfl, hf, hs⟩
    refine D.use ?_ hf hs
    clear hf hs ac w'
    have hcl := mapAt_len (f := fRu) (c := cRu) (k := k) hi
    have htk := sumC_take_le a cRu i
    refine C_seq ?_
    refine C_seq ?_
    refine C_reg ?_
    refine p1 rfl <| p1 rfl ?_
    refine q1 rfl (D_leno 0 s_24 rfl rfl rfl) ?_
    refine p1 rfl ?_
    refine D_end ?_
    refine x_then ?_
    refine D_H (ov [v_a] (mapAt fRu cRu k a i : (List Rule)) :: Hs) rfl ?_
    refine C_if _ rfl (fun h2 => ?_) (fun h2 => ?_)
    · have pr2 : (((i : Nat) : Int) : Int) < (((mapAt fRu cRu k a i).length : Nat) : Int) := of_decide_eq_true h2
      refine C_skip ?_
      refine x_then ?_
      refine C_seq ?_
      refine C_block ?_
      refine C_seq ?_
      refine C_reg ?_
      refine p1 rfl <| p1 rfl <| p1 rfl ?_
      refine li rfl (cv b_23 rfl rfl rfl rfl (fun w' hs => (laws_markText w' kk (by first | assumption | omega | (unfold szm at *; split at * <;> omega)))) ?_)
      obtain ⟨x3, hx4⟩ := some_of_lt (l := (mapAt fRu cRu k a i)) (i := i) (by omega)
      refine D_take hx4 fun es5 => ?_
      refine D_pre (fun w' hs => shape_Rule (rd_own (k := 0) hs rfl)) ?_
      rintro ⟨v6, v7, rfl, ho8, ho9⟩
      refine q1 rfl (D_ixh 1 s_24 rfl rfl rfl rfl rfl) ?_
      have hstep := mk_step hi hx4 hk
      have hcc : cRu x3 = 2 + sumC cCo x3.If + sumC cAc x3.Then := rfl
      refine q1 rfl (D_fa f_48_0 rfl rfl) ?_
      refine D_unpair (α := ByteArray) (β := Int × (List Cond) × (List Action)) (c1 := [(.string x3.Name)]) (c2 := [(.int .i64 x3.Priority), v6, v7]) (x := x3.Name) (y := (x3.Priority, x3.If, x3.Then)) rfl rfl ?_
      refine D_fd [] 1 rfl ?_
      refine D_unpair (α := Int) (β := (List Cond) × (List Action)) (c1 := [(.int .i64 x3.Priority)]) (c2 := [v6, v7]) (x := x3.Priority) (y := (x3.If, x3.Then)) rfl rfl ?_
      refine D_fd [] 1 rfl ?_
      refine D_unpair (α := (List Cond)) (β := (List Action)) (c1 := [v6]) (c2 := [v7]) (x := x3.If) (y := (x3.Then)) rfl rfl ?_
      refine D_fd [1] 0 rfl ?_
      refine li rfl (sh (n := 4) (f := 0) 2 rfl z_9 rfl rfl rfl rfl rfl rfl rfl (by simp) ?_)
      refine D_end ?_
      refine x_then ?_
      refine C_seq ?_
      refine C_reg ?_
      refine p1 rfl ?_
      refine q1 rfl (D_add rfl rfl rfl rfl (by omega)) ?_
      refine p1 rfl ?_
      refine D_end ?_
      refine x_then ?_
      refine C_seq ?_
      refine C_reg ?_
      refine p1 rfl <| p1 rfl <| p1 rfl ?_
      refine q1 rfl (D_ixh 2 s_24 rfl rfl rfl rfl rfl) ?_
      refine q1 rfl (D_fa f_48_1 rfl rfl) ?_
      refine li rfl (sh (n := 4) (f := 1) 2 rfl z_3 rfl rfl rfl rfl rfl rfl rfl (by simp) ?_)
      refine D_end ?_
      refine x_then ?_
      refine D_weak [(0, v_a), (1, (.int .i64 (kk + 1))), (5, (.int .i64 ((i : Nat) : Int)))] ⟨rfl, rfl, rfl, trivial⟩ ?_
      refine C_seq ?_
      refine C_reg ?_
      refine p1 rfl ?_
      refine q1 rfl (D_add rfl rfl rfl rfl (by omega)) ?_
      refine p1 rfl ?_
      refine D_end ?_
      refine x_then ?_
      refine C_seq ?_
      refine C_reg ?_
      refine p1 rfl <| p1 rfl ?_
      refine q1 rfl (D_ixh 2 s_24 rfl rfl rfl rfl rfl) ?_
      refine q1 rfl (D_fa f_48_2 rfl rfl) ?_
      refine q1 rfl (lh (n := 4) 2 rfl o_45 rfl rfl rfl rfl) ?_
      refine p1 rfl ?_
      refine D_fd [1] 0 rfl ?_
      refine li rfl (cm b_24 rfl rfl rfl rfl (fun w' hs => laws_markCondS _ _ w' v6 x3.If ((kk + 1) + 1) (by first | assumption | omega | (simp only; omega)) (by first | assumption | omega | (simp only; omega)) hs) ?_)
      refine p1 rfl ?_
      refine D_end ?_
      refine x_then ?_
      refine C_reg ?_
      refine p1 rfl <| p1 rfl ?_
      refine q1 rfl (D_ixh 2 s_24 rfl rfl rfl rfl rfl) ?_
      refine q1 rfl (D_fa f_48_3 rfl rfl) ?_
      refine q1 rfl (lh (n := 4) 2 rfl o_46 rfl rfl rfl rfl) ?_
      refine p1 rfl ?_
      refine D_fd [1] 0 rfl ?_
      refine li rfl (cm b_25 rfl rfl rfl rfl (fun w' hs => laws_markActionS _ _ w' v7 x3.Then (((kk + 1) + 1) + sumC cCo x3.If) (by first | assumption | omega | (simp only; omega)) (by first | assumption | omega | (simp only; omega)) hs) ?_)
      refine p1 rfl ?_
      refine D_end ?_
      refine x_blk ?_
      refine x_then ?_
      refine D_weak [(0, v_a), (1, (.int .i64 ((((kk + 1) + 1) + sumC cCo x3.If) + sumC cAc x3.Then))), (5, (.int .i64 ((i : Nat) : Int)))] ⟨rfl, rfl, rfl, trivial⟩ ?_
      refine C_reg ?_
      refine p1 rfl ?_
      refine q1 rfl (D_add rfl rfl rfl (r := ((i + 1 : Nat) : Int)) (by omega) (by omega)) ?_
      refine p1 rfl ?_
      refine D_end ?_
      refine x_then ?_
      refine D_fd [0, 1] 0 rfl ?_
      refine pk_Rule (r := (⟨(markS kk), (kk + 1), mapS fCo cCo ((kk + 1) + 1) x3.If, mapS fAc cAc (((kk + 1) + 1) + sumC cCo x3.If) x3.Then⟩ : Rule)) ?_
      refine D_put ?_
      refine D_eq 0 rfl (show ((mapAt fRu cRu k a i).set i (⟨(markS kk), (kk + 1), mapS fCo cCo ((kk + 1) + 1) x3.If, mapS fAc cAc (((kk + 1) + 1) + sumC cCo x3.If) x3.Then⟩ : Rule) : (List Rule)) = mapAt fRu cRu k a (i + 1) from by exact mk_set hi hx4 hk rfl) ?_
      refine fun ac w' hf hs => ⟨_, ?_, i + 1, ((((kk + 1) + 1) + sumC cCo x3.If) + sumC cAc x3.Then), ?_, ?_, rfl, hf.weak ⟨rfl, rfl, rfl, trivial⟩, hs⟩
      · omega
      · first | assumption | omega | simp
      · omega
    · have pr2 : ¬ (((i : Nat) : Int) : Int) < (((mapAt fRu cRu k a i).length : Nat) : Int) := of_decide_eq_false h2
      refine C_exit ?_
      refine x_then_exit ?_
      refine x_then_exit ?_
      refine x_blk_eq ?_
      refine x_then ?_
      refine C_seq ?_
      refine C_reg ?_
      refine p1 rfl <| p1 rfl ?_
      refine D_end ?_
      refine x_then ?_
      refine C_ret ?_
      refine D_eq 0 rfl (show (mapAt fRu cRu k a i : (List Rule)) = mapS fRu cRu k a from by exact mapAt_done (by omega)) ?_
      refine R_1 rfl rfl fun w' hs => ⟨congrArg (fun z => Ending.returned (Value.int .i64 z)) ?_, hs⟩
      show (kk : Int) = k + sumC cRu a
      rw [List.take_of_length_le (by omega)] at hk; exact hk

theorem laws_heldRuleS (w : World) (v_a : Value) (a : (List Rule)) (k : Int) (h_a : Gd.rd w [v_a] a) (h0 : 0 ≤ k) (h1 : k + sumC cRu a ≤ 4611686018427387904) (he : a = mapS fRu cRu k a) : Calls Tryz.prog 29 [v_a, (.int .i64 k)].toArray w (Val w (.int .i64 (k + sumC cRu a))) := by
  have hm1 := rd_max h_a
  refine enter 50 Tryz.func29 rfl rfl rfl ?_
  refine C_seq ?_
  refine C_reg ?_
  refine p1 rfl ?_
  refine D_end ?_
  refine x_then ?_
  refine C_seq ?_
  refine C_seq ?_
  refine C_reg ?_
  refine p1 rfl ?_
  refine D_end ?_
  refine x_then ?_
  refine C_block ?_
  refine C_loop (fun m_ ac w' => ∃ (i : Nat), ∃ (kk : Int), (i ≤ a.length) ∧ (kk = k + sumC cRu (a.take i)) ∧ m_ = a.length - i ∧ Fits ac 50 [(0, v_a), (1, (.int .i64 kk)), (5, (.int .i64 ((i : Nat) : Int)))] ∧ St w ([]) w') ?_ ?_
  · refine fun ac w' hf hs => ⟨_, 0, k, ?_, ?_, rfl, hf.weak ⟨rfl, rfl, rfl, trivial⟩, hs⟩
    · first | assumption | omega | simp
    · simp [sumC]
  · rintro m_ ac w' ⟨i, kk, hi, hk, rfl, hf, hs⟩
    refine D.use ?_ hf hs
    clear hf hs ac w'
    have htk := sumC_take_le a cRu i
    refine C_seq ?_
    refine C_seq ?_
    refine C_reg ?_
    refine p1 rfl <| p1 rfl ?_
    refine q1 rfl (D_len s_24 rfl rfl (rd_sl h_a)) ?_
    refine p1 rfl ?_
    refine D_end ?_
    refine x_then ?_
    refine C_if _ rfl (fun h2 => ?_) (fun h2 => ?_)
    · have pr2 : (((i : Nat) : Int) : Int) < ((a.length : Nat) : Int) := of_decide_eq_true h2
      refine C_skip ?_
      refine x_then ?_
      refine C_seq ?_
      refine C_block ?_
      refine C_seq ?_
      refine C_seq ?_
      refine C_draw mixed [] (by kernel_rfl) ?_
      refine tk 0 rfl (by kernel_rfl) (by kernel_rfl) (by kernel_rfl) rfl (fun _ hs => hs) (rp rfl) ?_
      refine tk 1 rfl (by kernel_rfl) (by kernel_rfl) (by kernel_rfl) rfl (fun _ hs => hs) (rp rfl) ?_
      obtain ⟨x3, hx4⟩ := some_of_lt (l := a) (i := i) (by omega)
      obtain ⟨es5, at6, hr7⟩ := rd_elem (n := 4) rfl h_a hx4
      obtain ⟨u9, u11, rfl, hu10, hu12⟩ := open_Rule hr7
      have hm13 := rd_max hu10
      have hm14 := rd_max hu12
      refine tk 2 rfl (by kernel_rfl) (by kernel_rfl) (by kernel_rfl) rfl (fun _ hs => hs) (D_ix (l := a) (j := i) s_24 rfl rfl rfl (fun w' hs => (rd_at hs h_a)) rfl (lt_of_some hx4)) ?_
      have hfx := mapS_fix he hx4
      rw [← hk] at hfx
      have hF0 : x3.Name = markS kk := congrArg (fun y => y.Name) hfx
      have hF1 : x3.Priority = kk + 1 := congrArg (fun y => y.Priority) hfx
      have hF2 : x3.If = mkCs (kk + 1 + 1) x3.If := congrArg (fun y => y.If) hfx
      have hF3 : x3.Then = mkAs (kk + 1 + 1 + sumC cCo x3.If) x3.Then := congrArg (fun y => y.Then) hfx
      have hstep := mk_stepH (c := cRu) hx4 hk
      have hcc : cRu x3 = 2 + sumC cCo x3.If + sumC cAc x3.Then := rfl
      refine tk 3 rfl (by kernel_rfl) (by kernel_rfl) (by kernel_rfl) rfl (fun _ hs => hs) (D_fa f_48_0 rfl rfl) ?_
      refine tk 4 rfl (by kernel_rfl) (by kernel_rfl) (by kernel_rfl) rfl (fun _ hs => hs) (lr o_9 rfl rfl at6 rfl) ?_
      refine tk 5 rfl (by kernel_rfl) (by kernel_rfl) (by kernel_rfl) rfl (fun _ hs => hs) (rp rfl) ?_
      refine ty 6 rfl (by kernel_rfl) rfl (cv b_23 rfl rfl rfl rfl (fun w' hs => (laws_markText w' kk (by first | assumption | omega | (unfold szm at *; split at * <;> omega)))) ?_)
      refine tS (fun _ hs => hs) ?_
      refine tk 7 rfl (by kernel_rfl) (by kernel_rfl) (by kernel_rfl) rfl (fun _ hs => hs) (D_neS rfl rfl rfl) ?_
      refine tE (by kernel_rfl) ?_
      refine x_then ?_
      refine C_if _ rfl (fun h15 => ?_) (fun h15 => ?_)
      · have pr15 : ¬ (x3.Name : ByteArray) = (markS kk) := of_decide_eq_false (not_t h15)
        refine C_seq ?_
        refine C_reg ?_
        refine p1 rfl ?_
        refine D_end ?_
        refine x_then ?_
        refine D_weak [(4, (.int .i64 (-1)))] ⟨rfl, trivial⟩ ?_
        refine C_ret ?_
        refine x_then_ret ?_
        refine x_blk_ret ?_
        refine x_then_ret ?_
        refine x_then_ret ?_
        refine x_blk_ret ?_
        refine x_then_ret ?_
        refine R_1 rfl rfl fun w' hs => ⟨congrArg (fun z => Ending.returned (Value.int .i64 z)) ?_, hs.bel⟩
        show ((-1) : Int) = k + sumC cRu a
        first | (exfalso; contradiction) | (exfalso; omega) | (rw [List.take_of_length_le (by omega)] at hk; exact hk)
      · have pr15 : (x3.Name : ByteArray) = (markS kk) := of_decide_eq_true (not_f h15)
        refine C_skip ?_
        refine x_then ?_
        refine C_seq ?_
        refine C_reg ?_
        refine p1 rfl ?_
        refine q1 rfl (D_add rfl rfl rfl rfl (by omega)) ?_
        refine p1 rfl ?_
        refine D_end ?_
        refine x_then ?_
        refine C_seq ?_
        refine C_seq ?_
        refine C_reg ?_
        refine p1 rfl <| p1 rfl ?_
        refine q1 rfl (D_ix (l := a) (j := i) s_24 rfl rfl rfl (fun w' hs => (rd_at hs h_a)) rfl (lt_of_some hx4)) ?_
        refine q1 rfl (D_fa f_48_1 rfl rfl) ?_
        refine q1 rfl (lr o_3 rfl rfl at6 rfl) ?_
        refine p1 rfl <| p1 rfl ?_
        refine D_end ?_
        refine x_then ?_
        refine D_weak [(0, v_a), (1, (.int .i64 (kk + 1))), (5, (.int .i64 ((i : Nat) : Int))), (28, (.bool ((x3.Priority : Int) != (kk + 1))))] ⟨rfl, rfl, rfl, rfl, trivial⟩ ?_
        refine C_if _ rfl (fun h16 => ?_) (fun h16 => ?_)
        · have pr16 : (x3.Priority : Int) ≠ (kk + 1) := bne_iff_ne.1 h16
          refine C_seq ?_
          refine C_reg ?_
          refine p1 rfl ?_
          refine D_end ?_
          refine x_then ?_
          refine C_ret ?_
          refine x_then_ret ?_
          refine x_blk_ret ?_
          refine x_then_ret ?_
          refine x_then_ret ?_
          refine x_blk_ret ?_
          refine x_then_ret ?_
          refine R_1 rfl rfl fun w' hs => ⟨congrArg (fun z => Ending.returned (Value.int .i64 z)) ?_, hs.bel⟩
          show ((-1) : Int) = k + sumC cRu a
          first | (exfalso; contradiction) | (exfalso; omega) | (rw [List.take_of_length_le (by omega)] at hk; exact hk)
        · have pr16 : (x3.Priority : Int) = (kk + 1) := eq_of_bne_f h16
          refine C_skip ?_
          refine x_then ?_
          refine C_seq ?_
          refine C_reg ?_
          refine p1 rfl ?_
          refine q1 rfl (D_add rfl rfl rfl rfl (by omega)) ?_
          refine p1 rfl ?_
          refine D_end ?_
          refine x_then ?_
          refine C_seq ?_
          refine C_reg ?_
          refine p1 rfl <| p1 rfl ?_
          refine q1 rfl (D_ix (l := a) (j := i) s_24 rfl rfl rfl (fun w' hs => (rd_at hs h_a)) rfl (lt_of_some hx4)) ?_
          refine q1 rfl (D_fa f_48_2 rfl rfl) ?_
          refine q1 rfl (lr o_45 rfl rfl at6 rfl) ?_
          refine p1 rfl ?_
          refine li rfl (cv b_50 rfl rfl rfl rfl (fun w' hs => (laws_heldCondS w' u9 x3.If ((kk + 1) + 1) (rd_at hs hu10) (by first | assumption | omega | (unfold szm at *; split at * <;> omega)) (by first | assumption | omega | (unfold szm at *; split at * <;> omega)) (by first | assumption | omega | (unfold szm at *; split at * <;> omega)))) ?_)
          refine p1 rfl ?_
          refine D_end ?_
          refine x_then ?_
          refine C_seq ?_
          refine C_seq ?_
          refine C_reg ?_
          refine p1 rfl <| p1 rfl ?_
          refine D_end ?_
          refine x_then ?_
          refine C_if _ rfl (fun h17 => ?_) (fun h17 => ?_)
          · have pr17 : ((((kk + 1) + 1) + sumC cCo x3.If) : Int) < 0 := of_decide_eq_true h17
            refine C_seq ?_
            refine C_reg ?_
            refine p1 rfl ?_
            refine D_end ?_
            refine x_then ?_
            refine D_weak [(4, (.int .i64 (-1)))] ⟨rfl, trivial⟩ ?_
            refine C_ret ?_
            refine x_then_ret ?_
            refine x_blk_ret ?_
            refine x_then_ret ?_
            refine x_then_ret ?_
            refine x_blk_ret ?_
            refine x_then_ret ?_
            refine R_1 rfl rfl fun w' hs => ⟨congrArg (fun z => Ending.returned (Value.int .i64 z)) ?_, hs.bel⟩
            show ((-1) : Int) = k + sumC cRu a
            first | (exfalso; contradiction) | (exfalso; omega) | (rw [List.take_of_length_le (by omega)] at hk; exact hk)
          · have pr17 : ¬ ((((kk + 1) + 1) + sumC cCo x3.If) : Int) < 0 := of_decide_eq_false h17
            refine C_skip ?_
            refine x_then ?_
            refine C_seq ?_
            refine C_reg ?_
            refine p1 rfl <| p1 rfl ?_
            refine q1 rfl (D_ix (l := a) (j := i) s_24 rfl rfl rfl (fun w' hs => (rd_at hs h_a)) rfl (lt_of_some hx4)) ?_
            refine q1 rfl (D_fa f_48_3 rfl rfl) ?_
            refine q1 rfl (lr o_46 rfl rfl at6 rfl) ?_
            refine p1 rfl ?_
            refine li rfl (cv b_51 rfl rfl rfl rfl (fun w' hs => (laws_heldActionS w' u11 x3.Then (((kk + 1) + 1) + sumC cCo x3.If) (rd_at hs hu12) (by first | assumption | omega | (unfold szm at *; split at * <;> omega)) (by first | assumption | omega | (unfold szm at *; split at * <;> omega)) (by first | assumption | omega | (unfold szm at *; split at * <;> omega)))) ?_)
            refine p1 rfl ?_
            refine D_end ?_
            refine x_then ?_
            refine D_weak [(0, v_a), (1, (.int .i64 ((((kk + 1) + 1) + sumC cCo x3.If) + sumC cAc x3.Then))), (5, (.int .i64 ((i : Nat) : Int)))] ⟨rfl, rfl, rfl, trivial⟩ ?_
            refine C_seq ?_
            refine C_reg ?_
            refine p1 rfl <| p1 rfl ?_
            refine D_end ?_
            refine x_then ?_
            refine C_if _ rfl (fun h18 => ?_) (fun h18 => ?_)
            · have pr18 : (((((kk + 1) + 1) + sumC cCo x3.If) + sumC cAc x3.Then) : Int) < 0 := of_decide_eq_true h18
              refine C_seq ?_
              refine C_reg ?_
              refine p1 rfl ?_
              refine D_end ?_
              refine x_then ?_
              refine C_ret ?_
              refine x_blk_ret ?_
              refine x_then_ret ?_
              refine x_then_ret ?_
              refine x_blk_ret ?_
              refine x_then_ret ?_
              refine R_1 rfl rfl fun w' hs => ⟨congrArg (fun z => Ending.returned (Value.int .i64 z)) ?_, hs.bel⟩
              show ((-1) : Int) = k + sumC cRu a
              first | (exfalso; contradiction) | (exfalso; omega) | (rw [List.take_of_length_le (by omega)] at hk; exact hk)
            · have pr18 : ¬ (((((kk + 1) + 1) + sumC cCo x3.If) + sumC cAc x3.Then) : Int) < 0 := of_decide_eq_false h18
              refine C_skip ?_
              refine x_blk ?_
              refine x_then ?_
              refine C_reg ?_
              refine p1 rfl ?_
              refine q1 rfl (D_add rfl rfl rfl (r := ((i + 1 : Nat) : Int)) (by omega) (by omega)) ?_
              refine p1 rfl ?_
              refine D_end ?_
              refine x_then ?_
              refine fun ac w' hf hs => ⟨_, ?_, i + 1, ((((kk + 1) + 1) + sumC cCo x3.If) + sumC cAc x3.Then), ?_, ?_, rfl, hf.weak ⟨rfl, rfl, rfl, trivial⟩, hs⟩
              · omega
              · first | assumption | omega | simp
              · omega
    · have pr2 : ¬ (((i : Nat) : Int) : Int) < ((a.length : Nat) : Int) := of_decide_eq_false h2
      refine C_exit ?_
      refine x_then_exit ?_
      refine x_then_exit ?_
      refine x_blk_eq ?_
      refine x_then ?_
      refine C_seq ?_
      refine C_reg ?_
      refine p1 rfl <| p1 rfl ?_
      refine D_end ?_
      refine x_then ?_
      refine C_ret ?_
      refine R_1 rfl rfl fun w' hs => ⟨congrArg (fun z => Ending.returned (Value.int .i64 z)) ?_, hs.bel⟩
      show (kk : Int) = k + sumC cRu a
      first | (exfalso; contradiction) | (exfalso; omega) | (rw [List.take_of_length_le (by omega)] at hk; exact hk)

theorem laws_markStampS (w0 : World) (Hs : List Chunk) (w : World) (v_a : Value) (a : (List Stamp)) (k : Int) (h0 : 0 ≤ k) (h1 : k + sumC cSt a ≤ 4611686018427387904) (hst : St w0 (ov [v_a] (a : (List Stamp)) :: Hs) w) : Calls Tryz.prog 26 [v_a, (.int .i64 k)].toArray w (fun e w' => e = .returned (.int .i64 (k + sumC cSt a)) ∧ St w0 (ov [v_a] (mapS fSt cSt k a : (List Stamp)) :: Hs) w') := by
  have hm1 := rd_max (rd_own (k := 0) hst rfl)
  refine enterS 37 Tryz.func26 rfl rfl rfl hst ?_
  refine C_seq ?_
  refine C_reg ?_
  refine p1 rfl ?_
  refine D_end ?_
  refine x_then ?_
  refine D_H (ov [v_a] (a : (List Stamp)) :: Hs) rfl ?_
  refine C_seq ?_
  refine C_seq ?_
  refine C_reg ?_
  refine p1 rfl ?_
  refine D_end ?_
  refine x_then ?_
  refine C_block ?_
  refine C_loop (fun m_ ac w' => ∃ (i : Nat), ∃ (kk : Int), (i ≤ a.length) ∧ (kk = k + sumC cSt (a.take i)) ∧ m_ = a.length - i ∧ Fits ac 37 [(0, v_a), (1, (.int .i64 kk)), (5, (.int .i64 ((i : Nat) : Int)))] ∧ St w0 (ov [v_a] (mapAt fSt cSt k a i : (List Stamp)) :: Hs) w') ?_ ?_
  · refine D_eq 0 rfl (show (a : (List Stamp)) = mapAt fSt cSt k a 0 from by rw [mapAt_zero]) ?_
    refine fun ac w' hf hs => ⟨_, 0, k, ?_, ?_, rfl, hf.weak ⟨rfl, rfl, rfl, trivial⟩, hs⟩
    · first | assumption | omega | simp
    · simp [sumC]
  · rintro m_ ac w' ⟨i, kk, hi, hk, rfl, hf, hs⟩
    refine D.use ?_ hf hs
    clear hf hs ac w'
    have hcl := mapAt_len (f := fSt) (c := cSt) (k := k) hi
    have htk := sumC_take_le a cSt i
    refine C_seq ?_
    refine C_seq ?_
    refine C_reg ?_
    refine p1 rfl <| p1 rfl ?_
    refine q1 rfl (D_leno 0 s_25 rfl rfl rfl) ?_
    refine p1 rfl ?_
    refine D_end ?_
    refine x_then ?_
    refine D_H (ov [v_a] (mapAt fSt cSt k a i : (List Stamp)) :: Hs) rfl ?_
    refine C_if _ rfl (fun h2 => ?_) (fun h2 => ?_)
    · have pr2 : (((i : Nat) : Int) : Int) < (((mapAt fSt cSt k a i).length : Nat) : Int) := of_decide_eq_true h2
      refine C_skip ?_
      refine x_then ?_
      refine C_seq ?_
      refine C_block ?_
      refine C_seq ?_
      refine C_reg ?_
      refine p1 rfl <| p1 rfl <| p1 rfl ?_
      refine li rfl (cv b_23 rfl rfl rfl rfl (fun w' hs => (laws_markText w' kk (by first | assumption | omega | (unfold szm at *; split at * <;> omega)))) ?_)
      obtain ⟨x3, hx4⟩ := some_of_lt (l := (mapAt fSt cSt k a i)) (i := i) (by omega)
      refine D_take hx4 fun es5 => ?_
      refine D_pre (fun w' hs => shape_Stamp (rd_own (k := 0) hs rfl)) ?_
      rintro ⟨v6, rfl, ho7⟩
      refine q1 rfl (D_ixh 1 s_25 rfl rfl rfl rfl rfl) ?_
      have hstep := mk_step hi hx4 hk
      have hcc : cSt x3 = 2 + x3.Fact.Args.length := rfl
      refine q1 rfl (D_fa f_72_0 rfl rfl) ?_
      refine q1 rfl (D_fa' f_70_0 rfl rfl (q := 0) rfl) ?_
      refine D_unpair (α := Go.Sy.Fact) (β := Int) (c1 := [(.string x3.Fact.Rel), v6]) (c2 := [(.int .i64 x3.Time)]) (x := x3.Fact) (y := (x3.Time)) rfl rfl ?_
      refine D_fd [1] 0 rfl ?_
      refine D_fd [] 1 rfl ?_
      refine li rfl (sh (n := 3) (f := 0) 1 rfl z_9 rfl rfl rfl rfl rfl rfl rfl (by simp) ?_)
      refine D_end ?_
      refine x_then ?_
      refine C_seq ?_
      refine C_reg ?_
      refine p1 rfl ?_
      refine q1 rfl (D_add rfl rfl rfl rfl (by omega)) ?_
      refine p1 rfl ?_
      refine D_end ?_
      refine x_then ?_
      refine C_seq ?_
      refine C_reg ?_
      refine p1 rfl <| p1 rfl ?_
      refine q1 rfl (D_ixh 1 s_25 rfl rfl rfl rfl rfl) ?_
      refine q1 rfl (D_fa f_72_0 rfl rfl) ?_
      refine q1 rfl (D_fa' f_70_1 rfl rfl (q := 1) rfl) ?_
      refine q1 rfl (lh (n := 3) 1 rfl o_68 rfl rfl rfl rfl) ?_
      refine p1 rfl ?_
      refine D_unpair (α := ByteArray) (β := (List ByteArray)) (c1 := [(.string x3.Fact.Rel)]) (c2 := [v6]) (x := x3.Fact.Rel) (y := (x3.Fact.Args)) rfl rfl ?_
      refine D_fd [] 1 rfl ?_
      refine li rfl (cm b_48 rfl rfl rfl rfl (fun w' hs => laws_markStringS _ _ w' v6 x3.Fact.Args (kk + 1) (by first | assumption | omega | (simp only; omega)) (by first | assumption | omega | (simp only; omega)) hs) ?_)
      refine p1 rfl ?_
      refine D_end ?_
      refine x_then ?_
      refine D_weak [(0, v_a), (1, (.int .i64 ((kk + 1) + x3.Fact.Args.length))), (5, (.int .i64 ((i : Nat) : Int)))] ⟨rfl, rfl, rfl, trivial⟩ ?_
      refine C_seq ?_
      refine C_reg ?_
      refine p1 rfl <| p1 rfl <| p1 rfl ?_
      refine q1 rfl (D_ixh 1 s_25 rfl rfl rfl rfl rfl) ?_
      refine q1 rfl (D_fa f_72_1 rfl rfl) ?_
      refine li rfl (sh (n := 3) (f := 2) 1 rfl z_3 rfl rfl rfl rfl rfl rfl rfl (by simp) ?_)
      refine D_end ?_
      refine x_then ?_
      refine C_reg ?_
      refine p1 rfl ?_
      refine q1 rfl (D_add rfl rfl rfl rfl (by omega)) ?_
      refine p1 rfl ?_
      refine D_end ?_
      refine x_blk ?_
      refine x_then ?_
      refine C_reg ?_
      refine p1 rfl ?_
      refine q1 rfl (D_add rfl rfl rfl (r := ((i + 1 : Nat) : Int)) (by omega) (by omega)) ?_
      refine p1 rfl ?_
      refine D_end ?_
      refine x_then ?_
      refine pk_Stamp (r := (⟨⟨(markS kk), mkSs (kk + 1) x3.Fact.Args⟩, ((kk + 1) + x3.Fact.Args.length)⟩ : Stamp)) ?_
      refine D_put ?_
      refine D_eq 0 rfl (show ((mapAt fSt cSt k a i).set i (⟨⟨(markS kk), mkSs (kk + 1) x3.Fact.Args⟩, ((kk + 1) + x3.Fact.Args.length)⟩ : Stamp) : (List Stamp)) = mapAt fSt cSt k a (i + 1) from by exact mk_set hi hx4 hk rfl) ?_
      refine fun ac w' hf hs => ⟨_, ?_, i + 1, (((kk + 1) + x3.Fact.Args.length) + 1), ?_, ?_, rfl, hf.weak ⟨rfl, rfl, rfl, trivial⟩, hs⟩
      · omega
      · first | assumption | omega | simp
      · omega
    · have pr2 : ¬ (((i : Nat) : Int) : Int) < (((mapAt fSt cSt k a i).length : Nat) : Int) := of_decide_eq_false h2
      refine C_exit ?_
      refine x_then_exit ?_
      refine x_then_exit ?_
      refine x_blk_eq ?_
      refine x_then ?_
      refine C_seq ?_
      refine C_reg ?_
      refine p1 rfl <| p1 rfl ?_
      refine D_end ?_
      refine x_then ?_
      refine C_ret ?_
      refine D_eq 0 rfl (show (mapAt fSt cSt k a i : (List Stamp)) = mapS fSt cSt k a from by exact mapAt_done (by omega)) ?_
      refine R_1 rfl rfl fun w' hs => ⟨congrArg (fun z => Ending.returned (Value.int .i64 z)) ?_, hs⟩
      show (kk : Int) = k + sumC cSt a
      rw [List.take_of_length_le (by omega)] at hk; exact hk

theorem laws_heldStampS (w : World) (v_a : Value) (a : (List Stamp)) (k : Int) (h_a : Gd.rd w [v_a] a) (h0 : 0 ≤ k) (h1 : k + sumC cSt a ≤ 4611686018427387904) (he : a = mapS fSt cSt k a) : Calls Tryz.prog 30 [v_a, (.int .i64 k)].toArray w (Val w (.int .i64 (k + sumC cSt a))) := by
  have hm1 := rd_max h_a
  refine enter 43 Tryz.func30 rfl rfl rfl ?_
  refine C_seq ?_
  refine C_reg ?_
  refine p1 rfl ?_
  refine D_end ?_
  refine x_then ?_
  refine C_seq ?_
  refine C_seq ?_
  refine C_reg ?_
  refine p1 rfl ?_
  refine D_end ?_
  refine x_then ?_
  refine C_block ?_
  refine C_loop (fun m_ ac w' => ∃ (i : Nat), ∃ (kk : Int), (i ≤ a.length) ∧ (kk = k + sumC cSt (a.take i)) ∧ m_ = a.length - i ∧ Fits ac 43 [(0, v_a), (1, (.int .i64 kk)), (5, (.int .i64 ((i : Nat) : Int)))] ∧ St w ([]) w') ?_ ?_
  · refine fun ac w' hf hs => ⟨_, 0, k, ?_, ?_, rfl, hf.weak ⟨rfl, rfl, rfl, trivial⟩, hs⟩
    · first | assumption | omega | simp
    · simp [sumC]
  · rintro m_ ac w' ⟨i, kk, hi, hk, rfl, hf, hs⟩
    refine D.use ?_ hf hs
    clear hf hs ac w'
    have htk := sumC_take_le a cSt i
    refine C_seq ?_
    refine C_seq ?_
    refine C_reg ?_
    refine p1 rfl <| p1 rfl ?_
    refine q1 rfl (D_len s_25 rfl rfl (rd_sl h_a)) ?_
    refine p1 rfl ?_
    refine D_end ?_
    refine x_then ?_
    refine C_if _ rfl (fun h2 => ?_) (fun h2 => ?_)
    · have pr2 : (((i : Nat) : Int) : Int) < ((a.length : Nat) : Int) := of_decide_eq_true h2
      refine C_skip ?_
      refine x_then ?_
      refine C_seq ?_
      refine C_block ?_
      refine C_seq ?_
      refine C_seq ?_
      refine C_draw mixed [] (by kernel_rfl) ?_
      refine tk 0 rfl (by kernel_rfl) (by kernel_rfl) (by kernel_rfl) rfl (fun _ hs => hs) (rp rfl) ?_
      refine tk 1 rfl (by kernel_rfl) (by kernel_rfl) (by kernel_rfl) rfl (fun _ hs => hs) (rp rfl) ?_
      obtain ⟨x3, hx4⟩ := some_of_lt (l := a) (i := i) (by omega)
      obtain ⟨es5, at6, hr7⟩ := rd_elem (n := 3) rfl h_a hx4
      obtain ⟨u9, rfl, hu10⟩ := open_Stamp hr7
      have hm11 := rd_max hu10
      have hb12 := sub_Stamp_Fact hr7
      refine tk 2 rfl (by kernel_rfl) (by kernel_rfl) (by kernel_rfl) rfl (fun _ hs => hs) (D_ix (l := a) (j := i) s_25 rfl rfl rfl (fun w' hs => (rd_at hs h_a)) rfl (lt_of_some hx4)) ?_
      have hfx := mapS_fix he hx4
      rw [← hk] at hfx
      have hF0 : x3.Fact.Rel = markS kk := congrArg (fun y => y.Fact.Rel) hfx
      have hF1 : x3.Fact.Args = mkSs (kk + 1) x3.Fact.Args := congrArg (fun y => y.Fact.Args) hfx
      have hF2 : x3.Time = kk + 1 + x3.Fact.Args.length := congrArg (fun y => y.Time) hfx
      have hstep := mk_stepH (c := cSt) hx4 hk
      have hcc : cSt x3 = 2 + x3.Fact.Args.length := rfl
      refine tk 3 rfl (by kernel_rfl) (by kernel_rfl) (by kernel_rfl) rfl (fun _ hs => hs) (D_fa f_72_0 rfl rfl) ?_
      refine tk 4 rfl (by kernel_rfl) (by kernel_rfl) (by kernel_rfl) rfl (fun _ hs => hs) (D_fa' f_70_0 rfl rfl (q := 0) rfl) ?_
      refine tk 5 rfl (by kernel_rfl) (by kernel_rfl) (by kernel_rfl) rfl (fun _ hs => hs) (lr o_9 rfl rfl at6 rfl) ?_
      refine tk 6 rfl (by kernel_rfl) (by kernel_rfl) (by kernel_rfl) rfl (fun _ hs => hs) (rp rfl) ?_
      refine ty 7 rfl (by kernel_rfl) rfl (cv b_23 rfl rfl rfl rfl (fun w' hs => (laws_markText w' kk (by first | assumption | omega | (unfold szm at *; split at * <;> omega)))) ?_)
      refine tS (fun _ hs => hs) ?_
      refine tk 8 rfl (by kernel_rfl) (by kernel_rfl) (by kernel_rfl) rfl (fun _ hs => hs) (D_neS rfl rfl rfl) ?_
      refine tE (by kernel_rfl) ?_
      refine x_then ?_
      refine C_if _ rfl (fun h13 => ?_) (fun h13 => ?_)
      · have pr13 : ¬ (x3.Fact.Rel : ByteArray) = (markS kk) := of_decide_eq_false (not_t h13)
        refine C_seq ?_
        refine C_reg ?_
        refine p1 rfl ?_
        refine D_end ?_
        refine x_then ?_
        refine D_weak [(4, (.int .i64 (-1)))] ⟨rfl, trivial⟩ ?_
        refine C_ret ?_
        refine x_then_ret ?_
        refine x_blk_ret ?_
        refine x_then_ret ?_
        refine x_then_ret ?_
        refine x_blk_ret ?_
        refine x_then_ret ?_
        refine R_1 rfl rfl fun w' hs => ⟨congrArg (fun z => Ending.returned (Value.int .i64 z)) ?_, hs.bel⟩
        show ((-1) : Int) = k + sumC cSt a
        first | (exfalso; contradiction) | (exfalso; omega) | (rw [List.take_of_length_le (by omega)] at hk; exact hk)
      · have pr13 : (x3.Fact.Rel : ByteArray) = (markS kk) := of_decide_eq_true (not_f h13)
        refine C_skip ?_
        refine x_then ?_
        refine C_seq ?_
        refine C_reg ?_
        refine p1 rfl ?_
        refine q1 rfl (D_add rfl rfl rfl rfl (by omega)) ?_
        refine p1 rfl ?_
        refine D_end ?_
        refine x_then ?_
        refine D_weak [(0, v_a), (1, (.int .i64 (kk + 1))), (5, (.int .i64 ((i : Nat) : Int)))] ⟨rfl, rfl, rfl, trivial⟩ ?_
        refine C_seq ?_
        refine C_reg ?_
        refine p1 rfl <| p1 rfl ?_
        refine q1 rfl (D_ix (l := a) (j := i) s_25 rfl rfl rfl (fun w' hs => (rd_at hs h_a)) rfl (lt_of_some hx4)) ?_
        refine q1 rfl (D_fa f_72_0 rfl rfl) ?_
        refine q1 rfl (D_fa' f_70_1 rfl rfl (q := 1) rfl) ?_
        refine q1 rfl (lr o_68 rfl rfl at6 rfl) ?_
        refine p1 rfl ?_
        refine li rfl (cv b_52 rfl rfl rfl rfl (fun w' hs => (laws_heldStringS w' u9 x3.Fact.Args (kk + 1) (rd_at hs hu10) (by first | assumption | omega | (unfold szm at *; split at * <;> omega)) (by first | assumption | omega | (unfold szm at *; split at * <;> omega)) (by first | assumption | omega | (unfold szm at *; split at * <;> omega)))) ?_)
        refine p1 rfl ?_
        refine D_end ?_
        refine x_then ?_
        refine C_seq ?_
        refine C_seq ?_
        refine C_reg ?_
        refine p1 rfl <| p1 rfl ?_
        refine D_end ?_
        refine x_then ?_
        refine C_if _ rfl (fun h14 => ?_) (fun h14 => ?_)
        · have pr14 : (((kk + 1) + x3.Fact.Args.length) : Int) < 0 := of_decide_eq_true h14
          refine C_seq ?_
          refine C_reg ?_
          refine p1 rfl ?_
          refine D_end ?_
          refine x_then ?_
          refine C_ret ?_
          refine x_then_ret ?_
          refine x_blk_ret ?_
          refine x_then_ret ?_
          refine x_then_ret ?_
          refine x_blk_ret ?_
          refine x_then_ret ?_
          refine R_1 rfl rfl fun w' hs => ⟨congrArg (fun z => Ending.returned (Value.int .i64 z)) ?_, hs.bel⟩
          show ((-1) : Int) = k + sumC cSt a
          first | (exfalso; contradiction) | (exfalso; omega) | (rw [List.take_of_length_le (by omega)] at hk; exact hk)
        · have pr14 : ¬ (((kk + 1) + x3.Fact.Args.length) : Int) < 0 := of_decide_eq_false h14
          refine C_skip ?_
          refine x_then ?_
          refine C_seq ?_
          refine C_seq ?_
          refine C_reg ?_
          refine p1 rfl <| p1 rfl ?_
          refine q1 rfl (D_ix (l := a) (j := i) s_25 rfl rfl rfl (fun w' hs => (rd_at hs h_a)) rfl (lt_of_some hx4)) ?_
          refine q1 rfl (D_fa f_72_1 rfl rfl) ?_
          refine q1 rfl (lr o_3 rfl rfl at6 rfl) ?_
          refine p1 rfl <| p1 rfl ?_
          refine D_end ?_
          refine x_then ?_
          refine D_weak [(0, v_a), (1, (.int .i64 ((kk + 1) + x3.Fact.Args.length))), (5, (.int .i64 ((i : Nat) : Int))), (39, (.bool ((x3.Time : Int) != ((kk + 1) + x3.Fact.Args.length))))] ⟨rfl, rfl, rfl, rfl, trivial⟩ ?_
          refine C_if _ rfl (fun h15 => ?_) (fun h15 => ?_)
          · have pr15 : (x3.Time : Int) ≠ ((kk + 1) + x3.Fact.Args.length) := bne_iff_ne.1 h15
            refine C_seq ?_
            refine C_reg ?_
            refine p1 rfl ?_
            refine D_end ?_
            refine x_then ?_
            refine C_ret ?_
            refine x_then_ret ?_
            refine x_blk_ret ?_
            refine x_then_ret ?_
            refine x_then_ret ?_
            refine x_blk_ret ?_
            refine x_then_ret ?_
            refine R_1 rfl rfl fun w' hs => ⟨congrArg (fun z => Ending.returned (Value.int .i64 z)) ?_, hs.bel⟩
            show ((-1) : Int) = k + sumC cSt a
            first | (exfalso; contradiction) | (exfalso; omega) | (rw [List.take_of_length_le (by omega)] at hk; exact hk)
          · have pr15 : (x3.Time : Int) = ((kk + 1) + x3.Fact.Args.length) := eq_of_bne_f h15
            refine C_skip ?_
            refine x_then ?_
            refine C_reg ?_
            refine p1 rfl ?_
            refine q1 rfl (D_add rfl rfl rfl rfl (by omega)) ?_
            refine p1 rfl ?_
            refine D_end ?_
            refine x_blk ?_
            refine x_then ?_
            refine C_reg ?_
            refine p1 rfl ?_
            refine q1 rfl (D_add rfl rfl rfl (r := ((i + 1 : Nat) : Int)) (by omega) (by omega)) ?_
            refine p1 rfl ?_
            refine D_end ?_
            refine x_then ?_
            refine fun ac w' hf hs => ⟨_, ?_, i + 1, (((kk + 1) + x3.Fact.Args.length) + 1), ?_, ?_, rfl, hf.weak ⟨rfl, rfl, rfl, trivial⟩, hs⟩
            · omega
            · first | assumption | omega | simp
            · omega
    · have pr2 : ¬ (((i : Nat) : Int) : Int) < ((a.length : Nat) : Int) := of_decide_eq_false h2
      refine C_exit ?_
      refine x_then_exit ?_
      refine x_then_exit ?_
      refine x_blk_eq ?_
      refine x_then ?_
      refine C_seq ?_
      refine C_reg ?_
      refine p1 rfl <| p1 rfl ?_
      refine D_end ?_
      refine x_then ?_
      refine C_ret ?_
      refine R_1 rfl rfl fun w' hs => ⟨congrArg (fun z => Ending.returned (Value.int .i64 z)) ?_, hs.bel⟩
      show (kk : Int) = k + sumC cSt a
      first | (exfalso; contradiction) | (exfalso; omega) | (rw [List.take_of_length_le (by omega)] at hk; exact hk)

theorem laws_markFiringS (w0 : World) (Hs : List Chunk) (w : World) (v_a : Value) (a : (List Firing)) (k : Int) (h0 : 0 ≤ k) (h1 : k + sumC cFi a ≤ 4611686018427387904) (hst : St w0 (ov [v_a] (a : (List Firing)) :: Hs) w) : Calls Tryz.prog 27 [v_a, (.int .i64 k)].toArray w (fun e w' => e = .returned (.int .i64 (k + sumC cFi a)) ∧ St w0 (ov [v_a] (mapS fFi cFi k a : (List Firing)) :: Hs) w') := by
  have hm1 := rd_max (rd_own (k := 0) hst rfl)
  refine enterS 28 Tryz.func27 rfl rfl rfl hst ?_
  refine C_seq ?_
  refine C_reg ?_
  refine p1 rfl ?_
  refine D_end ?_
  refine x_then ?_
  refine D_H (ov [v_a] (a : (List Firing)) :: Hs) rfl ?_
  refine C_seq ?_
  refine C_seq ?_
  refine C_reg ?_
  refine p1 rfl ?_
  refine D_end ?_
  refine x_then ?_
  refine C_block ?_
  refine C_loop (fun m_ ac w' => ∃ (i : Nat), ∃ (kk : Int), (i ≤ a.length) ∧ (kk = k + sumC cFi (a.take i)) ∧ m_ = a.length - i ∧ Fits ac 28 [(0, v_a), (1, (.int .i64 kk)), (5, (.int .i64 ((i : Nat) : Int)))] ∧ St w0 (ov [v_a] (mapAt fFi cFi k a i : (List Firing)) :: Hs) w') ?_ ?_
  · refine D_eq 0 rfl (show (a : (List Firing)) = mapAt fFi cFi k a 0 from by rw [mapAt_zero]) ?_
    refine fun ac w' hf hs => ⟨_, 0, k, ?_, ?_, rfl, hf.weak ⟨rfl, rfl, rfl, trivial⟩, hs⟩
    · first | assumption | omega | simp
    · simp [sumC]
  · rintro m_ ac w' ⟨i, kk, hi, hk, rfl, hf, hs⟩
    refine D.use ?_ hf hs
    clear hf hs ac w'
    have hcl := mapAt_len (f := fFi) (c := cFi) (k := k) hi
    have htk := sumC_take_le a cFi i
    refine C_seq ?_
    refine C_seq ?_
    refine C_reg ?_
    refine p1 rfl <| p1 rfl ?_
    refine q1 rfl (D_leno 0 s_26 rfl rfl rfl) ?_
    refine p1 rfl ?_
    refine D_end ?_
    refine x_then ?_
    refine D_H (ov [v_a] (mapAt fFi cFi k a i : (List Firing)) :: Hs) rfl ?_
    refine C_if _ rfl (fun h2 => ?_) (fun h2 => ?_)
    · have pr2 : (((i : Nat) : Int) : Int) < (((mapAt fFi cFi k a i).length : Nat) : Int) := of_decide_eq_true h2
      refine C_skip ?_
      refine x_then ?_
      refine C_seq ?_
      refine C_block ?_
      refine C_seq ?_
      refine C_reg ?_
      refine p1 rfl <| p1 rfl <| p1 rfl ?_
      refine li rfl (cv b_23 rfl rfl rfl rfl (fun w' hs => (laws_markText w' kk (by first | assumption | omega | (unfold szm at *; split at * <;> omega)))) ?_)
      obtain ⟨x3, hx4⟩ := some_of_lt (l := (mapAt fFi cFi k a i)) (i := i) (by omega)
      refine D_take hx4 fun es5 => ?_
      refine D_pre (fun w' hs => shape_Firing (rd_own (k := 0) hs rfl)) ?_
      rintro ⟨v6, rfl, ho7⟩
      refine q1 rfl (D_ixh 1 s_26 rfl rfl rfl rfl rfl) ?_
      have hstep := mk_step hi hx4 hk
      have hcc : cFi x3 = 1 + x3.Times.length := rfl
      refine q1 rfl (D_fa f_76_0 rfl rfl) ?_
      refine D_unpair (α := ByteArray) (β := (List Int)) (c1 := [(.string x3.Rule)]) (c2 := [v6]) (x := x3.Rule) (y := (x3.Times)) rfl rfl ?_
      refine D_fd [] 1 rfl ?_
      refine li rfl (sh (n := 2) (f := 0) 1 rfl z_9 rfl rfl rfl rfl rfl rfl rfl (by simp) ?_)
      refine D_end ?_
      refine x_then ?_
      refine C_seq ?_
      refine C_reg ?_
      refine p1 rfl ?_
      refine q1 rfl (D_add rfl rfl rfl rfl (by omega)) ?_
      refine p1 rfl ?_
      refine D_end ?_
      refine x_then ?_
      refine C_reg ?_
      refine p1 rfl <| p1 rfl ?_
      refine q1 rfl (D_ixh 1 s_26 rfl rfl rfl rfl rfl) ?_
      refine q1 rfl (D_fa f_76_1 rfl rfl) ?_
      refine q1 rfl (lh (n := 2) 1 rfl o_74 rfl rfl rfl rfl) ?_
      refine p1 rfl ?_
      refine li rfl (cm b_49 rfl rfl rfl rfl (fun w' hs => laws_markIntS _ _ w' v6 x3.Times (kk + 1) (by first | assumption | omega | (simp only; omega)) (by first | assumption | omega | (simp only; omega)) hs) ?_)
      refine p1 rfl ?_
      refine D_end ?_
      refine x_blk ?_
      refine x_then ?_
      refine D_weak [(0, v_a), (1, (.int .i64 ((kk + 1) + x3.Times.length))), (5, (.int .i64 ((i : Nat) : Int)))] ⟨rfl, rfl, rfl, trivial⟩ ?_
      refine C_reg ?_
      refine p1 rfl ?_
      refine q1 rfl (D_add rfl rfl rfl (r := ((i + 1 : Nat) : Int)) (by omega) (by omega)) ?_
      refine p1 rfl ?_
      refine D_end ?_
      refine x_then ?_
      refine pk_Firing (r := (⟨(markS kk), mkI (kk + 1) x3.Times⟩ : Firing)) ?_
      refine D_put ?_
      refine D_eq 0 rfl (show ((mapAt fFi cFi k a i).set i (⟨(markS kk), mkI (kk + 1) x3.Times⟩ : Firing) : (List Firing)) = mapAt fFi cFi k a (i + 1) from by exact mk_set hi hx4 hk rfl) ?_
      refine fun ac w' hf hs => ⟨_, ?_, i + 1, ((kk + 1) + x3.Times.length), ?_, ?_, rfl, hf.weak ⟨rfl, rfl, rfl, trivial⟩, hs⟩
      · omega
      · first | assumption | omega | simp
      · omega
    · have pr2 : ¬ (((i : Nat) : Int) : Int) < (((mapAt fFi cFi k a i).length : Nat) : Int) := of_decide_eq_false h2
      refine C_exit ?_
      refine x_then_exit ?_
      refine x_then_exit ?_
      refine x_blk_eq ?_
      refine x_then ?_
      refine C_seq ?_
      refine C_reg ?_
      refine p1 rfl <| p1 rfl ?_
      refine D_end ?_
      refine x_then ?_
      refine C_ret ?_
      refine D_eq 0 rfl (show (mapAt fFi cFi k a i : (List Firing)) = mapS fFi cFi k a from by exact mapAt_done (by omega)) ?_
      refine R_1 rfl rfl fun w' hs => ⟨congrArg (fun z => Ending.returned (Value.int .i64 z)) ?_, hs⟩
      show (kk : Int) = k + sumC cFi a
      rw [List.take_of_length_le (by omega)] at hk; exact hk

theorem laws_heldFiringS (w : World) (v_a : Value) (a : (List Firing)) (k : Int) (h_a : Gd.rd w [v_a] a) (h0 : 0 ≤ k) (h1 : k + sumC cFi a ≤ 4611686018427387904) (he : a = mapS fFi cFi k a) : Calls Tryz.prog 31 [v_a, (.int .i64 k)].toArray w (Val w (.int .i64 (k + sumC cFi a))) := by
  have hm1 := rd_max h_a
  refine enter 32 Tryz.func31 rfl rfl rfl ?_
  refine C_seq ?_
  refine C_reg ?_
  refine p1 rfl ?_
  refine D_end ?_
  refine x_then ?_
  refine C_seq ?_
  refine C_seq ?_
  refine C_reg ?_
  refine p1 rfl ?_
  refine D_end ?_
  refine x_then ?_
  refine C_block ?_
  refine C_loop (fun m_ ac w' => ∃ (i : Nat), ∃ (kk : Int), (i ≤ a.length) ∧ (kk = k + sumC cFi (a.take i)) ∧ m_ = a.length - i ∧ Fits ac 32 [(0, v_a), (1, (.int .i64 kk)), (5, (.int .i64 ((i : Nat) : Int)))] ∧ St w ([]) w') ?_ ?_
  · refine fun ac w' hf hs => ⟨_, 0, k, ?_, ?_, rfl, hf.weak ⟨rfl, rfl, rfl, trivial⟩, hs⟩
    · first | assumption | omega | simp
    · simp [sumC]
  · rintro m_ ac w' ⟨i, kk, hi, hk, rfl, hf, hs⟩
    refine D.use ?_ hf hs
    clear hf hs ac w'
    have htk := sumC_take_le a cFi i
    refine C_seq ?_
    refine C_seq ?_
    refine C_reg ?_
    refine p1 rfl <| p1 rfl ?_
    refine q1 rfl (D_len s_26 rfl rfl (rd_sl h_a)) ?_
    refine p1 rfl ?_
    refine D_end ?_
    refine x_then ?_
    refine C_if _ rfl (fun h2 => ?_) (fun h2 => ?_)
    · have pr2 : (((i : Nat) : Int) : Int) < ((a.length : Nat) : Int) := of_decide_eq_true h2
      refine C_skip ?_
      refine x_then ?_
      refine C_seq ?_
      refine C_block ?_
      refine C_seq ?_
      refine C_seq ?_
      refine C_draw mixed [] (by kernel_rfl) ?_
      refine tk 0 rfl (by kernel_rfl) (by kernel_rfl) (by kernel_rfl) rfl (fun _ hs => hs) (rp rfl) ?_
      refine tk 1 rfl (by kernel_rfl) (by kernel_rfl) (by kernel_rfl) rfl (fun _ hs => hs) (rp rfl) ?_
      obtain ⟨x3, hx4⟩ := some_of_lt (l := a) (i := i) (by omega)
      obtain ⟨es5, at6, hr7⟩ := rd_elem (n := 2) rfl h_a hx4
      obtain ⟨u9, rfl, hu10⟩ := open_Firing hr7
      have hm11 := rd_max hu10
      refine tk 2 rfl (by kernel_rfl) (by kernel_rfl) (by kernel_rfl) rfl (fun _ hs => hs) (D_ix (l := a) (j := i) s_26 rfl rfl rfl (fun w' hs => (rd_at hs h_a)) rfl (lt_of_some hx4)) ?_
      have hfx := mapS_fix he hx4
      rw [← hk] at hfx
      have hF0 : x3.Rule = markS kk := congrArg (fun y => y.Rule) hfx
      have hF1 : x3.Times = mkI (kk + 1) x3.Times := congrArg (fun y => y.Times) hfx
      have hstep := mk_stepH (c := cFi) hx4 hk
      have hcc : cFi x3 = 1 + x3.Times.length := rfl
      refine tk 3 rfl (by kernel_rfl) (by kernel_rfl) (by kernel_rfl) rfl (fun _ hs => hs) (D_fa f_76_0 rfl rfl) ?_
      refine tk 4 rfl (by kernel_rfl) (by kernel_rfl) (by kernel_rfl) rfl (fun _ hs => hs) (lr o_9 rfl rfl at6 rfl) ?_
      refine tk 5 rfl (by kernel_rfl) (by kernel_rfl) (by kernel_rfl) rfl (fun _ hs => hs) (rp rfl) ?_
      refine ty 6 rfl (by kernel_rfl) rfl (cv b_23 rfl rfl rfl rfl (fun w' hs => (laws_markText w' kk (by first | assumption | omega | (unfold szm at *; split at * <;> omega)))) ?_)
      refine tS (fun _ hs => hs) ?_
      refine tk 7 rfl (by kernel_rfl) (by kernel_rfl) (by kernel_rfl) rfl (fun _ hs => hs) (D_neS rfl rfl rfl) ?_
      refine tE (by kernel_rfl) ?_
      refine x_then ?_
      refine C_if _ rfl (fun h12 => ?_) (fun h12 => ?_)
      · have pr12 : ¬ (x3.Rule : ByteArray) = (markS kk) := of_decide_eq_false (not_t h12)
        refine C_seq ?_
        refine C_reg ?_
        refine p1 rfl ?_
        refine D_end ?_
        refine x_then ?_
        refine D_weak [(4, (.int .i64 (-1)))] ⟨rfl, trivial⟩ ?_
        refine C_ret ?_
        refine x_then_ret ?_
        refine x_blk_ret ?_
        refine x_then_ret ?_
        refine x_then_ret ?_
        refine x_blk_ret ?_
        refine x_then_ret ?_
        refine R_1 rfl rfl fun w' hs => ⟨congrArg (fun z => Ending.returned (Value.int .i64 z)) ?_, hs.bel⟩
        show ((-1) : Int) = k + sumC cFi a
        first | (exfalso; contradiction) | (exfalso; omega) | (rw [List.take_of_length_le (by omega)] at hk; exact hk)
      · have pr12 : (x3.Rule : ByteArray) = (markS kk) := of_decide_eq_true (not_f h12)
        refine C_skip ?_
        refine x_then ?_
        refine C_seq ?_
        refine C_reg ?_
        refine p1 rfl ?_
        refine q1 rfl (D_add rfl rfl rfl rfl (by omega)) ?_
        refine p1 rfl ?_
        refine D_end ?_
        refine x_then ?_
        refine C_seq ?_
        refine C_reg ?_
        refine p1 rfl <| p1 rfl ?_
        refine q1 rfl (D_ix (l := a) (j := i) s_26 rfl rfl rfl (fun w' hs => (rd_at hs h_a)) rfl (lt_of_some hx4)) ?_
        refine q1 rfl (D_fa f_76_1 rfl rfl) ?_
        refine q1 rfl (lr o_74 rfl rfl at6 rfl) ?_
        refine p1 rfl ?_
        refine li rfl (cv b_53 rfl rfl rfl rfl (fun w' hs => (laws_heldIntS w' u9 x3.Times (kk + 1) (rd_at hs hu10) (by first | assumption | omega | (unfold szm at *; split at * <;> omega)) (by first | assumption | omega | (unfold szm at *; split at * <;> omega)) (by first | assumption | omega | (unfold szm at *; split at * <;> omega)))) ?_)
        refine p1 rfl ?_
        refine D_end ?_
        refine x_then ?_
        refine D_weak [(0, v_a), (1, (.int .i64 ((kk + 1) + x3.Times.length))), (5, (.int .i64 ((i : Nat) : Int)))] ⟨rfl, rfl, rfl, trivial⟩ ?_
        refine C_seq ?_
        refine C_reg ?_
        refine p1 rfl <| p1 rfl ?_
        refine D_end ?_
        refine x_then ?_
        refine C_if _ rfl (fun h13 => ?_) (fun h13 => ?_)
        · have pr13 : (((kk + 1) + x3.Times.length) : Int) < 0 := of_decide_eq_true h13
          refine C_seq ?_
          refine C_reg ?_
          refine p1 rfl ?_
          refine D_end ?_
          refine x_then ?_
          refine C_ret ?_
          refine x_blk_ret ?_
          refine x_then_ret ?_
          refine x_then_ret ?_
          refine x_blk_ret ?_
          refine x_then_ret ?_
          refine R_1 rfl rfl fun w' hs => ⟨congrArg (fun z => Ending.returned (Value.int .i64 z)) ?_, hs.bel⟩
          show ((-1) : Int) = k + sumC cFi a
          first | (exfalso; contradiction) | (exfalso; omega) | (rw [List.take_of_length_le (by omega)] at hk; exact hk)
        · have pr13 : ¬ (((kk + 1) + x3.Times.length) : Int) < 0 := of_decide_eq_false h13
          refine C_skip ?_
          refine x_blk ?_
          refine x_then ?_
          refine C_reg ?_
          refine p1 rfl ?_
          refine q1 rfl (D_add rfl rfl rfl (r := ((i + 1 : Nat) : Int)) (by omega) (by omega)) ?_
          refine p1 rfl ?_
          refine D_end ?_
          refine x_then ?_
          refine fun ac w' hf hs => ⟨_, ?_, i + 1, ((kk + 1) + x3.Times.length), ?_, ?_, rfl, hf.weak ⟨rfl, rfl, rfl, trivial⟩, hs⟩
          · omega
          · first | assumption | omega | simp
          · omega
    · have pr2 : ¬ (((i : Nat) : Int) : Int) < ((a.length : Nat) : Int) := of_decide_eq_false h2
      refine C_exit ?_
      refine x_then_exit ?_
      refine x_then_exit ?_
      refine x_blk_eq ?_
      refine x_then ?_
      refine C_seq ?_
      refine C_reg ?_
      refine p1 rfl <| p1 rfl ?_
      refine D_end ?_
      refine x_then ?_
      refine C_ret ?_
      refine R_1 rfl rfl fun w' hs => ⟨congrArg (fun z => Ending.returned (Value.int .i64 z)) ?_, hs.bel⟩
      show (kk : Int) = k + sumC cFi a
      first | (exfalso; contradiction) | (exfalso; omega) | (rw [List.take_of_length_le (by omega)] at hk; exact hk)

theorem laws_markEventS (w0 : World) (Hs : List Chunk) (w : World) (v_a : Value) (a : (List Event)) (k : Int) (h0 : 0 ≤ k) (h1 : k + sumC cEv a ≤ 4611686018427387904) (hst : St w0 (ov [v_a] (a : (List Event)) :: Hs) w) : Calls Tryz.prog 28 [v_a, (.int .i64 k)].toArray w (fun e w' => e = .returned (.int .i64 (k + sumC cEv a)) ∧ St w0 (ov [v_a] (mapS fEv cEv k a : (List Event)) :: Hs) w') := by
  have hm1 := rd_max (rd_own (k := 0) hst rfl)
  refine enterS 45 Tryz.func28 rfl rfl rfl hst ?_
  refine C_seq ?_
  refine C_reg ?_
  refine p1 rfl ?_
  refine D_end ?_
  refine x_then ?_
  refine D_H (ov [v_a] (a : (List Event)) :: Hs) rfl ?_
  refine C_seq ?_
  refine C_seq ?_
  refine C_reg ?_
  refine p1 rfl ?_
  refine D_end ?_
  refine x_then ?_
  refine C_block ?_
  refine C_loop (fun m_ ac w' => ∃ (i : Nat), ∃ (kk : Int), (i ≤ a.length) ∧ (kk = k + sumC cEv (a.take i)) ∧ m_ = a.length - i ∧ Fits ac 45 [(0, v_a), (1, (.int .i64 kk)), (5, (.int .i64 ((i : Nat) : Int)))] ∧ St w0 (ov [v_a] (mapAt fEv cEv k a i : (List Event)) :: Hs) w') ?_ ?_
  · refine D_eq 0 rfl (show (a : (List Event)) = mapAt fEv cEv k a 0 from by rw [mapAt_zero]) ?_
    refine fun ac w' hf hs => ⟨_, 0, k, ?_, ?_, rfl, hf.weak ⟨rfl, rfl, rfl, trivial⟩, hs⟩
    · first | assumption | omega | simp
    · simp [sumC]
  · rintro m_ ac w' ⟨i, kk, hi, hk, rfl, hf, hs⟩
    refine D.use ?_ hf hs
    clear hf hs ac w'
    have hcl := mapAt_len (f := fEv) (c := cEv) (k := k) hi
    have htk := sumC_take_le a cEv i
    refine C_seq ?_
    refine C_seq ?_
    refine C_reg ?_
    refine p1 rfl <| p1 rfl ?_
    refine q1 rfl (D_leno 0 s_27 rfl rfl rfl) ?_
    refine p1 rfl ?_
    refine D_end ?_
    refine x_then ?_
    refine D_H (ov [v_a] (mapAt fEv cEv k a i : (List Event)) :: Hs) rfl ?_
    refine C_if _ rfl (fun h2 => ?_) (fun h2 => ?_)
    · have pr2 : (((i : Nat) : Int) : Int) < (((mapAt fEv cEv k a i).length : Nat) : Int) := of_decide_eq_true h2
      refine C_skip ?_
      refine x_then ?_
      refine C_seq ?_
      refine C_block ?_
      refine C_seq ?_
      refine C_reg ?_
      refine p1 rfl <| p1 rfl <| p1 rfl ?_
      obtain ⟨x3, hx4⟩ := some_of_lt (l := (mapAt fEv cEv k a i)) (i := i) (by omega)
      refine D_take hx4 fun es5 => ?_
      refine D_pre (fun w' hs => shape_Event (rd_own (k := 0) hs rfl)) ?_
      rintro ⟨v6, rfl, ho7⟩
      refine q1 rfl (D_ixh 1 s_27 rfl rfl rfl rfl rfl) ?_
      have hstep := mk_step hi hx4 hk
      have hcc : cEv x3 = 3 + x3.Fact.Args.length := rfl
      refine q1 rfl (D_fa f_79_0 rfl rfl) ?_
      refine D_unpair (α := Int) (β := ByteArray × Go.Sy.Fact) (c1 := [(.int .i64 x3.Kind)]) (c2 := [(.string x3.Rule), (.string x3.Fact.Rel), v6]) (x := x3.Kind) (y := (x3.Rule, x3.Fact)) rfl rfl ?_
      refine D_fd [] 1 rfl ?_
      refine D_unpair (α := ByteArray) (β := Go.Sy.Fact) (c1 := [(.string x3.Rule)]) (c2 := [(.string x3.Fact.Rel), v6]) (x := x3.Rule) (y := (x3.Fact)) rfl rfl ?_
      refine D_fd [] 1 rfl ?_
      refine li rfl (sh (n := 4) (f := 0) 1 rfl z_3 rfl rfl rfl rfl rfl rfl rfl (by simp) ?_)
      refine D_end ?_
      refine x_then ?_
      refine C_seq ?_
      refine C_reg ?_
      refine p1 rfl ?_
      refine q1 rfl (D_add rfl rfl rfl rfl (by omega)) ?_
      refine p1 rfl ?_
      refine D_end ?_
      refine x_then ?_
      refine C_seq ?_
      refine C_reg ?_
      refine p1 rfl <| p1 rfl <| p1 rfl ?_
      refine li rfl (cv b_23 rfl rfl rfl rfl (fun w' hs => (laws_markText w' (kk + 1) (by first | assumption | omega | (unfold szm at *; split at * <;> omega)))) ?_)
      refine q1 rfl (D_ixh 1 s_27 rfl rfl rfl rfl rfl) ?_
      refine q1 rfl (D_fa f_79_1 rfl rfl) ?_
      refine li rfl (sh (n := 4) (f := 1) 1 rfl z_9 rfl rfl rfl rfl rfl rfl rfl (by simp) ?_)
      refine D_end ?_
      refine x_then ?_
      refine D_weak [(0, v_a), (1, (.int .i64 (kk + 1))), (5, (.int .i64 ((i : Nat) : Int)))] ⟨rfl, rfl, rfl, trivial⟩ ?_
      refine C_seq ?_
      refine C_reg ?_
      refine p1 rfl ?_
      refine q1 rfl (D_add rfl rfl rfl rfl (by omega)) ?_
      refine p1 rfl ?_
      refine D_end ?_
      refine x_then ?_
      refine C_seq ?_
      refine C_reg ?_
      refine p1 rfl <| p1 rfl <| p1 rfl ?_
      refine li rfl (cv b_23 rfl rfl rfl rfl (fun w' hs => (laws_markText w' ((kk + 1) + 1) (by first | assumption | omega | (unfold szm at *; split at * <;> omega)))) ?_)
      refine q1 rfl (D_ixh 1 s_27 rfl rfl rfl rfl rfl) ?_
      refine q1 rfl (D_fa f_79_2 rfl rfl) ?_
      refine q1 rfl (D_fa' f_70_0 rfl rfl (q := 2) rfl) ?_
      refine li rfl (sh (n := 4) (f := 2) 1 rfl z_9 rfl rfl rfl rfl rfl rfl rfl (by simp) ?_)
      refine D_end ?_
      refine x_then ?_
      refine C_seq ?_
      refine C_reg ?_
      refine p1 rfl ?_
      refine q1 rfl (D_add rfl rfl rfl rfl (by omega)) ?_
      refine p1 rfl ?_
      refine D_end ?_
      refine x_then ?_
      refine C_reg ?_
      refine p1 rfl <| p1 rfl ?_
      refine q1 rfl (D_ixh 1 s_27 rfl rfl rfl rfl rfl) ?_
      refine q1 rfl (D_fa f_79_2 rfl rfl) ?_
      refine q1 rfl (D_fa' f_70_1 rfl rfl (q := 3) rfl) ?_
      refine q1 rfl (lh (n := 4) 1 rfl o_68 rfl rfl rfl rfl) ?_
      refine p1 rfl ?_
      refine D_unpair (α := ByteArray) (β := (List ByteArray)) (c1 := [(.string x3.Fact.Rel)]) (c2 := [v6]) (x := x3.Fact.Rel) (y := (x3.Fact.Args)) rfl rfl ?_
      refine D_fd [] 1 rfl ?_
      refine li rfl (cm b_48 rfl rfl rfl rfl (fun w' hs => laws_markStringS _ _ w' v6 x3.Fact.Args (((kk + 1) + 1) + 1) (by first | assumption | omega | (simp only; omega)) (by first | assumption | omega | (simp only; omega)) hs) ?_)
      refine p1 rfl ?_
      refine D_end ?_
      refine x_blk ?_
      refine x_then ?_
      refine D_weak [(0, v_a), (1, (.int .i64 ((((kk + 1) + 1) + 1) + x3.Fact.Args.length))), (5, (.int .i64 ((i : Nat) : Int)))] ⟨rfl, rfl, rfl, trivial⟩ ?_
      refine C_reg ?_
      refine p1 rfl ?_
      refine q1 rfl (D_add rfl rfl rfl (r := ((i + 1 : Nat) : Int)) (by omega) (by omega)) ?_
      refine p1 rfl ?_
      refine D_end ?_
      refine x_then ?_
      refine pk_Event (r := (⟨kk, (markS (kk + 1)), ⟨(markS ((kk + 1) + 1)), mkSs (((kk + 1) + 1) + 1) x3.Fact.Args⟩⟩ : Event)) ?_
      refine D_put ?_
      refine D_eq 0 rfl (show ((mapAt fEv cEv k a i).set i (⟨kk, (markS (kk + 1)), ⟨(markS ((kk + 1) + 1)), mkSs (((kk + 1) + 1) + 1) x3.Fact.Args⟩⟩ : Event) : (List Event)) = mapAt fEv cEv k a (i + 1) from by exact mk_set hi hx4 hk rfl) ?_
      refine fun ac w' hf hs => ⟨_, ?_, i + 1, ((((kk + 1) + 1) + 1) + x3.Fact.Args.length), ?_, ?_, rfl, hf.weak ⟨rfl, rfl, rfl, trivial⟩, hs⟩
      · omega
      · first | assumption | omega | simp
      · omega
    · have pr2 : ¬ (((i : Nat) : Int) : Int) < (((mapAt fEv cEv k a i).length : Nat) : Int) := of_decide_eq_false h2
      refine C_exit ?_
      refine x_then_exit ?_
      refine x_then_exit ?_
      refine x_blk_eq ?_
      refine x_then ?_
      refine C_seq ?_
      refine C_reg ?_
      refine p1 rfl <| p1 rfl ?_
      refine D_end ?_
      refine x_then ?_
      refine C_ret ?_
      refine D_eq 0 rfl (show (mapAt fEv cEv k a i : (List Event)) = mapS fEv cEv k a from by exact mapAt_done (by omega)) ?_
      refine R_1 rfl rfl fun w' hs => ⟨congrArg (fun z => Ending.returned (Value.int .i64 z)) ?_, hs⟩
      show (kk : Int) = k + sumC cEv a
      rw [List.take_of_length_le (by omega)] at hk; exact hk

theorem laws_heldEventS (w : World) (v_a : Value) (a : (List Event)) (k : Int) (h_a : Gd.rd w [v_a] a) (h0 : 0 ≤ k) (h1 : k + sumC cEv a ≤ 4611686018427387904) (he : a = mapS fEv cEv k a) : Calls Tryz.prog 32 [v_a, (.int .i64 k)].toArray w (Val w (.int .i64 (k + sumC cEv a))) := by
  have hm1 := rd_max h_a
  refine enter 53 Tryz.func32 rfl rfl rfl ?_
  refine C_seq ?_
  refine C_reg ?_
  refine p1 rfl ?_
  refine D_end ?_
  refine x_then ?_
  refine C_seq ?_
  refine C_seq ?_
  refine C_reg ?_
  refine p1 rfl ?_
  refine D_end ?_
  refine x_then ?_
  refine C_block ?_
  refine C_loop (fun m_ ac w' => ∃ (i : Nat), ∃ (kk : Int), (i ≤ a.length) ∧ (kk = k + sumC cEv (a.take i)) ∧ m_ = a.length - i ∧ Fits ac 53 [(0, v_a), (1, (.int .i64 kk)), (5, (.int .i64 ((i : Nat) : Int)))] ∧ St w ([]) w') ?_ ?_
  · refine fun ac w' hf hs => ⟨_, 0, k, ?_, ?_, rfl, hf.weak ⟨rfl, rfl, rfl, trivial⟩, hs⟩
    · first | assumption | omega | simp
    · simp [sumC]
  · rintro m_ ac w' ⟨i, kk, hi, hk, rfl, hf, hs⟩
    refine D.use ?_ hf hs
    clear hf hs ac w'
    have htk := sumC_take_le a cEv i
    refine C_seq ?_
    refine C_seq ?_
    refine C_reg ?_
    refine p1 rfl <| p1 rfl ?_
    refine q1 rfl (D_len s_27 rfl rfl (rd_sl h_a)) ?_
    refine p1 rfl ?_
    refine D_end ?_
    refine x_then ?_
    refine C_if _ rfl (fun h2 => ?_) (fun h2 => ?_)
    · have pr2 : (((i : Nat) : Int) : Int) < ((a.length : Nat) : Int) := of_decide_eq_true h2
      refine C_skip ?_
      refine x_then ?_
      refine C_seq ?_
      refine C_block ?_
      refine C_seq ?_
      refine C_seq ?_
      refine C_reg ?_
      refine p1 rfl <| p1 rfl ?_
      obtain ⟨x3, hx4⟩ := some_of_lt (l := a) (i := i) (by omega)
      obtain ⟨es5, at6, hr7⟩ := rd_elem (n := 4) rfl h_a hx4
      obtain ⟨u9, rfl, hu10⟩ := open_Event hr7
      have hm11 := rd_max hu10
      have hb12 := sub_Event_Fact hr7
      refine q1 rfl (D_ix (l := a) (j := i) s_27 rfl rfl rfl (fun w' hs => (rd_at hs h_a)) rfl (lt_of_some hx4)) ?_
      have hfx := mapS_fix he hx4
      rw [← hk] at hfx
      have hF0 : x3.Kind = kk := congrArg (fun y => y.Kind) hfx
      have hF1 : x3.Rule = markS (kk + 1) := congrArg (fun y => y.Rule) hfx
      have hF2 : x3.Fact.Rel = markS (kk + 1 + 1) := congrArg (fun y => y.Fact.Rel) hfx
      have hF3 : x3.Fact.Args = mkSs (kk + 1 + 1 + 1) x3.Fact.Args := congrArg (fun y => y.Fact.Args) hfx
      have hstep := mk_stepH (c := cEv) hx4 hk
      have hcc : cEv x3 = 3 + x3.Fact.Args.length := rfl
      refine q1 rfl (D_fa f_79_0 rfl rfl) ?_
      refine q1 rfl (lr o_3 rfl rfl at6 rfl) ?_
      refine p1 rfl <| p1 rfl ?_
      refine D_end ?_
      refine x_then ?_
      refine C_if _ rfl (fun h13 => ?_) (fun h13 => ?_)
      · have pr13 : (x3.Kind : Int) ≠ kk := bne_iff_ne.1 h13
        refine C_seq ?_
        refine C_reg ?_
        refine p1 rfl ?_
        refine D_end ?_
        refine x_then ?_
        refine C_ret ?_
        refine x_then_ret ?_
        refine x_blk_ret ?_
        refine x_then_ret ?_
        refine x_then_ret ?_
        refine x_blk_ret ?_
        refine x_then_ret ?_
        refine R_1 rfl rfl fun w' hs => ⟨congrArg (fun z => Ending.returned (Value.int .i64 z)) ?_, hs.bel⟩
        show ((-1) : Int) = k + sumC cEv a
        first | (exfalso; contradiction) | (exfalso; omega) | (rw [List.take_of_length_le (by omega)] at hk; exact hk)
      · have pr13 : (x3.Kind : Int) = kk := eq_of_bne_f h13
        refine C_skip ?_
        refine x_then ?_
        refine C_seq ?_
        refine C_reg ?_
        refine p1 rfl ?_
        refine q1 rfl (D_add rfl rfl rfl rfl (by omega)) ?_
        refine p1 rfl ?_
        refine D_end ?_
        refine x_then ?_
        refine C_seq ?_
        refine C_seq ?_
        refine C_draw mixed [] (by kernel_rfl) ?_
        refine tk 0 rfl (by kernel_rfl) (by kernel_rfl) (by kernel_rfl) rfl (fun _ hs => hs) (rp rfl) ?_
        refine tk 1 rfl (by kernel_rfl) (by kernel_rfl) (by kernel_rfl) rfl (fun _ hs => hs) (rp rfl) ?_
        refine tk 2 rfl (by kernel_rfl) (by kernel_rfl) (by kernel_rfl) rfl (fun _ hs => hs) (D_ix (l := a) (j := i) s_27 rfl rfl rfl (fun w' hs => (rd_at hs h_a)) rfl (lt_of_some hx4)) ?_
        refine tk 3 rfl (by kernel_rfl) (by kernel_rfl) (by kernel_rfl) rfl (fun _ hs => hs) (D_fa f_79_1 rfl rfl) ?_
        refine tk 4 rfl (by kernel_rfl) (by kernel_rfl) (by kernel_rfl) rfl (fun _ hs => hs) (lr o_9 rfl rfl at6 rfl) ?_
        refine tk 5 rfl (by kernel_rfl) (by kernel_rfl) (by kernel_rfl) rfl (fun _ hs => hs) (rp rfl) ?_
        refine ty 6 rfl (by kernel_rfl) rfl (cv b_23 rfl rfl rfl rfl (fun w' hs => (laws_markText w' (kk + 1) (by first | assumption | omega | (unfold szm at *; split at * <;> omega)))) ?_)
        refine tS (fun _ hs => hs) ?_
        refine tk 7 rfl (by kernel_rfl) (by kernel_rfl) (by kernel_rfl) rfl (fun _ hs => hs) (D_neS rfl rfl rfl) ?_
        refine tE (by kernel_rfl) ?_
        refine x_then ?_
        refine D_weak [(0, v_a), (1, (.int .i64 (kk + 1))), (5, (.int .i64 ((i : Nat) : Int))), (28, (.bool (!(decide ((x3.Rule : ByteArray) = (markS (kk + 1)))))))] ⟨rfl, rfl, rfl, rfl, trivial⟩ ?_
        refine C_if _ rfl (fun h14 => ?_) (fun h14 => ?_)
        · have pr14 : ¬ (x3.Rule : ByteArray) = (markS (kk + 1)) := of_decide_eq_false (not_t h14)
          refine C_seq ?_
          refine C_reg ?_
          refine p1 rfl ?_
          refine D_end ?_
          refine x_then ?_
          refine C_ret ?_
          refine x_then_ret ?_
          refine x_blk_ret ?_
          refine x_then_ret ?_
          refine x_then_ret ?_
          refine x_blk_ret ?_
          refine x_then_ret ?_
          refine R_1 rfl rfl fun w' hs => ⟨congrArg (fun z => Ending.returned (Value.int .i64 z)) ?_, hs.bel⟩
          show ((-1) : Int) = k + sumC cEv a
          first | (exfalso; contradiction) | (exfalso; omega) | (rw [List.take_of_length_le (by omega)] at hk; exact hk)
        · have pr14 : (x3.Rule : ByteArray) = (markS (kk + 1)) := of_decide_eq_true (not_f h14)
          refine C_skip ?_
          refine x_then ?_
          refine C_seq ?_
          refine C_reg ?_
          refine p1 rfl ?_
          refine q1 rfl (D_add rfl rfl rfl rfl (by omega)) ?_
          refine p1 rfl ?_
          refine D_end ?_
          refine x_then ?_
          refine C_seq ?_
          refine C_seq ?_
          refine C_draw mixed [] (by kernel_rfl) ?_
          refine tk 0 rfl (by kernel_rfl) (by kernel_rfl) (by kernel_rfl) rfl (fun _ hs => hs) (rp rfl) ?_
          refine tk 1 rfl (by kernel_rfl) (by kernel_rfl) (by kernel_rfl) rfl (fun _ hs => hs) (rp rfl) ?_
          refine tk 2 rfl (by kernel_rfl) (by kernel_rfl) (by kernel_rfl) rfl (fun _ hs => hs) (D_ix (l := a) (j := i) s_27 rfl rfl rfl (fun w' hs => (rd_at hs h_a)) rfl (lt_of_some hx4)) ?_
          refine tk 3 rfl (by kernel_rfl) (by kernel_rfl) (by kernel_rfl) rfl (fun _ hs => hs) (D_fa f_79_2 rfl rfl) ?_
          refine tk 4 rfl (by kernel_rfl) (by kernel_rfl) (by kernel_rfl) rfl (fun _ hs => hs) (D_fa' f_70_0 rfl rfl (q := 2) rfl) ?_
          refine tk 5 rfl (by kernel_rfl) (by kernel_rfl) (by kernel_rfl) rfl (fun _ hs => hs) (lr o_9 rfl rfl at6 rfl) ?_
          refine tk 6 rfl (by kernel_rfl) (by kernel_rfl) (by kernel_rfl) rfl (fun _ hs => hs) (rp rfl) ?_
          refine ty 7 rfl (by kernel_rfl) rfl (cv b_23 rfl rfl rfl rfl (fun w' hs => (laws_markText w' ((kk + 1) + 1) (by first | assumption | omega | (unfold szm at *; split at * <;> omega)))) ?_)
          refine tS (fun _ hs => hs) ?_
          refine tk 8 rfl (by kernel_rfl) (by kernel_rfl) (by kernel_rfl) rfl (fun _ hs => hs) (D_neS rfl rfl rfl) ?_
          refine tE (by kernel_rfl) ?_
          refine x_then ?_
          refine C_if _ rfl (fun h15 => ?_) (fun h15 => ?_)
          · have pr15 : ¬ (x3.Fact.Rel : ByteArray) = (markS ((kk + 1) + 1)) := of_decide_eq_false (not_t h15)
            refine C_seq ?_
            refine C_reg ?_
            refine p1 rfl ?_
            refine D_end ?_
            refine x_then ?_
            refine D_weak [(4, (.int .i64 (-1)))] ⟨rfl, trivial⟩ ?_
            refine C_ret ?_
            refine x_then_ret ?_
            refine x_blk_ret ?_
            refine x_then_ret ?_
            refine x_then_ret ?_
            refine x_blk_ret ?_
            refine x_then_ret ?_
            refine R_1 rfl rfl fun w' hs => ⟨congrArg (fun z => Ending.returned (Value.int .i64 z)) ?_, hs.bel⟩
            show ((-1) : Int) = k + sumC cEv a
            first | (exfalso; contradiction) | (exfalso; omega) | (rw [List.take_of_length_le (by omega)] at hk; exact hk)
          · have pr15 : (x3.Fact.Rel : ByteArray) = (markS ((kk + 1) + 1)) := of_decide_eq_true (not_f h15)
            refine C_skip ?_
            refine x_then ?_
            refine C_seq ?_
            refine C_reg ?_
            refine p1 rfl ?_
            refine q1 rfl (D_add rfl rfl rfl rfl (by omega)) ?_
            refine p1 rfl ?_
            refine D_end ?_
            refine x_then ?_
            refine C_seq ?_
            refine C_reg ?_
            refine p1 rfl <| p1 rfl ?_
            refine q1 rfl (D_ix (l := a) (j := i) s_27 rfl rfl rfl (fun w' hs => (rd_at hs h_a)) rfl (lt_of_some hx4)) ?_
            refine q1 rfl (D_fa f_79_2 rfl rfl) ?_
            refine q1 rfl (D_fa' f_70_1 rfl rfl (q := 3) rfl) ?_
            refine q1 rfl (lr o_68 rfl rfl at6 rfl) ?_
            refine p1 rfl ?_
            refine li rfl (cv b_52 rfl rfl rfl rfl (fun w' hs => (laws_heldStringS w' u9 x3.Fact.Args (((kk + 1) + 1) + 1) (rd_at hs hu10) (by first | assumption | omega | (unfold szm at *; split at * <;> omega)) (by first | assumption | omega | (unfold szm at *; split at * <;> omega)) (by first | assumption | omega | (unfold szm at *; split at * <;> omega)))) ?_)
            refine p1 rfl ?_
            refine D_end ?_
            refine x_then ?_
            refine D_weak [(0, v_a), (1, (.int .i64 ((((kk + 1) + 1) + 1) + x3.Fact.Args.length))), (5, (.int .i64 ((i : Nat) : Int)))] ⟨rfl, rfl, rfl, trivial⟩ ?_
            refine C_seq ?_
            refine C_reg ?_
            refine p1 rfl <| p1 rfl ?_
            refine D_end ?_
            refine x_then ?_
            refine C_if _ rfl (fun h16 => ?_) (fun h16 => ?_)
            · have pr16 : (((((kk + 1) + 1) + 1) + x3.Fact.Args.length) : Int) < 0 := of_decide_eq_true h16
              refine C_seq ?_
              refine C_reg ?_
              refine p1 rfl ?_
              refine D_end ?_
              refine x_then ?_
              refine C_ret ?_
              refine x_blk_ret ?_
              refine x_then_ret ?_
              refine x_then_ret ?_
              refine x_blk_ret ?_
              refine x_then_ret ?_
              refine R_1 rfl rfl fun w' hs => ⟨congrArg (fun z => Ending.returned (Value.int .i64 z)) ?_, hs.bel⟩
              show ((-1) : Int) = k + sumC cEv a
              first | (exfalso; contradiction) | (exfalso; omega) | (rw [List.take_of_length_le (by omega)] at hk; exact hk)
            · have pr16 : ¬ (((((kk + 1) + 1) + 1) + x3.Fact.Args.length) : Int) < 0 := of_decide_eq_false h16
              refine C_skip ?_
              refine x_blk ?_
              refine x_then ?_
              refine C_reg ?_
              refine p1 rfl ?_
              refine q1 rfl (D_add rfl rfl rfl (r := ((i + 1 : Nat) : Int)) (by omega) (by omega)) ?_
              refine p1 rfl ?_
              refine D_end ?_
              refine x_then ?_
              refine fun ac w' hf hs => ⟨_, ?_, i + 1, ((((kk + 1) + 1) + 1) + x3.Fact.Args.length), ?_, ?_, rfl, hf.weak ⟨rfl, rfl, rfl, trivial⟩, hs⟩
              · omega
              · first | assumption | omega | simp
              · omega
    · have pr2 : ¬ (((i : Nat) : Int) : Int) < ((a.length : Nat) : Int) := of_decide_eq_false h2
      refine C_exit ?_
      refine x_then_exit ?_
      refine x_then_exit ?_
      refine x_blk_eq ?_
      refine x_then ?_
      refine C_seq ?_
      refine C_reg ?_
      refine p1 rfl <| p1 rfl ?_
      refine D_end ?_
      refine x_then ?_
      refine C_ret ?_
      refine R_1 rfl rfl fun w' hs => ⟨congrArg (fun z => Ending.returned (Value.int .i64 z)) ?_, hs.bel⟩
      show (kk : Int) = k + sumC cEv a
      first | (exfalso; contradiction) | (exfalso; omega) | (rw [List.take_of_length_le (by omega)] at hk; exact hk)

theorem laws_markEngine (w0 : World) (Hs : List Chunk) (w : World) (c_a : List Value) (a : Engine) (k : Int) (h0 : 0 ≤ k) (h1 : k + cEn a ≤ 4611686018427387904) (hst : St w0 (ov c_a (a : Engine) :: Hs) w) : Calls Tryz.prog 11 [(.agg c_a.toArray), (.int .i64 k)].toArray w (fun e w' => e = .returned (.int .i64 (k + cEn a)) ∧ St w0 (ov c_a (mkE k a : Engine) :: Hs) w') := by
  obtain ⟨v1, v2, v3, v4, rfl, ho_v1, ho_v2, ho_v3, ho_v4⟩ := shape_Engine (rd_own (k := 0) hst rfl)
  have hce : cEn a = sumC cRu a.Rules + sumC cSt a.Memory + sumC cFi a.Fired + sumC cEv a.Log := rfl
  refine enterS 22 Tryz.func11 rfl rfl rfl hst ?_
  refine C_seq ?_
  refine C_reg ?_
  refine li rfl (D_box rfl rfl rfl rfl rfl fun g5 => ?_)
  refine p1 rfl ?_
  refine D_end ?_
  refine x_then ?_
  refine D_H (bx g5 [v1, v2, (.int .i64 a.Clock), v3, (.bool a.Halted), v4] :: ov [v1, v2, (.int .i64 a.Clock), v3, (.bool a.Halted), v4] (a : Engine) :: Hs) rfl ?_
  refine C_seq ?_
  refine C_reg ?_
  refine q1 rfl (D_fb f_29_0 rfl rfl (q := 0) rfl) ?_
  refine q1 rfl (lb 0 o_24 rfl rfl rfl rfl) ?_
  refine p1 rfl ?_
  refine D_fd [1] 0 rfl ?_
  refine D_unpair (α := (List Rule)) (β := (List Stamp) × Int × (List Firing) × Bool × (List Event)) (c1 := [v1]) (c2 := [v2, (.int .i64 a.Clock), v3, (.bool a.Halted), v4]) (x := a.Rules) (y := (a.Memory, a.Clock, a.Fired, a.Halted, a.Log)) rfl rfl ?_
  refine D_fd [1] 0 rfl ?_
  refine D_unpair (α := (List Stamp)) (β := Int × (List Firing) × Bool × (List Event)) (c1 := [v2]) (c2 := [(.int .i64 a.Clock), v3, (.bool a.Halted), v4]) (x := a.Memory) (y := (a.Clock, a.Fired, a.Halted, a.Log)) rfl rfl ?_
  refine D_fd [1] 0 rfl ?_
  refine D_unpair (α := Int) (β := (List Firing) × Bool × (List Event)) (c1 := [(.int .i64 a.Clock)]) (c2 := [v3, (.bool a.Halted), v4]) (x := a.Clock) (y := (a.Fired, a.Halted, a.Log)) rfl rfl ?_
  refine D_fd [] 1 rfl ?_
  refine D_unpair (α := (List Firing)) (β := Bool × (List Event)) (c1 := [v3]) (c2 := [(.bool a.Halted), v4]) (x := a.Fired) (y := (a.Halted, a.Log)) rfl rfl ?_
  refine D_fd [1] 0 rfl ?_
  refine D_unpair (α := Bool) (β := (List Event)) (c1 := [(.bool a.Halted)]) (c2 := [v4]) (x := a.Halted) (y := (a.Log)) rfl rfl ?_
  refine D_fd [] 1 rfl ?_
  refine D_fd [3] 0 rfl ?_
  refine li rfl (cm b_10 rfl rfl rfl rfl (fun w' hs => laws_markRuleS _ _ w' v1 a.Rules k (by first | assumption | omega | (simp only; omega)) (by first | assumption | omega | (simp only; omega)) hs) ?_)
  refine p1 rfl ?_
  refine D_end ?_
  refine x_then ?_
  refine D_H (ov [v1] (mapS fRu cRu k a.Rules : (List Rule)) :: ov [v4] (a.Log : (List Event)) :: ov [v3] (a.Fired : (List Firing)) :: ov [v2] (a.Memory : (List Stamp)) :: bx g5 [v1, v2, (.int .i64 a.Clock), v3, (.bool a.Halted), v4] :: Hs) rfl ?_
  refine C_seq ?_
  refine C_reg ?_
  refine q1 rfl (D_fb f_29_1 rfl rfl (q := 1) rfl) ?_
  refine q1 rfl (lb 4 o_25 rfl rfl rfl rfl) ?_
  refine p1 rfl ?_
  refine D_fd [3] 0 rfl ?_
  refine li rfl (cm b_26 rfl rfl rfl rfl (fun w' hs => laws_markStampS _ _ w' v2 a.Memory (k + sumC cRu a.Rules) (by first | assumption | omega | (simp only; omega)) (by first | assumption | omega | (simp only; omega)) hs) ?_)
  refine p1 rfl ?_
  refine D_end ?_
  refine x_then ?_
  refine D_H (ov [v2] (mapS fSt cSt (k + sumC cRu a.Rules) a.Memory : (List Stamp)) :: ov [v1] (mapS fRu cRu k a.Rules : (List Rule)) :: ov [v4] (a.Log : (List Event)) :: ov [v3] (a.Fired : (List Firing)) :: bx g5 [v1, v2, (.int .i64 a.Clock), v3, (.bool a.Halted), v4] :: Hs) rfl ?_
  refine C_seq ?_
  refine C_reg ?_
  refine q1 rfl (D_fb f_29_3 rfl rfl (q := 3) rfl) ?_
  refine q1 rfl (lb 4 o_26 rfl rfl rfl rfl) ?_
  refine p1 rfl ?_
  refine D_fd [3] 0 rfl ?_
  refine li rfl (cm b_27 rfl rfl rfl rfl (fun w' hs => laws_markFiringS _ _ w' v3 a.Fired ((k + sumC cRu a.Rules) + sumC cSt a.Memory) (by first | assumption | omega | (simp only; omega)) (by first | assumption | omega | (simp only; omega)) hs) ?_)
  refine p1 rfl ?_
  refine D_end ?_
  refine x_then ?_
  refine D_H (ov [v3] (mapS fFi cFi ((k + sumC cRu a.Rules) + sumC cSt a.Memory) a.Fired : (List Firing)) :: ov [v2] (mapS fSt cSt (k + sumC cRu a.Rules) a.Memory : (List Stamp)) :: ov [v1] (mapS fRu cRu k a.Rules : (List Rule)) :: ov [v4] (a.Log : (List Event)) :: bx g5 [v1, v2, (.int .i64 a.Clock), v3, (.bool a.Halted), v4] :: Hs) rfl ?_
  refine C_seq ?_
  refine C_reg ?_
  refine q1 rfl (D_fb f_29_5 rfl rfl (q := 5) rfl) ?_
  refine q1 rfl (lb 4 o_27 rfl rfl rfl rfl) ?_
  refine p1 rfl ?_
  refine D_fd [3] 0 rfl ?_
  refine li rfl (cm b_28 rfl rfl rfl rfl (fun w' hs => laws_markEventS _ _ w' v4 a.Log (((k + sumC cRu a.Rules) + sumC cSt a.Memory) + sumC cFi a.Fired) (by first | assumption | omega | (simp only; omega)) (by first | assumption | omega | (simp only; omega)) hs) ?_)
  refine p1 rfl ?_
  refine D_end ?_
  refine x_then ?_
  refine D_weak [(1, (.int .i64 ((((k + sumC cRu a.Rules) + sumC cSt a.Memory) + sumC cFi a.Fired) + sumC cEv a.Log)))] ⟨rfl, trivial⟩ ?_
  refine D_H (ov [v4] (mapS fEv cEv (((k + sumC cRu a.Rules) + sumC cSt a.Memory) + sumC cFi a.Fired) a.Log : (List Event)) :: ov [v3] (mapS fFi cFi ((k + sumC cRu a.Rules) + sumC cSt a.Memory) a.Fired : (List Firing)) :: ov [v2] (mapS fSt cSt (k + sumC cRu a.Rules) a.Memory : (List Stamp)) :: ov [v1] (mapS fRu cRu k a.Rules : (List Rule)) :: bx g5 [v1, v2, (.int .i64 a.Clock), v3, (.bool a.Halted), v4] :: Hs) rfl ?_
  refine C_seq ?_
  refine C_reg ?_
  refine p1 rfl <| p1 rfl ?_
  refine D_end ?_
  refine x_then ?_
  refine C_ret ?_
  refine D_fd [0, 1, 2, 3] 0 rfl ?_
  refine pk_Engine (r := (⟨mapS fRu cRu k a.Rules, mapS fSt cSt (k + sumC cRu a.Rules) a.Memory, a.Clock, mapS fFi cFi ((k + sumC cRu a.Rules) + sumC cSt a.Memory) a.Fired, a.Halted, mapS fEv cEv (((k + sumC cRu a.Rules) + sumC cSt a.Memory) + sumC cFi a.Fired) a.Log⟩ : Engine)) ?_
  refine D_eq 0 rfl (show ((⟨mapS fRu cRu k a.Rules, mapS fSt cSt (k + sumC cRu a.Rules) a.Memory, a.Clock, mapS fFi cFi ((k + sumC cRu a.Rules) + sumC cSt a.Memory) a.Fired, a.Halted, mapS fEv cEv (((k + sumC cRu a.Rules) + sumC cSt a.Memory) + sumC cFi a.Fired) a.Log⟩ : Engine) : Engine) = mkE k a from by rfl) ?_
  refine R_1 rfl rfl fun w' hs => ⟨congrArg (fun z => Ending.returned (Value.int .i64 z)) ?_, hs.fd [0, 1] 1 rfl⟩
  show (((((k + sumC cRu a.Rules) + sumC cSt a.Memory) + sumC cFi a.Fired) + sumC cEv a.Log) : Int) = k + cEn a
  omega

theorem laws_heldEngine (w : World) (c_a : List Value) (a : Engine) (k : Int) (h_a : Gd.rd w c_a a) (h0 : 0 ≤ k) (h1 : k + cEn a ≤ 4611686018427387904) (he : a = mkE k a) : Calls Tryz.prog 12 [(.agg c_a.toArray), (.int .i64 k)].toArray w (Val w (.int .i64 (k + cEn a))) := by
  obtain ⟨u1, u3, u5, u7, rfl, hu2, hu4, hu6, hu8⟩ := open_Engine h_a
  have hm9 := rd_max hu2
  have hm10 := rd_max hu4
  have hm11 := rd_max hu6
  have hm12 := rd_max hu8
  have hce : cEn a = sumC cRu a.Rules + sumC cSt a.Memory + sumC cFi a.Fired + sumC cEv a.Log := rfl
  have hF1 : a.Rules = mkRu k a.Rules := congrArg (fun y => y.Rules) he
  have hF2 : a.Memory = mkSt (k + sumC cRu a.Rules) a.Memory := congrArg (fun y => y.Memory) he
  have hF3 : a.Fired = mkFi (k + sumC cRu a.Rules + sumC cSt a.Memory) a.Fired := congrArg (fun y => y.Fired) he
  have hF4 : a.Log = mkEv (k + sumC cRu a.Rules + sumC cSt a.Memory + sumC cFi a.Fired) a.Log := congrArg (fun y => y.Log) he
  refine enter 30 Tryz.func12 rfl rfl rfl ?_
  refine C_seq ?_
  refine C_reg ?_
  refine li rfl (D_box rfl rfl rfl rfl rfl fun g13 => ?_)
  refine p1 rfl ?_
  refine D_end ?_
  refine x_then ?_
  refine D_H ([bx g13 [u1, u3, (.int .i64 a.Clock), u5, (.bool a.Halted), u7]]) rfl ?_
  refine C_seq ?_
  refine C_reg ?_
  refine q1 rfl (D_fb f_29_0 rfl rfl (q := 0) rfl) ?_
  refine q1 rfl (lb 0 o_24 rfl rfl rfl rfl) ?_
  refine p1 rfl ?_
  refine li rfl (cv b_29 rfl rfl rfl rfl (fun w' hs => (laws_heldRuleS w' u1 a.Rules k (rd_at hs hu2) (by first | assumption | omega | (unfold szm at *; split at * <;> omega)) (by first | assumption | omega | (unfold szm at *; split at * <;> omega)) (by first | assumption | omega | (unfold szm at *; split at * <;> omega)))) ?_)
  refine p1 rfl ?_
  refine D_end ?_
  refine x_then ?_
  refine C_seq ?_
  refine C_seq ?_
  refine C_reg ?_
  refine p1 rfl <| p1 rfl ?_
  refine D_end ?_
  refine x_then ?_
  refine C_if _ rfl (fun h14 => ?_) (fun h14 => ?_)
  · have pr14 : ((k + sumC cRu a.Rules) : Int) < 0 := of_decide_eq_true h14
    refine C_seq ?_
    refine C_reg ?_
    refine p1 rfl ?_
    refine D_end ?_
    refine x_then ?_
    refine C_ret ?_
    refine x_then_ret ?_
    refine R_1 rfl rfl fun w' hs => ⟨congrArg (fun z => Ending.returned (Value.int .i64 z)) ?_, hs.bel⟩
    show ((-1) : Int) = k + cEn a
    first | (exfalso; omega) | omega
  · have pr14 : ¬ ((k + sumC cRu a.Rules) : Int) < 0 := of_decide_eq_false h14
    refine C_skip ?_
    refine x_then ?_
    refine C_seq ?_
    refine C_reg ?_
    refine q1 rfl (D_fb f_29_1 rfl rfl (q := 1) rfl) ?_
    refine q1 rfl (lb 0 o_25 rfl rfl rfl rfl) ?_
    refine p1 rfl ?_
    refine li rfl (cv b_30 rfl rfl rfl rfl (fun w' hs => (laws_heldStampS w' u3 a.Memory (k + sumC cRu a.Rules) (rd_at hs hu4) (by first | assumption | omega | (unfold szm at *; split at * <;> omega)) (by first | assumption | omega | (unfold szm at *; split at * <;> omega)) (by first | assumption | omega | (unfold szm at *; split at * <;> omega)))) ?_)
    refine p1 rfl ?_
    refine D_end ?_
    refine x_then ?_
    refine C_seq ?_
    refine C_seq ?_
    refine C_reg ?_
    refine p1 rfl <| p1 rfl ?_
    refine D_end ?_
    refine x_then ?_
    refine C_if _ rfl (fun h15 => ?_) (fun h15 => ?_)
    · have pr15 : (((k + sumC cRu a.Rules) + sumC cSt a.Memory) : Int) < 0 := of_decide_eq_true h15
      refine C_seq ?_
      refine C_reg ?_
      refine p1 rfl ?_
      refine D_end ?_
      refine x_then ?_
      refine D_weak [(4, (.int .i64 (-1)))] ⟨rfl, trivial⟩ ?_
      refine D_sel (H' := []) [false] rfl ?_
      refine C_ret ?_
      refine x_then_ret ?_
      refine R_1 rfl rfl fun w' hs => ⟨congrArg (fun z => Ending.returned (Value.int .i64 z)) ?_, hs.bel⟩
      show ((-1) : Int) = k + cEn a
      first | (exfalso; omega) | omega
    · have pr15 : ¬ (((k + sumC cRu a.Rules) + sumC cSt a.Memory) : Int) < 0 := of_decide_eq_false h15
      refine C_skip ?_
      refine x_then ?_
      refine C_seq ?_
      refine C_reg ?_
      refine q1 rfl (D_fb f_29_3 rfl rfl (q := 3) rfl) ?_
      refine q1 rfl (lb 0 o_26 rfl rfl rfl rfl) ?_
      refine p1 rfl ?_
      refine li rfl (cv b_31 rfl rfl rfl rfl (fun w' hs => (laws_heldFiringS w' u5 a.Fired ((k + sumC cRu a.Rules) + sumC cSt a.Memory) (rd_at hs hu6) (by first | assumption | omega | (unfold szm at *; split at * <;> omega)) (by first | assumption | omega | (unfold szm at *; split at * <;> omega)) (by first | assumption | omega | (unfold szm at *; split at * <;> omega)))) ?_)
      refine p1 rfl ?_
      refine D_end ?_
      refine x_then ?_
      refine D_weak [(1, (.int .i64 (((k + sumC cRu a.Rules) + sumC cSt a.Memory) + sumC cFi a.Fired))), (2, (.pointer (some ⟨g13, 0, none⟩)))] ⟨rfl, rfl, trivial⟩ ?_
      refine C_seq ?_
      refine C_seq ?_
      refine C_reg ?_
      refine p1 rfl <| p1 rfl ?_
      refine D_end ?_
      refine x_then ?_
      refine C_if _ rfl (fun h16 => ?_) (fun h16 => ?_)
      · have pr16 : ((((k + sumC cRu a.Rules) + sumC cSt a.Memory) + sumC cFi a.Fired) : Int) < 0 := of_decide_eq_true h16
        refine C_seq ?_
        refine C_reg ?_
        refine p1 rfl ?_
        refine D_end ?_
        refine x_then ?_
        refine C_ret ?_
        refine x_then_ret ?_
        refine R_1 rfl rfl fun w' hs => ⟨congrArg (fun z => Ending.returned (Value.int .i64 z)) ?_, hs.bel⟩
        show ((-1) : Int) = k + cEn a
        first | (exfalso; omega) | omega
      · have pr16 : ¬ ((((k + sumC cRu a.Rules) + sumC cSt a.Memory) + sumC cFi a.Fired) : Int) < 0 := of_decide_eq_false h16
        refine C_skip ?_
        refine x_then ?_
        refine C_seq ?_
        refine C_reg ?_
        refine q1 rfl (D_fb f_29_5 rfl rfl (q := 5) rfl) ?_
        refine q1 rfl (lb 0 o_27 rfl rfl rfl rfl) ?_
        refine p1 rfl ?_
        refine li rfl (cv b_32 rfl rfl rfl rfl (fun w' hs => (laws_heldEventS w' u7 a.Log (((k + sumC cRu a.Rules) + sumC cSt a.Memory) + sumC cFi a.Fired) (rd_at hs hu8) (by first | assumption | omega | (unfold szm at *; split at * <;> omega)) (by first | assumption | omega | (unfold szm at *; split at * <;> omega)) (by first | assumption | omega | (unfold szm at *; split at * <;> omega)))) ?_)
        refine p1 rfl ?_
        refine D_end ?_
        refine x_then ?_
        refine C_seq ?_
        refine C_seq ?_
        refine C_reg ?_
        refine p1 rfl <| p1 rfl ?_
        refine D_end ?_
        refine x_then ?_
        refine C_if _ rfl (fun h17 => ?_) (fun h17 => ?_)
        · have pr17 : (((((k + sumC cRu a.Rules) + sumC cSt a.Memory) + sumC cFi a.Fired) + sumC cEv a.Log) : Int) < 0 := of_decide_eq_true h17
          refine C_seq ?_
          refine C_reg ?_
          refine p1 rfl ?_
          refine D_end ?_
          refine x_then ?_
          refine C_ret ?_
          refine x_then_ret ?_
          refine R_1 rfl rfl fun w' hs => ⟨congrArg (fun z => Ending.returned (Value.int .i64 z)) ?_, hs.bel⟩
          show ((-1) : Int) = k + cEn a
          first | (exfalso; omega) | omega
        · have pr17 : ¬ (((((k + sumC cRu a.Rules) + sumC cSt a.Memory) + sumC cFi a.Fired) + sumC cEv a.Log) : Int) < 0 := of_decide_eq_false h17
          refine C_skip ?_
          refine x_then ?_
          refine C_seq ?_
          refine C_reg ?_
          refine p1 rfl <| p1 rfl ?_
          refine D_end ?_
          refine x_then ?_
          refine C_ret ?_
          refine R_1 rfl rfl fun w' hs => ⟨congrArg (fun z => Ending.returned (Value.int .i64 z)) ?_, hs.bel⟩
          show (((((k + sumC cRu a.Rules) + sumC cSt a.Memory) + sumC cFi a.Fired) + sumC cEv a.Log) : Int) = k + cEn a
          first | (exfalso; omega) | omega

set_option maxHeartbeats 4000000 in
theorem laws_FnExactNewEngine (w : World) (v_aRules : Value) (aRules : (List Rule)) (h_aRules : Gd.rd w [v_aRules] aRules) (hok : okL okRule aRules) : Calls Tryz.prog 3 [v_aRules].toArray w (Val w (.bool (true))) := by
  have hm1 := rd_max h_aRules
  refine enter 96 Tryz.func3 rfl rfl rfl ?_
  refine C_seq ?_
  refine C_reg ?_
  refine p1 rfl ?_
  refine D_end ?_
  refine x_then ?_
  refine C_seq ?_
  refine C_reg ?_
  refine p1 rfl ?_
  refine D_end ?_
  refine x_then ?_
  refine C_seq ?_
  refine C_reg ?_
  refine p1 rfl <| p1 rfl ?_
  refine li rfl (cv b_4 rfl rfl rfl rfl (fun w' hs => (laws_szRuleS w' v_aRules aRules 1048576 (rd_at hs h_aRules) (by first | assumption | omega | (unfold szm at *; split at * <;> omega)) (by first | assumption | omega | (unfold szm at *; split at * <;> omega)) hok)) ?_)
  refine p1 rfl ?_
  refine D_end ?_
  refine x_then ?_
  refine C_seq ?_
  refine C_seq ?_
  refine C_reg ?_
  refine p1 rfl <| p1 rfl ?_
  refine D_end ?_
  refine x_then ?_
  refine C_if _ rfl (fun h2 => ?_) (fun h2 => ?_)
  · have pr2 : ((szm (szL szRule aRules) 1048576) : Int) < 0 := of_decide_eq_true h2
    refine C_seq ?_
    refine C_reg ?_
    refine p1 rfl ?_
    refine D_end ?_
    refine x_then ?_
    refine C_ret ?_
    refine x_then_ret ?_
    refine R_1 rfl rfl fun w' hs => ⟨congrArg (fun z => Ending.returned (Value.bool z)) ?_, hs.bel⟩
    show (true : Bool) = true
    first | rfl | (exfalso; omega) | (exfalso; simp only [cEn_mk] at *; omega) | exact absurd h2 (by simp)
  · have pr2 : ¬ ((szm (szL szRule aRules) 1048576) : Int) < 0 := of_decide_eq_false h2
    have pr2z := szm_val (n := (szL szRule aRules)) (left := 1048576) pr2
    refine C_skip ?_
    refine x_then ?_
    refine C_seq ?_
    have hz1 : szL szRule aRules ≤ 1048576 := by unfold szm at *; split at * <;> omega
    have hz2 := cEn_new aRules
    have hz3 := cRu_sum aRules
    have hz4 := cEn_mk 1 (newE aRules)
    refine C_reg ?_
    refine p1 rfl ?_
    refine li rfl (crl b_6 rfl rfl rfl rfl (fun w' hs => (laws_toRuleS w' v_aRules aRules (rd_at hs h_aRules) (by first | assumption | omega | (unfold szm at *; split at * <;> omega)))) fun v3 => ?_)
    refine li rfl (cr2 b_5 rfl rfl rfl rfl (fun w' hs => (spec_NewEngine w' v3 aRules (rd_own (k := 0) hs rfl) (by first | assumption | omega | (unfold szm at *; split at * <;> omega)) hok)) fun cs4 cs5 => ?_)
    refine D_pre (fun w' hs => shape_Engine (rd_own (k := 0) hs rfl)) ?_
    rintro ⟨v6, v7, v8, v9, rfl, ho10, ho11, ho12, ho13⟩
    refine D_pre (fun w' hs => show cs5 = [(.bool (areRulesB aRules))] from rd_own (k := 1) hs rfl) ?_
    rintro rfl
    refine D_re 22 (v' := (.tuple #[(.agg #[v6, v7, (.int .i64 ((newE aRules).Clock)), v8, (.bool ((newE aRules).Halted)), v9]), (.bool (areRulesB aRules))])) rfl rfl rfl ?_
    refine D_pk (H' := [ov [v6, v7, (.int .i64 ((newE aRules).Clock)), v8, (.bool ((newE aRules).Halted)), v9] (newE aRules : Engine), ov [v3] (aRules : (List Rule))]) [0, 2] rfl rfl ?_
    refine p1 rfl <| p1 rfl <| p1 rfl ?_
    refine li rfl (D_alloc y_29 rfl rfl rfl rfl fun g14 => ?_)
    refine li rfl (D_stb (vs := [v6, v7, (.int .i64 ((newE aRules).Clock)), v8, (.bool ((newE aRules).Halted)), v9]) (cs' := [v6, v7, (.int .i64 ((newE aRules).Clock)), v8, (.bool ((newE aRules).Halted)), v9]) 0 z_29 rfl rfl rfl rfl rfl rfl (ocons ho10 (ocons ho11 (ocons rfl (ocons ho12 (ocons rfl (ocons ho13 onil)))))) (by simp) rfl ?_)
    refine p1 rfl ?_
    refine D_end ?_
    refine x_then ?_
    refine D_H ([bx g14 [v6, v7, (.int .i64 ((newE aRules).Clock)), v8, (.bool ((newE aRules).Halted)), v9], ov [v6, v7, (.int .i64 ((newE aRules).Clock)), v8, (.bool ((newE aRules).Halted)), v9] (newE aRules : Engine), ov [v3] (aRules : (List Rule))]) rfl ?_
    refine C_seq ?_
    refine C_reg ?_
    refine p1 rfl ?_
    refine li rfl (crl b_6 rfl rfl rfl rfl (fun w' hs => (laws_toRuleS w' v_aRules aRules (rd_at hs h_aRules) (by first | assumption | omega | (unfold szm at *; split at * <;> omega)))) fun v15 => ?_)
    refine p1 rfl ?_
    refine D_end ?_
    refine x_then ?_
    refine D_weak [(0, v_aRules), (4, (.pointer (some ⟨g14, 0, none⟩))), (5, (.bool (areRulesB aRules))), (6, v15)] ⟨rfl, rfl, rfl, rfl, trivial⟩ ?_
    refine D_sel (H' := [ov [v15] (aRules : (List Rule)), bx g14 [v6, v7, (.int .i64 ((newE aRules).Clock)), v8, (.bool ((newE aRules).Halted)), v9], ov [v6, v7, (.int .i64 ((newE aRules).Clock)), v8, (.bool ((newE aRules).Halted)), v9] (newE aRules : Engine)]) [true, true, true, false] rfl ?_
    refine C_seq ?_
    refine C_reg ?_
    refine p1 rfl ?_
    refine li rfl (cr2 b_7 rfl rfl rfl rfl (fun w' hs => (impl_NewEngine w' v15 aRules (rd_own (k := 0) hs rfl) (by first | assumption | omega | (unfold szm at *; split at * <;> omega)))) fun cs16 cs17 => ?_)
    refine D_pre (fun w' hs => shape_Engine (rd_own (k := 0) hs rfl)) ?_
    rintro ⟨v18, v19, v20, v21, rfl, ho22, ho23, ho24, ho25⟩
    refine D_pre (fun w' hs => show cs17 = [(.bool (areRulesB aRules))] from rd_own (k := 1) hs rfl) ?_
    rintro rfl
    refine D_re 29 (v' := (.tuple #[(.agg #[v18, v19, (.int .i64 ((newE aRules).Clock)), v20, (.bool ((newE aRules).Halted)), v21]), (.bool (areRulesB aRules))])) rfl rfl rfl ?_
    refine D_pk (H' := [ov [v18, v19, (.int .i64 ((newE aRules).Clock)), v20, (.bool ((newE aRules).Halted)), v21] (newE aRules : Engine), ov [v15] (aRules : (List Rule)), bx g14 [v6, v7, (.int .i64 ((newE aRules).Clock)), v8, (.bool ((newE aRules).Halted)), v9], ov [v6, v7, (.int .i64 ((newE aRules).Clock)), v8, (.bool ((newE aRules).Halted)), v9] (newE aRules : Engine)]) [0, 2, 3, 4] rfl rfl ?_
    refine p1 rfl <| p1 rfl <| p1 rfl ?_
    refine li rfl (D_alloc y_29 rfl rfl rfl rfl fun g26 => ?_)
    refine li rfl (D_stb (vs := [v18, v19, (.int .i64 ((newE aRules).Clock)), v20, (.bool ((newE aRules).Halted)), v21]) (cs' := [v18, v19, (.int .i64 ((newE aRules).Clock)), v20, (.bool ((newE aRules).Halted)), v21]) 0 z_29 rfl rfl rfl rfl rfl rfl (ocons ho22 (ocons ho23 (ocons rfl (ocons ho24 (ocons rfl (ocons ho25 onil)))))) (by simp) rfl ?_)
    refine p1 rfl ?_
    refine D_end ?_
    refine x_then ?_
    refine D_H ([bx g26 [v18, v19, (.int .i64 ((newE aRules).Clock)), v20, (.bool ((newE aRules).Halted)), v21], ov [v18, v19, (.int .i64 ((newE aRules).Clock)), v20, (.bool ((newE aRules).Halted)), v21] (newE aRules : Engine), ov [v15] (aRules : (List Rule)), bx g14 [v6, v7, (.int .i64 ((newE aRules).Clock)), v8, (.bool ((newE aRules).Halted)), v9], ov [v6, v7, (.int .i64 ((newE aRules).Clock)), v8, (.bool ((newE aRules).Halted)), v9] (newE aRules : Engine)]) rfl ?_
    refine C_seq ?_
    refine C_seq ?_
    refine C_reg ?_
    refine q1 rfl (lbw 0 a_29 rfl rfl rfl) ?_
    refine q1 rfl (lbw 3 a_29 rfl rfl rfl) ?_
    refine li rfl (cv b_8 rfl rfl rfl rfl (fun w' hs => (laws_eqEngine w' [v18, v19, (.int .i64 ((newE aRules).Clock)), v20, (.bool ((newE aRules).Halted)), v21] (newE aRules) [v6, v7, (.int .i64 ((newE aRules).Clock)), v8, (.bool ((newE aRules).Halted)), v9] (newE aRules) (rd_own (k := 1) hs rfl) (rd_own (k := 4) hs rfl))) ?_)
    refine p1 rfl <| p1 rfl ?_
    refine gs 36 rfl rfl (fun h27 => ?_) (fun h27 => ?_)
    · have h27n : (decide ((newE aRules) = (newE aRules))) = false := not_t h27
      refine n1 rfl ?_
      refine n1 rfl ?_
      refine n1 rfl ?_
      refine p1 rfl ?_
      refine D_end ?_
      refine x_then ?_
      refine C_t rfl ?_
      refine C_seq ?_
      refine C_reg ?_
      refine p1 rfl ?_
      refine D_end ?_
      refine x_then ?_
      refine D_weak [(2, (.bool false))] ⟨rfl, trivial⟩ ?_
      refine D_sel (H' := []) [false, false, false, false, false] rfl ?_
      refine C_ret ?_
      refine x_then_ret ?_
      refine R_1 rfl rfl fun w' hs => ⟨congrArg (fun z => Ending.returned (Value.bool z)) ?_, hs.bel⟩
      show (false : Bool) = true
      first | rfl | (exfalso; omega) | (exfalso; simp only [cEn_mk] at *; omega) | exact absurd h27 (by simp)
    · have h27n : (decide ((newE aRules) = (newE aRules))) = true := not_f h27
      refine p1 rfl <| p1 rfl ?_
      refine q1 rfl (D_neB ub_4 rfl rfl rfl) ?_
      refine p1 rfl ?_
      refine D_end ?_
      refine x_then ?_
      refine C_if _ rfl (fun h28 => ?_) (fun h28 => ?_)
      · refine C_seq ?_
        refine C_reg ?_
        refine p1 rfl ?_
        refine D_end ?_
        refine x_then ?_
        refine D_weak [(2, (.bool false))] ⟨rfl, trivial⟩ ?_
        refine D_sel (H' := []) [false, false, false, false, false] rfl ?_
        refine C_ret ?_
        refine x_then_ret ?_
        refine R_1 rfl rfl fun w' hs => ⟨congrArg (fun z => Ending.returned (Value.bool z)) ?_, hs.bel⟩
        show (false : Bool) = true
        first | rfl | (exfalso; omega) | (exfalso; simp only [cEn_mk] at *; omega) | exact absurd h28 (by simp)
      · have pr28 : (areRulesB aRules) = (areRulesB aRules) := beq_of_not h28
        refine C_skip ?_
        refine x_then ?_
        refine C_seq ?_
        refine C_seq ?_
        refine C_reg ?_
        refine p1 rfl <| p1 rfl ?_
        refine li rfl (crl b_6 rfl rfl rfl rfl (fun w' hs => (laws_toRuleS w' v_aRules aRules (rd_at hs h_aRules) (by first | assumption | omega | (unfold szm at *; split at * <;> omega)))) fun v29 => ?_)
        refine li rfl (cv b_9 rfl rfl rfl rfl (fun w' hs => (laws_eqRuleS w' v15 aRules v29 aRules (rd_own (k := 3) hs rfl) (rd_own (k := 0) hs rfl))) ?_)
        refine p1 rfl ?_
        refine D_end ?_
        refine x_then ?_
        refine D_weak [(0, v_aRules), (4, (.pointer (some ⟨g14, 0, none⟩))), (5, (.bool (areRulesB aRules))), (6, v15), (7, (.pointer (some ⟨g26, 0, none⟩))), (8, (.bool (areRulesB aRules))), (45, (.bool (!(decide (aRules = aRules)))))] ⟨rfl, rfl, rfl, rfl, rfl, rfl, rfl, trivial⟩ ?_
        refine D_sel (H' := [bx g26 [v18, v19, (.int .i64 ((newE aRules).Clock)), v20, (.bool ((newE aRules).Halted)), v21], ov [v18, v19, (.int .i64 ((newE aRules).Clock)), v20, (.bool ((newE aRules).Halted)), v21] (newE aRules : Engine), ov [v15] (aRules : (List Rule)), bx g14 [v6, v7, (.int .i64 ((newE aRules).Clock)), v8, (.bool ((newE aRules).Halted)), v9], ov [v6, v7, (.int .i64 ((newE aRules).Clock)), v8, (.bool ((newE aRules).Halted)), v9] (newE aRules : Engine)]) [false, true, true, true, true, true] rfl ?_
        refine C_if _ rfl (fun h30 => ?_) (fun h30 => ?_)
        · have h30n : (decide (aRules = aRules)) = false := not_t h30
          refine C_seq ?_
          refine C_reg ?_
          refine p1 rfl ?_
          refine D_end ?_
          refine x_then ?_
          refine C_ret ?_
          refine x_then_ret ?_
          refine R_1 rfl rfl fun w' hs => ⟨congrArg (fun z => Ending.returned (Value.bool z)) ?_, hs.bel⟩
          show (false : Bool) = true
          first | rfl | (exfalso; omega) | (exfalso; simp only [cEn_mk] at *; omega) | exact absurd h30 (by simp)
        · have h30n : (decide (aRules = aRules)) = true := not_f h30
          refine C_skip ?_
          refine x_then ?_
          refine C_seq ?_
          refine C_reg ?_
          refine p1 rfl ?_
          refine D_end ?_
          refine x_then ?_
          refine C_seq ?_
          refine C_reg ?_
          refine p1 rfl <| p1 rfl ?_
          refine D_pk (H' := [ov [v15] (aRules : (List Rule)), bx g26 [v18, v19, (.int .i64 ((newE aRules).Clock)), v20, (.bool ((newE aRules).Halted)), v21], ov [v18, v19, (.int .i64 ((newE aRules).Clock)), v20, (.bool ((newE aRules).Halted)), v21] (newE aRules : Engine), bx g14 [v6, v7, (.int .i64 ((newE aRules).Clock)), v8, (.bool ((newE aRules).Halted)), v9], ov [v6, v7, (.int .i64 ((newE aRules).Clock)), v8, (.bool ((newE aRules).Halted)), v9] (newE aRules : Engine)]) [2, 0, 1, 3, 4] rfl rfl ?_
          refine li rfl (cm b_10 rfl rfl rfl rfl (fun w' hs => laws_markRuleS _ _ w' v15 aRules 1 (by first | assumption | omega | (simp only; omega)) (by first | assumption | omega | (simp only; omega)) hs) ?_)
          refine p1 rfl ?_
          refine D_end ?_
          refine x_then ?_
          refine D_H ([ov [v15] (mapS fRu cRu 1 aRules : (List Rule)), bx g26 [v18, v19, (.int .i64 ((newE aRules).Clock)), v20, (.bool ((newE aRules).Halted)), v21], ov [v18, v19, (.int .i64 ((newE aRules).Clock)), v20, (.bool ((newE aRules).Halted)), v21] (newE aRules : Engine), bx g14 [v6, v7, (.int .i64 ((newE aRules).Clock)), v8, (.bool ((newE aRules).Halted)), v9], ov [v6, v7, (.int .i64 ((newE aRules).Clock)), v8, (.bool ((newE aRules).Halted)), v9] (newE aRules : Engine)]) rfl ?_
          refine C_seq ?_
          refine C_seq ?_
          refine C_reg ?_
          refine p1 rfl <| p1 rfl <| p1 rfl ?_
          refine gs 51 rfl rfl (fun h31 => ?_) (fun h31 => ?_)
          · have pr31 : ((1 + sumC cRu aRules) : Int) < 0 := of_decide_eq_true h31
            refine n1 rfl ?_
            refine n1 rfl ?_
            refine n1 rfl ?_
            refine n1 rfl ?_
            refine p1 rfl <| p1 rfl ?_
            refine n1 rfl ?_
            refine n1 rfl ?_
            refine n1 rfl ?_
            refine p1 rfl ?_
            refine D_end ?_
            refine x_then ?_
            refine D_weak [(0, v_aRules), (4, (.pointer (some ⟨g14, 0, none⟩))), (5, (.bool (areRulesB aRules))), (7, (.pointer (some ⟨g26, 0, none⟩))), (61, (.bool true))] ⟨rfl, rfl, rfl, rfl, rfl, trivial⟩ ?_
            refine D_sel (H' := [bx g26 [v18, v19, (.int .i64 ((newE aRules).Clock)), v20, (.bool ((newE aRules).Halted)), v21], ov [v18, v19, (.int .i64 ((newE aRules).Clock)), v20, (.bool ((newE aRules).Halted)), v21] (newE aRules : Engine), bx g14 [v6, v7, (.int .i64 ((newE aRules).Clock)), v8, (.bool ((newE aRules).Halted)), v9], ov [v6, v7, (.int .i64 ((newE aRules).Clock)), v8, (.bool ((newE aRules).Halted)), v9] (newE aRules : Engine)]) [false, true, true, true, true] rfl ?_
            refine C_t rfl ?_
            refine C_seq ?_
            refine C_reg ?_
            refine p1 rfl ?_
            refine D_end ?_
            refine x_then ?_
            refine C_ret ?_
            refine x_then_ret ?_
            refine R_1 rfl rfl fun w' hs => ⟨congrArg (fun z => Ending.returned (Value.bool z)) ?_, hs.bel⟩
            show (false : Bool) = true
            first | rfl | (exfalso; omega) | (exfalso; simp only [cEn_mk] at *; omega) | exact absurd h31 (by simp)
          · have pr31 : ¬ ((1 + sumC cRu aRules) : Int) < 0 := of_decide_eq_false h31
            refine q1 rfl (lbw 1 a_29 rfl rfl rfl) ?_
            refine q1 rfl (lbw 3 a_29 rfl rfl rfl) ?_
            refine li rfl (cv b_8 rfl rfl rfl rfl (fun w' hs => (laws_eqEngine w' [v18, v19, (.int .i64 ((newE aRules).Clock)), v20, (.bool ((newE aRules).Halted)), v21] (newE aRules) [v6, v7, (.int .i64 ((newE aRules).Clock)), v8, (.bool ((newE aRules).Halted)), v9] (newE aRules) (rd_own (k := 2) hs rfl) (rd_own (k := 4) hs rfl))) ?_)
            refine p1 rfl <| p1 rfl <| p1 rfl ?_
            refine gs 57 rfl rfl (fun h32 => ?_) (fun h32 => ?_)
            · have h32n : (decide ((newE aRules) = (newE aRules))) = false := not_t h32
              refine n1 rfl ?_
              refine n1 rfl ?_
              refine n1 rfl ?_
              refine p1 rfl ?_
              refine D_end ?_
              refine x_then ?_
              refine D_weak [(0, v_aRules), (4, (.pointer (some ⟨g14, 0, none⟩))), (5, (.bool (areRulesB aRules))), (7, (.pointer (some ⟨g26, 0, none⟩))), (61, (.bool true))] ⟨rfl, rfl, rfl, rfl, rfl, trivial⟩ ?_
              refine D_sel (H' := [bx g26 [v18, v19, (.int .i64 ((newE aRules).Clock)), v20, (.bool ((newE aRules).Halted)), v21], ov [v18, v19, (.int .i64 ((newE aRules).Clock)), v20, (.bool ((newE aRules).Halted)), v21] (newE aRules : Engine), bx g14 [v6, v7, (.int .i64 ((newE aRules).Clock)), v8, (.bool ((newE aRules).Halted)), v9], ov [v6, v7, (.int .i64 ((newE aRules).Clock)), v8, (.bool ((newE aRules).Halted)), v9] (newE aRules : Engine)]) [false, true, true, true, true] rfl ?_
              refine C_t rfl ?_
              refine C_seq ?_
              refine C_reg ?_
              refine p1 rfl ?_
              refine D_end ?_
              refine x_then ?_
              refine C_ret ?_
              refine x_then_ret ?_
              refine R_1 rfl rfl fun w' hs => ⟨congrArg (fun z => Ending.returned (Value.bool z)) ?_, hs.bel⟩
              show (false : Bool) = true
              first | rfl | (exfalso; omega) | (exfalso; simp only [cEn_mk] at *; omega) | exact absurd h32 (by simp)
            · have h32n : (decide ((newE aRules) = (newE aRules))) = true := not_f h32
              refine p1 rfl <| p1 rfl ?_
              refine q1 rfl (D_neB ub_4 rfl rfl rfl) ?_
              refine p1 rfl ?_
              refine D_end ?_
              refine x_then ?_
              refine D_weak [(0, v_aRules), (4, (.pointer (some ⟨g14, 0, none⟩))), (5, (.bool (areRulesB aRules))), (7, (.pointer (some ⟨g26, 0, none⟩))), (61, (.bool (!((areRulesB aRules) == (areRulesB aRules)))))] ⟨rfl, rfl, rfl, rfl, rfl, trivial⟩ ?_
              refine D_sel (H' := [bx g26 [v18, v19, (.int .i64 ((newE aRules).Clock)), v20, (.bool ((newE aRules).Halted)), v21], ov [v18, v19, (.int .i64 ((newE aRules).Clock)), v20, (.bool ((newE aRules).Halted)), v21] (newE aRules : Engine), bx g14 [v6, v7, (.int .i64 ((newE aRules).Clock)), v8, (.bool ((newE aRules).Halted)), v9], ov [v6, v7, (.int .i64 ((newE aRules).Clock)), v8, (.bool ((newE aRules).Halted)), v9] (newE aRules : Engine)]) [false, true, true, true, true] rfl ?_
              refine C_if _ rfl (fun h33 => ?_) (fun h33 => ?_)
              · refine C_seq ?_
                refine C_reg ?_
                refine p1 rfl ?_
                refine D_end ?_
                refine x_then ?_
                refine C_ret ?_
                refine x_then_ret ?_
                refine R_1 rfl rfl fun w' hs => ⟨congrArg (fun z => Ending.returned (Value.bool z)) ?_, hs.bel⟩
                show (false : Bool) = true
                first | rfl | (exfalso; omega) | (exfalso; simp only [cEn_mk] at *; omega) | exact absurd h33 (by simp)
              · have pr33 : (areRulesB aRules) = (areRulesB aRules) := beq_of_not h33
                refine C_skip ?_
                refine x_then ?_
                refine C_seq ?_
                refine C_reg ?_
                refine p1 rfl ?_
                refine D_end ?_
                refine x_then ?_
                refine C_seq ?_
                refine C_reg ?_
                refine q1 rfl (lbw 0 a_29 rfl rfl rfl) ?_
                refine p1 rfl ?_
                refine D_pk (H' := [ov [v18, v19, (.int .i64 ((newE aRules).Clock)), v20, (.bool ((newE aRules).Halted)), v21] (newE aRules : Engine), bx g26 [v18, v19, (.int .i64 ((newE aRules).Clock)), v20, (.bool ((newE aRules).Halted)), v21], bx g14 [v6, v7, (.int .i64 ((newE aRules).Clock)), v8, (.bool ((newE aRules).Halted)), v9], ov [v6, v7, (.int .i64 ((newE aRules).Clock)), v8, (.bool ((newE aRules).Halted)), v9] (newE aRules : Engine)]) [1, 0, 2, 3] rfl rfl ?_
                refine li rfl (cm b_11 rfl rfl rfl rfl (fun w' hs => laws_markEngine _ _ w' [v18, v19, (.int .i64 ((newE aRules).Clock)), v20, (.bool ((newE aRules).Halted)), v21] (newE aRules) 1 (by first | assumption | omega | (simp only; omega)) (by first | assumption | omega | (simp only; omega)) hs) ?_)
                refine p1 rfl ?_
                refine D_end ?_
                refine x_then ?_
                refine D_H ([ov [v18, v19, (.int .i64 ((newE aRules).Clock)), v20, (.bool ((newE aRules).Halted)), v21] (mkE 1 (newE aRules) : Engine), bx g26 [v18, v19, (.int .i64 ((newE aRules).Clock)), v20, (.bool ((newE aRules).Halted)), v21], bx g14 [v6, v7, (.int .i64 ((newE aRules).Clock)), v8, (.bool ((newE aRules).Halted)), v9], ov [v6, v7, (.int .i64 ((newE aRules).Clock)), v8, (.bool ((newE aRules).Halted)), v9] (newE aRules : Engine)]) rfl ?_
                refine C_seq ?_
                refine C_reg ?_
                refine p1 rfl ?_
                refine D_end ?_
                refine x_then ?_
                refine C_seq ?_
                refine C_reg ?_
                refine q1 rfl (lbw 1 a_29 rfl rfl rfl) ?_
                refine p1 rfl ?_
                refine li rfl (cv b_12 rfl rfl rfl rfl (fun w' hs => (laws_heldEngine w' [v18, v19, (.int .i64 ((newE aRules).Clock)), v20, (.bool ((newE aRules).Halted)), v21] (mkE 1 (newE aRules)) 1 (rd_own (k := 0) hs rfl) (by first | assumption | omega | (unfold szm at *; split at * <;> omega)) (by rw [cEn_mk]; omega) (mkE_idem _ _))) ?_)
                refine p1 rfl ?_
                refine D_end ?_
                refine x_then ?_
                refine C_seq ?_
                refine C_seq ?_
                refine C_reg ?_
                refine p1 rfl <| p1 rfl ?_
                refine D_end ?_
                refine x_then ?_
                refine C_if _ rfl (fun h34 => ?_) (fun h34 => ?_)
                · have pr34 : ((1 + cEn (mkE 1 (newE aRules))) : Int) < 0 := of_decide_eq_true h34
                  refine C_seq ?_
                  refine C_reg ?_
                  refine p1 rfl ?_
                  refine D_end ?_
                  refine x_then ?_
                  refine D_weak [(2, (.bool false))] ⟨rfl, trivial⟩ ?_
                  refine D_sel (H' := []) [false, false, false, false] rfl ?_
                  refine C_ret ?_
                  refine x_then_ret ?_
                  refine R_1 rfl rfl fun w' hs => ⟨congrArg (fun z => Ending.returned (Value.bool z)) ?_, hs.bel⟩
                  show (false : Bool) = true
                  first | rfl | (exfalso; omega) | (exfalso; simp only [cEn_mk] at *; omega) | exact absurd h34 (by simp)
                · have pr34 : ¬ ((1 + cEn (mkE 1 (newE aRules))) : Int) < 0 := of_decide_eq_false h34
                  refine C_skip ?_
                  refine x_then ?_
                  refine C_seq ?_
                  refine C_seq ?_
                  refine C_reg ?_
                  refine p1 rfl <| p1 rfl <| p1 rfl ?_
                  refine D_end ?_
                  refine x_then ?_
                  refine C_if _ rfl (fun h35 => ?_) (fun h35 => ?_)
                  · have pr35 : ((1 + cEn (mkE 1 (newE aRules))) : Int) ≠ (1 + cEn (newE aRules)) := bne_iff_ne.1 h35
                    refine C_seq ?_
                    refine C_reg ?_
                    refine p1 rfl ?_
                    refine D_end ?_
                    refine x_then ?_
                    refine D_weak [(2, (.bool false))] ⟨rfl, trivial⟩ ?_
                    refine D_sel (H' := []) [false, false, false, false] rfl ?_
                    refine C_ret ?_
                    refine x_then_ret ?_
                    refine R_1 rfl rfl fun w' hs => ⟨congrArg (fun z => Ending.returned (Value.bool z)) ?_, hs.bel⟩
                    show (false : Bool) = true
                    first | rfl | (exfalso; omega) | (exfalso; simp only [cEn_mk] at *; omega) | exact absurd h35 (by simp)
                  · have pr35 : ((1 + cEn (mkE 1 (newE aRules))) : Int) = (1 + cEn (newE aRules)) := eq_of_bne_f h35
                    refine C_skip ?_
                    refine x_then ?_
                    refine C_seq ?_
                    refine C_reg ?_
                    refine p1 rfl ?_
                    refine li rfl (crl b_6 rfl rfl rfl rfl (fun w' hs => (laws_toRuleS w' v_aRules aRules (rd_at hs h_aRules) (by first | assumption | omega | (unfold szm at *; split at * <;> omega)))) fun v36 => ?_)
                    refine li rfl (cr2 b_7 rfl rfl rfl rfl (fun w' hs => (impl_NewEngine w' v36 aRules (rd_own (k := 0) hs rfl) (by first | assumption | omega | (unfold szm at *; split at * <;> omega)))) fun cs37 cs38 => ?_)
                    refine D_pre (fun w' hs => shape_Engine (rd_own (k := 0) hs rfl)) ?_
                    rintro ⟨v39, v40, v41, v42, rfl, ho43, ho44, ho45, ho46⟩
                    refine D_pre (fun w' hs => show cs38 = [(.bool (areRulesB aRules))] from rd_own (k := 1) hs rfl) ?_
                    rintro rfl
                    refine D_re 76 (v' := (.tuple #[(.agg #[v39, v40, (.int .i64 ((newE aRules).Clock)), v41, (.bool ((newE aRules).Halted)), v42]), (.bool (areRulesB aRules))])) rfl rfl rfl ?_
                    refine D_pk (H' := [ov [v39, v40, (.int .i64 ((newE aRules).Clock)), v41, (.bool ((newE aRules).Halted)), v42] (newE aRules : Engine), ov [v36] (aRules : (List Rule)), ov [v18, v19, (.int .i64 ((newE aRules).Clock)), v20, (.bool ((newE aRules).Halted)), v21] (mkE 1 (newE aRules) : Engine), bx g26 [v18, v19, (.int .i64 ((newE aRules).Clock)), v20, (.bool ((newE aRules).Halted)), v21], bx g14 [v6, v7, (.int .i64 ((newE aRules).Clock)), v8, (.bool ((newE aRules).Halted)), v9], ov [v6, v7, (.int .i64 ((newE aRules).Clock)), v8, (.bool ((newE aRules).Halted)), v9] (newE aRules : Engine)]) [0, 2, 3, 4, 5, 6] rfl rfl ?_
                    refine p1 rfl <| p1 rfl <| p1 rfl ?_
                    refine li rfl (D_alloc y_29 rfl rfl rfl rfl fun g47 => ?_)
                    refine li rfl (D_stb (vs := [v39, v40, (.int .i64 ((newE aRules).Clock)), v41, (.bool ((newE aRules).Halted)), v42]) (cs' := [v39, v40, (.int .i64 ((newE aRules).Clock)), v41, (.bool ((newE aRules).Halted)), v42]) 0 z_29 rfl rfl rfl rfl rfl rfl (ocons ho43 (ocons ho44 (ocons rfl (ocons ho45 (ocons rfl (ocons ho46 onil)))))) (by simp) rfl ?_)
                    refine p1 rfl ?_
                    refine D_end ?_
                    refine x_then ?_
                    refine D_weak [(4, (.pointer (some ⟨g14, 0, none⟩))), (5, (.bool (areRulesB aRules))), (7, (.pointer (some ⟨g26, 0, none⟩))), (10, (.int .i64 (1 + cEn (newE aRules)))), (12, (.pointer (some ⟨g47, 0, none⟩))), (13, (.bool (areRulesB aRules)))] ⟨rfl, rfl, rfl, rfl, rfl, rfl, trivial⟩ ?_
                    refine D_sel (H' := [bx g47 [v39, v40, (.int .i64 ((newE aRules).Clock)), v41, (.bool ((newE aRules).Halted)), v42], ov [v39, v40, (.int .i64 ((newE aRules).Clock)), v41, (.bool ((newE aRules).Halted)), v42] (newE aRules : Engine), ov [v18, v19, (.int .i64 ((newE aRules).Clock)), v20, (.bool ((newE aRules).Halted)), v21] (mkE 1 (newE aRules) : Engine), bx g26 [v18, v19, (.int .i64 ((newE aRules).Clock)), v20, (.bool ((newE aRules).Halted)), v21], bx g14 [v6, v7, (.int .i64 ((newE aRules).Clock)), v8, (.bool ((newE aRules).Halted)), v9], ov [v6, v7, (.int .i64 ((newE aRules).Clock)), v8, (.bool ((newE aRules).Halted)), v9] (newE aRules : Engine)]) [true, true, false, true, true, true, true] rfl ?_
                    refine C_seq ?_
                    refine C_seq ?_
                    refine C_reg ?_
                    refine q1 rfl (lbw 0 a_29 rfl rfl rfl) ?_
                    refine q1 rfl (lbw 4 a_29 rfl rfl rfl) ?_
                    refine li rfl (cv b_8 rfl rfl rfl rfl (fun w' hs => (laws_eqEngine w' [v39, v40, (.int .i64 ((newE aRules).Clock)), v41, (.bool ((newE aRules).Halted)), v42] (newE aRules) [v6, v7, (.int .i64 ((newE aRules).Clock)), v8, (.bool ((newE aRules).Halted)), v9] (newE aRules) (rd_own (k := 1) hs rfl) (rd_own (k := 5) hs rfl))) ?_)
                    refine p1 rfl <| p1 rfl ?_
                    refine gs 83 rfl rfl (fun h48 => ?_) (fun h48 => ?_)
                    · have h48n : (decide ((newE aRules) = (newE aRules))) = false := not_t h48
                      refine n1 rfl ?_
                      refine n1 rfl ?_
                      refine n1 rfl ?_
                      refine p1 rfl ?_
                      refine D_end ?_
                      refine x_then ?_
                      refine C_t rfl ?_
                      refine C_seq ?_
                      refine C_reg ?_
                      refine p1 rfl ?_
                      refine D_end ?_
                      refine x_then ?_
                      refine D_weak [(2, (.bool false))] ⟨rfl, trivial⟩ ?_
                      refine D_sel (H' := []) [false, false, false, false, false, false] rfl ?_
                      refine C_ret ?_
                      refine x_then_ret ?_
                      refine R_1 rfl rfl fun w' hs => ⟨congrArg (fun z => Ending.returned (Value.bool z)) ?_, hs.bel⟩
                      show (false : Bool) = true
                      first | rfl | (exfalso; omega) | (exfalso; simp only [cEn_mk] at *; omega) | exact absurd h48 (by simp)
                    · have h48n : (decide ((newE aRules) = (newE aRules))) = true := not_f h48
                      refine p1 rfl <| p1 rfl ?_
                      refine q1 rfl (D_neB ub_4 rfl rfl rfl) ?_
                      refine p1 rfl ?_
                      refine D_end ?_
                      refine x_then ?_
                      refine C_if _ rfl (fun h49 => ?_) (fun h49 => ?_)
                      · refine C_seq ?_
                        refine C_reg ?_
                        refine p1 rfl ?_
                        refine D_end ?_
                        refine x_then ?_
                        refine D_weak [(2, (.bool false))] ⟨rfl, trivial⟩ ?_
                        refine D_sel (H' := []) [false, false, false, false, false, false] rfl ?_
                        refine C_ret ?_
                        refine x_then_ret ?_
                        refine R_1 rfl rfl fun w' hs => ⟨congrArg (fun z => Ending.returned (Value.bool z)) ?_, hs.bel⟩
                        show (false : Bool) = true
                        first | rfl | (exfalso; omega) | (exfalso; simp only [cEn_mk] at *; omega) | exact absurd h49 (by simp)
                      · have pr49 : (areRulesB aRules) = (areRulesB aRules) := beq_of_not h49
                        refine C_skip ?_
                        refine x_then ?_
                        refine C_seq ?_
                        refine C_reg ?_
                        refine p1 rfl ?_
                        refine D_end ?_
                        refine x_then ?_
                        refine C_seq ?_
                        refine C_reg ?_
                        refine q1 rfl (lbw 3 a_29 rfl rfl rfl) ?_
                        refine p1 rfl ?_
                        refine li rfl (cv b_12 rfl rfl rfl rfl (fun w' hs => (laws_heldEngine w' [v18, v19, (.int .i64 ((newE aRules).Clock)), v20, (.bool ((newE aRules).Halted)), v21] (mkE 1 (newE aRules)) 1 (rd_own (k := 2) hs rfl) (by first | assumption | omega | (unfold szm at *; split at * <;> omega)) (by rw [cEn_mk]; omega) (mkE_idem _ _))) ?_)
                        refine p1 rfl ?_
                        refine D_end ?_
                        refine x_then ?_
                        refine D_weak [(10, (.int .i64 (1 + cEn (newE aRules)))), (11, (.int .i64 (1 + cEn (mkE 1 (newE aRules)))))] ⟨rfl, rfl, trivial⟩ ?_
                        refine D_sel (H' := []) [false, false, false, false, false, false] rfl ?_
                        refine C_seq ?_
                        refine C_seq ?_
                        refine C_reg ?_
                        refine p1 rfl <| p1 rfl ?_
                        refine D_end ?_
                        refine x_then ?_
                        refine C_if _ rfl (fun h50 => ?_) (fun h50 => ?_)
                        · have pr50 : ((1 + cEn (mkE 1 (newE aRules))) : Int) < 0 := of_decide_eq_true h50
                          refine C_seq ?_
                          refine C_reg ?_
                          refine p1 rfl ?_
                          refine D_end ?_
                          refine x_then ?_
                          refine C_ret ?_
                          refine x_then_ret ?_
                          refine R_1 rfl rfl fun w' hs => ⟨congrArg (fun z => Ending.returned (Value.bool z)) ?_, hs.bel⟩
                          show (false : Bool) = true
                          first | rfl | (exfalso; omega) | (exfalso; simp only [cEn_mk] at *; omega) | exact absurd h50 (by simp)
                        · have pr50 : ¬ ((1 + cEn (mkE 1 (newE aRules))) : Int) < 0 := of_decide_eq_false h50
                          refine C_skip ?_
                          refine x_then ?_
                          refine C_seq ?_
                          refine C_seq ?_
                          refine C_reg ?_
                          refine p1 rfl <| p1 rfl <| p1 rfl ?_
                          refine D_end ?_
                          refine x_then ?_
                          refine C_if _ rfl (fun h51 => ?_) (fun h51 => ?_)
                          · have pr51 : ((1 + cEn (mkE 1 (newE aRules))) : Int) ≠ (1 + cEn (newE aRules)) := bne_iff_ne.1 h51
                            refine C_seq ?_
                            refine C_reg ?_
                            refine p1 rfl ?_
                            refine D_end ?_
                            refine x_then ?_
                            refine C_ret ?_
                            refine x_then_ret ?_
                            refine R_1 rfl rfl fun w' hs => ⟨congrArg (fun z => Ending.returned (Value.bool z)) ?_, hs.bel⟩
                            show (false : Bool) = true
                            first | rfl | (exfalso; omega) | (exfalso; simp only [cEn_mk] at *; omega) | exact absurd h51 (by simp)
                          · have pr51 : ((1 + cEn (mkE 1 (newE aRules))) : Int) = (1 + cEn (newE aRules)) := eq_of_bne_f h51
                            refine C_skip ?_
                            refine x_then ?_
                            refine C_seq ?_
                            refine C_reg ?_
                            refine p1 rfl ?_
                            refine D_end ?_
                            refine x_then ?_
                            refine C_ret ?_
                            refine R_1 rfl rfl fun w' hs => ⟨congrArg (fun z => Ending.returned (Value.bool z)) ?_, hs.bel⟩
                            show (true : Bool) = true
                            first | rfl | (exfalso; omega) | (exfalso; simp only [cEn_mk] at *; omega) | exact absurd h51 (by simp)
end Go.Sy.Eng5
