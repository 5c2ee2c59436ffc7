/-
  Contracts of functions of the program, walked (printed by a program of ours).
  Conditions: those that each theorem states.
-/
import Derived.Test.YtkbiaedfnpbpfaaGreatDoorEng3
import Derived.Test.YtkbiaedfnpbpfaaGreatDoorBel3
import Derived.Test.YtkbiaedfnpbpfaaGreatDoorMk
set_option linter.unusedVariables false
set_option maxRecDepth 20000
namespace Go.Sy.Eng5
open Go Go.RowKit Go.Proofs Go.Sy
theorem mixed : Tryz.prog.follows .mixedOrders = true := by kernel_rfl
theorem u8_5 : Tryz.prog.underlying 5 = some (.int .u8) := by kernel_rfl
theorem ui_3 : Tryz.prog.underlying 3 = some (.int .i64) := by kernel_rfl
theorem s_157 : sliceTy Tryz.prog 157 = some (5, 1, 1) := by kernel_rfl
theorem y_5 : zeroTy Tryz.prog 5 = some (.int .u8 0) := by kernel_rfl
theorem usl_157 : Tryz.prog.underlying 157 = some (.slice 5) := by kernel_rfl
theorem us_9 : Tryz.prog.underlying 9 = some .string := by kernel_rfl
theorem s_58 : sliceTy Tryz.prog 58 = some (9, 1, 16) := by kernel_rfl
theorem b_59 : hasBody Tryz.prog 59 = true := by kernel_rfl
theorem z_9 : sizeTy Tryz.prog 9 = some 1 := by kernel_rfl
theorem o_9 : oneTy Tryz.prog 9 = true := by kernel_rfl
theorem s_93 : sliceTy Tryz.prog 93 = some (147, 5, 80) := by kernel_rfl
theorem f_147_0 : fieldOff Tryz.prog 147 0 = some 0 := by kernel_rfl
theorem z_3 : sizeTy Tryz.prog 3 = some 1 := by kernel_rfl
theorem f_147_1 : fieldOff Tryz.prog 147 1 = some 1 := by kernel_rfl
theorem f_145_0 : fieldOff Tryz.prog 145 0 = some 0 := by kernel_rfl
theorem f_145_1 : fieldOff Tryz.prog 145 1 = some 1 := by kernel_rfl
theorem o_58 : oneTy Tryz.prog 58 = true := by kernel_rfl
theorem b_62 : hasBody Tryz.prog 62 = true := by kernel_rfl
theorem f_147_2 : fieldOff Tryz.prog 147 2 = some 3 := by kernel_rfl
theorem f_147_3 : fieldOff Tryz.prog 147 3 = some 4 := by kernel_rfl
theorem s_94 : sliceTy Tryz.prog 94 = some (159, 3, 48) := by kernel_rfl
theorem f_159_0 : fieldOff Tryz.prog 159 0 = some 0 := by kernel_rfl
theorem f_159_1 : fieldOff Tryz.prog 159 1 = some 1 := by kernel_rfl
theorem s_40 : sliceTy Tryz.prog 40 = some (96, 4, 72) := by kernel_rfl
theorem f_96_0 : fieldOff Tryz.prog 96 0 = some 0 := by kernel_rfl
theorem f_96_1 : fieldOff Tryz.prog 96 1 = some 1 := by kernel_rfl
theorem f_96_2 : fieldOff Tryz.prog 96 2 = some 2 := by kernel_rfl
theorem o_93 : oneTy Tryz.prog 93 = true := by kernel_rfl
theorem b_60 : hasBody Tryz.prog 60 = true := by kernel_rfl
theorem f_96_3 : fieldOff Tryz.prog 96 3 = some 3 := by kernel_rfl
theorem o_94 : oneTy Tryz.prog 94 = true := by kernel_rfl
theorem b_61 : hasBody Tryz.prog 61 = true := by kernel_rfl
theorem s_42 : sliceTy Tryz.prog 42 = some (100, 3, 48) := by kernel_rfl
theorem f_100_0 : fieldOff Tryz.prog 100 0 = some 0 := by kernel_rfl
theorem f_70_0 : fieldOff Tryz.prog 70 0 = some 0 := by kernel_rfl
theorem f_70_1 : fieldOff Tryz.prog 70 1 = some 1 := by kernel_rfl
theorem f_100_1 : fieldOff Tryz.prog 100 1 = some 2 := by kernel_rfl
open Go.Sy.Bel1 Go.Sy.Bel3 Go.Sy.Ev1 Go.Sy.Ev2 Go.Sy.Eng1 Go.Sy.Eng2 Go.Sy.Eng3
theorem laws_markText (w : World) (k : Int) (h1 : k ≤ 4611686018427387904) : Calls Tryz.prog 59 [(.int .i64 k)].toArray w (Val w (.string (markS k))) := by
 refine enter 20 Tryz.func59 rfl rfl rfl (C_seq (C_reg (p1 rfl (D_end (x_then (C_seq (C_seq (C_reg (p1 rfl <| p1 rfl (D_end (x_then ?_)))))))))))
 refine C_if _ rfl (fun h1 => ?_) (fun h1 => ?_)
 ·have pr1 : (k : Int) ≤ 0 := of_decide_eq_true h1
  refine C_seq (C_reg (p1 rfl (D_end (x_then (C_ret (x_then_ret (Rs rfl rfl ?_)))))))
  show (⟨#[109, 48]⟩ : ByteArray) = _
  exact mark_low (by omega)
 ·have pr1 : ¬ (k : Int) ≤ 0 := of_decide_eq_false h1
  refine C_skip (x_then (C_seq (C_reg (p1 rfl (D_end (x_then (C_seq (C_block (C_loop (fun m_ ac w' => ∃ (nn : Int), ∃ (s : ByteArray), (dg k nn s) ∧ m_ = nn.toNat ∧ Fits ac 20 [(0, (.int .i64 nn)), (3, (.string s))] ∧ St w ([]) w') ?_ ?_)))))))))
  ·refine fun ac w' hf hs => ⟨_, k, ⟨#[]⟩, ?_, rfl, hf.weak ⟨rfl, rfl, trivial⟩, hs⟩
   ·exact dg_zero (by omega)
  ·rintro m_ ac w' ⟨nn, s, hd, rfl, hf, hs⟩
   refine D.use ?_ hf hs
   clear hf hs ac w'
   have hd0 := hd.1
   have hd1 := hd.2.1
   have hd3 := hd.2.2.2
   have htm := mtmod10 hd0
   refine C_seq (C_seq (C_reg (p1 rfl <| p1 rfl (D_end (x_then (C_if _ rfl (fun h2 => ?_) (fun h2 => ?_)))))))
   ·have pr2 : (0 : Int) < nn := of_decide_eq_true h2
    refine C_skip (x_then (C_block (C_seq (C_reg (p1 rfl (q1 rfl (D_rem rfl rfl rfl rfl) (q1 rfl (D_add rfl rfl rfl rfl (by omega)) (q1 rfl (D_cv8 u8_5 ⟨_, ui_3⟩ rfl rfl (by omega)) (li rfl (D_bs s_157 y_5 rfl (by decide) (by decide) rfl rfl rfl rfl rfl rfl fun g3 => ?_))))))))))
    refine q1 rfl (D_cvbs 0 usl_157 u8_5 us_9 rfl rfl rfl) (p1 rfl (q1 rfl (D_cat rfl rfl rfl (by show 1 + s.size ≤ 9223372036854775807; omega)) (p1 rfl (D_end (x_then (D_H ([bx g3 [(.int .u8 (48 + (Int.tmod nn 10)))]]) rfl (C_reg (p1 rfl (q1 rfl (D_quo rfl rfl rfl (by omega) (by omega)) (p1 rfl (D_end ?_)))))))))))
    refine x_blk (x_then (fun ac w' hf hs => ⟨_, ?_, (nn / 10), ((⟨#[UInt8.ofNat (48 + (Int.tmod nn 10)).toNat]⟩ : ByteArray) ++ s), ?_, rfl, hf.weak ⟨rfl, rfl, trivial⟩, hs.pk [] rfl rfl⟩))
    ·omega
    ·exact dg_step hd (by omega)
   ·have pr2 : ¬ (0 : Int) < nn := of_decide_eq_false h2
    refine C_exit (x_then_exit (x_then_exit (x_blk_eq (x_then (C_seq (C_reg (p1 rfl (q1 rfl (D_cat rfl rfl rfl (by show 1 + s.size ≤ 9223372036854775807; omega)) (p1 rfl (D_end (x_then ?_)))))))))))
    refine C_ret (Rs rfl rfl ?_)
    show ((⟨#[109]⟩ ++ s) : ByteArray) = _
    exact dg_done hd (by omega) (by omega)

theorem laws_markStringS (w0 : World) (Hs : List Chunk) (w : World) (v_a : Value) (a : (List ByteArray)) (k : Int) (h0 : 0 ≤ k) (h1 : k + a.length ≤ 4611686018427387904) (hst : St w0 (ov [v_a] (a : (List ByteArray)) :: Hs) w) : Calls Tryz.prog 62 [v_a, (.int .i64 k)].toArray w (fun e w' => e = .returned (.int .i64 (k + a.length)) ∧ St w0 (ov [v_a] (mkSs k a : (List ByteArray)) :: Hs) w') := by
 have hm1 := rd_max (rd_own (k := 0) hst rfl)
 refine enterS 20 Tryz.func62 rfl rfl rfl hst (C_seq (C_reg (p1 rfl (D_end (x_then (D_H (ov [v_a] (a : (List ByteArray)) :: Hs) rfl (C_seq (C_seq (C_reg (p1 rfl (D_end ?_)))))))))))
 refine x_then (C_block (C_loop (fun m_ ac w' => ∃ (i : Nat), ∃ (kk : Int), (i ≤ a.length) ∧ (kk = k + i) ∧ m_ = a.length - i ∧ Fits ac 20 [(0, v_a), (1, (.int .i64 kk)), (5, (.int .i64 ((i : Nat) : Int)))] ∧ St w0 (ov [v_a] (mapAt fS cS k a i : (List ByteArray)) :: Hs) w') ?_ ?_))
 ·refine D_eq 0 rfl (show (a : (List ByteArray)) = mapAt fS cS k a 0 from by rw [mapAt_zero]) (fun ac w' hf hs => ⟨_, 0, k, ?_, ?_, rfl, hf.weak ⟨rfl, rfl, rfl, trivial⟩, hs⟩)
  ·first | assumption | omega | simp
  ·first | assumption | omega | simp
 ·rintro m_ ac w' ⟨i, kk, hi, hk, rfl, hf, hs⟩
  refine D.use ?_ hf hs
  clear hf hs ac w'
  have hcl := mapAt_len (f := fS) (c := cS) (k := k) hi
  refine C_seq (C_seq (C_reg (p1 rfl <| p1 rfl (q1 rfl (D_leno 0 s_58 rfl rfl rfl) (p1 rfl (D_end (x_then (D_H (ov [v_a] (mapAt fS cS k a i : (List ByteArray)) :: Hs) rfl (C_if _ rfl (fun h2 => ?_) (fun h2 => ?_))))))))))
  ·have pr2 : (((i : Nat) : Int) : Int) < (((mapAt fS cS k a i).length : Nat) : Int) := of_decide_eq_true h2
   refine C_skip (x_then (C_seq (C_block (C_seq (C_reg (p1 rfl <| p1 rfl <| p1 rfl (li rfl (cv b_59 rfl rfl rfl rfl (fun w' hs => (laws_markText w' kk (by first | assumption | omega | (unfold szm at *; split at * <;> omega)))) ?_))))))))
   obtain ⟨x3, hx4⟩ := some_of_lt (l := (mapAt fS cS k a i)) (i := i) (by omega)
   refine q1 rfl (D_ix (l := (mapAt fS cS k a i)) (j := i) s_58 rfl rfl rfl (fun w' hs => (rd_own (k := 0) hs rfl)) rfl (lt_of_some hx4)) (li rfl (so (α := ByteArray) (z := (markS kk)) 0 z_9 rfl rfl rfl rfl rfl (lt_of_some hx4) ?_))
   refine D_end (x_then (D_H (ov [v_a] ((mapAt fS cS k a i).set i (markS kk) : (List ByteArray)) :: Hs) rfl (C_reg (p1 rfl (q1 rfl (D_add rfl rfl rfl rfl (by omega)) (p1 rfl (D_end (x_blk (x_then (C_reg (p1 rfl ?_)))))))))))
   refine q1 rfl (D_add rfl rfl rfl (r := ((i + 1 : Nat) : Int)) (by omega) (by omega)) (p1 rfl (D_end (x_then (D_eq 0 rfl (show ((mapAt fS cS k a i).set i (markS kk) : (List ByteArray)) = mapAt fS cS k a (i + 1) from by exact mkS_set (by omega) hk) (fun ac w' hf hs => ⟨_, ?_, i + 1, (kk + 1), ?_, ?_, rfl, hf.weak ⟨rfl, rfl, rfl, trivial⟩, hs⟩)))))
   ·omega
   ·first | assumption | omega | simp
   ·first | assumption | omega | simp
  ·have pr2 : ¬ (((i : Nat) : Int) : Int) < (((mapAt fS cS k a i).length : Nat) : Int) := of_decide_eq_false h2
   refine C_exit (x_then_exit (x_then_exit (x_blk_eq (x_then (C_seq (C_reg (p1 rfl <| p1 rfl (D_end (x_then (C_ret (D_eq 0 rfl (show (mapAt fS cS k a i : (List ByteArray)) = mkSs k a from by exact mapAt_done (by omega)) ?_)))))))))))
   refine R_1 rfl rfl fun w' hs => ⟨congrArg (fun z => Ending.returned (Value.int .i64 z)) ?_, hs⟩
   show (kk : Int) = k + a.length
   omega

theorem laws_heldStringS (w : World) (v_a : Value) (a : (List ByteArray)) (k : Int) (h_a : Gd.rd w [v_a] a) (h0 : 0 ≤ k) (h1 : k + a.length ≤ 4611686018427387904) (he : a = mkSs k a) : Calls Tryz.prog 144 [v_a, (.int .i64 k)].toArray w (Val w (.int .i64 (k + a.length))) := by
 have hm1 := rd_max h_a
 refine enter 22 Tryz.func144 rfl rfl rfl (C_seq (C_reg (p1 rfl (D_end (x_then (C_seq (C_seq (C_reg (p1 rfl (D_end (x_then ?_)))))))))))
 refine C_block (C_loop (fun m_ ac w' => ∃ (i : Nat), ∃ (kk : Int), (i ≤ a.length) ∧ (kk = k + i) ∧ m_ = a.length - i ∧ Fits ac 22 [(0, v_a), (1, (.int .i64 kk)), (5, (.int .i64 ((i : Nat) : Int)))] ∧ St w ([]) w') ?_ ?_)
 ·refine fun ac w' hf hs => ⟨_, 0, k, ?_, ?_, rfl, hf.weak ⟨rfl, rfl, rfl, trivial⟩, hs⟩
  ·first | assumption | omega | simp
  ·first | assumption | omega | simp
 ·rintro m_ ac w' ⟨i, kk, hi, hk, rfl, hf, hs⟩
  refine D.use ?_ hf hs
  clear hf hs ac w'
  refine C_seq (C_seq (C_reg (p1 rfl <| p1 rfl (q1 rfl (D_len s_58 rfl rfl (rd_sl h_a)) (p1 rfl (D_end (x_then (C_if _ rfl (fun h2 => ?_) (fun h2 => ?_)))))))))
  ·have pr2 : (((i : Nat) : Int) : Int) < ((a.length : Nat) : Int) := of_decide_eq_true h2
   refine C_skip (x_then (C_seq (C_block (C_seq (C_seq (C_draw mixed [] (by kernel_rfl) (tk 0 rfl (by kernel_rfl) (by kernel_rfl) (by kernel_rfl) rfl (fun _ hs => hs) (rp rfl) (tk 1 rfl (by kernel_rfl) (by kernel_rfl) (by kernel_rfl) rfl (fun _ hs => hs) (rp rfl) ?_))))))))
   obtain ⟨x3, hx4⟩ := some_of_lt (l := a) (i := i) (by omega)
   obtain ⟨es5, at6, hr7⟩ := rd_elem (n := 1) rfl h_a hx4
   obtain rfl : es5 = [.string x3] := hr7
   refine tk 2 rfl (by kernel_rfl) (by kernel_rfl) (by kernel_rfl) rfl (fun _ hs => hs) (D_ix (l := a) (j := i) s_58 rfl rfl rfl (fun w' hs => (rd_at hs h_a)) rfl (lt_of_some hx4)) (tk 3 rfl (by kernel_rfl) (by kernel_rfl) (by kernel_rfl) rfl (fun _ hs => hs) (lr0 o_9 rfl rfl at6 rfl) (tk 4 rfl (by kernel_rfl) (by kernel_rfl) (by kernel_rfl) rfl (fun _ hs => hs) (rp rfl) (ty 5 rfl (by kernel_rfl) rfl (cv b_59 rfl rfl rfl rfl (fun w' hs => (laws_markText w' kk (by first | assumption | omega | (unfold szm at *; split at * <;> omega)))) ?_))))
   refine tS (fun _ hs => hs) (tk 6 rfl (by kernel_rfl) (by kernel_rfl) (by kernel_rfl) rfl (fun _ hs => hs) (D_neS rfl rfl rfl) (tE (by kernel_rfl) (x_then (C_if _ rfl (fun h8 => ?_) (fun h8 => ?_)))))
   ·have pr8 : ¬ (x3 : ByteArray) = (markS kk) := of_decide_eq_false (not_t h8)
    refine C_seq (C_reg (p1 rfl (D_end (x_then (C_ret (x_then_ret (x_blk_ret (x_then_ret (x_then_ret (x_blk_ret (x_then_ret ?_)))))))))))
    refine Ri rfl rfl ?_
    show ((-1) : Int) = _
    exfalso; have := mkS_fix he hx4; rw [← hk] at this; contradiction
   ·have pr8 : (x3 : ByteArray) = (markS kk) := of_decide_eq_true (not_f h8)
    refine C_skip (x_then (C_reg (p1 rfl (q1 rfl (D_add rfl rfl rfl rfl (by omega)) (p1 rfl (D_end (x_blk (x_then (C_reg (p1 rfl (q1 rfl (D_add rfl rfl rfl (r := ((i + 1 : Nat) : Int)) (by omega) (by omega)) ?_)))))))))))
    refine p1 rfl (D_end (x_then (fun ac w' hf hs => ⟨_, ?_, i + 1, (kk + 1), ?_, ?_, rfl, hf.weak ⟨rfl, rfl, rfl, trivial⟩, hs⟩)))
    ·omega
    ·first | assumption | omega | simp
    ·first | assumption | omega | simp
  ·have pr2 : ¬ (((i : Nat) : Int) : Int) < ((a.length : Nat) : Int) := of_decide_eq_false h2
   refine C_exit (x_then_exit (x_then_exit (x_blk_eq (x_then (C_seq (C_reg (p1 rfl <| p1 rfl (D_end (x_then (C_ret (Ri rfl rfl ?_)))))))))))
   show (kk : Int) = _
   omega

theorem laws_markCondS (w0 : World) (Hs : List Chunk) (w : World) (v_a : Value) (a : (List Cond)) (k : Int) (h0 : 0 ≤ k) (h1 : k + sumC cCo a ≤ 4611686018427387904) (hst : St w0 (ov [v_a] (a : (List Cond)) :: Hs) w) : Calls Tryz.prog 60 [v_a, (.int .i64 k)].toArray w (fun e w' => e = .returned (.int .i64 (k + sumC cCo a)) ∧ St w0 (ov [v_a] (mapS fCo cCo k a : (List Cond)) :: Hs) w') := by
 have hm1 := rd_max (rd_own (k := 0) hst rfl)
 refine enterS 53 Tryz.func60 rfl rfl rfl hst (C_seq (C_reg (p1 rfl (D_end (x_then (D_H (ov [v_a] (a : (List Cond)) :: Hs) rfl (C_seq (C_seq (C_reg (p1 rfl (D_end ?_)))))))))))
 refine x_then (C_block (C_loop (fun m_ ac w' => ∃ (i : Nat), ∃ (kk : Int), (i ≤ a.length) ∧ (kk = k + sumC cCo (a.take i)) ∧ m_ = a.length - i ∧ Fits ac 53 [(0, v_a), (1, (.int .i64 kk)), (5, (.int .i64 ((i : Nat) : Int)))] ∧ St w0 (ov [v_a] (mapAt fCo cCo k a i : (List Cond)) :: Hs) w') ?_ ?_))
 ·refine D_eq 0 rfl (show (a : (List Cond)) = mapAt fCo cCo k a 0 from by rw [mapAt_zero]) (fun ac w' hf hs => ⟨_, 0, k, ?_, ?_, rfl, hf.weak ⟨rfl, rfl, rfl, trivial⟩, hs⟩)
  ·first | assumption | omega | simp
  ·simp [sumC]
 ·rintro m_ ac w' ⟨i, kk, hi, hk, rfl, hf, hs⟩
  refine D.use ?_ hf hs
  clear hf hs ac w'
  have hcl := mapAt_len (f := fCo) (c := cCo) (k := k) hi
  have htk := sumC_take_le a cCo i
  refine C_seq (C_seq (C_reg (p1 rfl <| p1 rfl (q1 rfl (D_leno 0 s_93 rfl rfl rfl) (p1 rfl (D_end (x_then (D_H (ov [v_a] (mapAt fCo cCo k a i : (List Cond)) :: Hs) rfl (C_if _ rfl (fun h2 => ?_) (fun h2 => ?_))))))))))
  ·have pr2 : (((i : Nat) : Int) : Int) < (((mapAt fCo cCo k a i).length : Nat) : Int) := of_decide_eq_true h2
   refine C_skip (x_then (C_seq (C_block (C_seq (C_reg (p1 rfl <| p1 rfl <| p1 rfl ?_))))))
   obtain ⟨x3, hx4⟩ := some_of_lt (l := (mapAt fCo cCo k a i)) (i := i) (by omega)
   refine D_take hx4 fun es5 => ?_
   refine D_pre (fun w' hs => shape_Cond (rd_own (k := 0) hs rfl)) ?_
   rintro ⟨v6, rfl, ho7⟩
   refine q1 rfl (D_ixh 1 s_93 rfl rfl rfl rfl rfl) ?_
   have hstep := mk_step hi hx4 hk
   have hcc : cCo x3 = 4 + x3.Pattern.Args.length := rfl
   refine q1 rfl (D_fa f_147_0 rfl rfl) (D_unpair (α := Int) (β := Go.Sy.Pattern × ByteArray × ByteArray) (c1 := [(.int .i64 x3.Kind)]) (c2 := [(.string x3.Pattern.Rel), v6, (.string x3.Left), (.string x3.Right)]) (x := x3.Kind) (y := (x3.Pattern, x3.Left, x3.Right)) rfl rfl (D_fd [] 1 rfl (D_unpair (α := Go.Sy.Pattern) (β := ByteArray × ByteArray) (c1 := [(.string x3.Pattern.Rel), v6]) (c2 := [(.string x3.Left), (.string x3.Right)]) (x := x3.Pattern) (y := (x3.Left, x3.Right)) rfl rfl (D_fd [1] 0 rfl (D_unpair (α := ByteArray) (β := ByteArray) (c1 := [(.string x3.Left)]) (c2 := [(.string x3.Right)]) (x := x3.Left) (y := (x3.Right)) rfl rfl (D_fd [] 1 rfl (D_fd [] 1 rfl (li rfl (sh (n := 5) (f := 0) 1 rfl z_3 rfl rfl rfl rfl rfl rfl rfl (by simp) ?_)))))))))
   refine D_end (x_then (C_seq (C_reg (p1 rfl (q1 rfl (D_add rfl rfl rfl rfl (by omega)) (p1 rfl (D_end (x_then (C_seq (C_reg (p1 rfl <| p1 rfl <| p1 rfl ?_)))))))))))
   refine li rfl (cv b_59 rfl rfl rfl rfl (fun w' hs => (laws_markText w' (kk + 1) (by first | assumption | omega | (unfold szm at *; split at * <;> omega)))) ?_)
   refine q1 rfl (D_ixh 1 s_93 rfl rfl rfl rfl rfl) (q1 rfl (D_fa f_147_1 rfl rfl) (q1 rfl (D_fa' f_145_0 rfl rfl (q := 1) rfl) (li rfl (sh (n := 5) (f := 1) 1 rfl z_9 rfl rfl rfl rfl rfl rfl rfl (by simp) ?_))))
   refine D_end (x_then (D_weak [(0, v_a), (1, (.int .i64 (kk + 1))), (5, (.int .i64 ((i : Nat) : Int)))] ⟨rfl, rfl, rfl, trivial⟩ (C_seq (C_reg (p1 rfl (q1 rfl (D_add rfl rfl rfl rfl (by omega)) (p1 rfl (D_end (x_then (C_seq (C_reg ?_)))))))))))
   refine p1 rfl <| p1 rfl (q1 rfl (D_ixh 1 s_93 rfl rfl rfl rfl rfl) (q1 rfl (D_fa f_147_1 rfl rfl) (q1 rfl (D_fa' f_145_1 rfl rfl (q := 2) rfl) (q1 rfl (lh (n := 5) 1 rfl o_58 rfl rfl rfl rfl) (p1 rfl (D_unpair (α := ByteArray) (β := (List ByteArray)) (c1 := [(.string x3.Pattern.Rel)]) (c2 := [v6]) (x := x3.Pattern.Rel) (y := (x3.Pattern.Args)) rfl rfl (D_fd [] 1 rfl (li rfl (cm b_62 rfl rfl rfl rfl (fun w' hs => laws_markStringS _ _ w' v6 x3.Pattern.Args ((kk + 1) + 1) (by first | assumption | omega | (simp only; omega)) (by first | assumption | omega | (simp only; omega)) hs) ?_)))))))))
   refine p1 rfl (D_end (x_then (C_seq (C_reg (p1 rfl <| p1 rfl <| p1 rfl (li rfl (cv b_59 rfl rfl rfl rfl (fun w' hs => (laws_markText w' (((kk + 1) + 1) + x3.Pattern.Args.length) (by first | assumption | omega | (unfold szm at *; split at * <;> omega)))) ?_)))))))
   refine q1 rfl (D_ixh 1 s_93 rfl rfl rfl rfl rfl) (q1 rfl (D_fa f_147_2 rfl rfl) (li rfl (sh (n := 5) (f := 3) 1 rfl z_9 rfl rfl rfl rfl rfl rfl rfl (by simp) ?_)))
   refine D_end (x_then (D_weak [(0, v_a), (1, (.int .i64 (((kk + 1) + 1) + x3.Pattern.Args.length))), (5, (.int .i64 ((i : Nat) : Int)))] ⟨rfl, rfl, rfl, trivial⟩ (C_seq (C_reg (p1 rfl (q1 rfl (D_add rfl rfl rfl rfl (by omega)) (p1 rfl (D_end (x_then (C_seq (C_reg ?_)))))))))))
   refine p1 rfl <| p1 rfl <| p1 rfl (li rfl (cv b_59 rfl rfl rfl rfl (fun w' hs => (laws_markText w' ((((kk + 1) + 1) + x3.Pattern.Args.length) + 1) (by first | assumption | omega | (unfold szm at *; split at * <;> omega)))) ?_))
   refine q1 rfl (D_ixh 1 s_93 rfl rfl rfl rfl rfl) (q1 rfl (D_fa f_147_3 rfl rfl) (li rfl (sh (n := 5) (f := 4) 1 rfl z_9 rfl rfl rfl rfl rfl rfl rfl (by simp) ?_)))
   refine D_end (x_then (C_reg (p1 rfl (q1 rfl (D_add rfl rfl rfl rfl (by omega)) (p1 rfl (D_end (x_blk (x_then (C_reg (p1 rfl (q1 rfl (D_add rfl rfl rfl (r := ((i + 1 : Nat) : Int)) (by omega) (by omega)) ?_)))))))))))
   refine p1 rfl (D_end (x_then (pk_Cond (r := (⟨kk, ⟨(markS (kk + 1)), mkSs ((kk + 1) + 1) x3.Pattern.Args⟩, (markS (((kk + 1) + 1) + x3.Pattern.Args.length)), (markS ((((kk + 1) + 1) + x3.Pattern.Args.length) + 1))⟩ : Cond)) (D_put (D_eq 0 rfl (show ((mapAt fCo cCo k a i).set i (⟨kk, ⟨(markS (kk + 1)), mkSs ((kk + 1) + 1) x3.Pattern.Args⟩, (markS (((kk + 1) + 1) + x3.Pattern.Args.length)), (markS ((((kk + 1) + 1) + x3.Pattern.Args.length) + 1))⟩ : Cond) : (List Cond)) = mapAt fCo cCo k a (i + 1) from by exact mk_set hi hx4 hk rfl) (fun ac w' hf hs => ⟨_, ?_, i + 1, (((((kk + 1) + 1) + x3.Pattern.Args.length) + 1) + 1), ?_, ?_, rfl, hf.weak ⟨rfl, rfl, rfl, trivial⟩, hs⟩))))))
   ·omega
   ·first | assumption | omega | simp
   ·omega
  ·have pr2 : ¬ (((i : Nat) : Int) : Int) < (((mapAt fCo cCo k a i).length : Nat) : Int) := of_decide_eq_false h2
   refine C_exit (x_then_exit (x_then_exit (x_blk_eq (x_then (C_seq (C_reg (p1 rfl <| p1 rfl (D_end (x_then (C_ret (D_eq 0 rfl (show (mapAt fCo cCo k a i : (List Cond)) = mapS fCo cCo k a from by exact mapAt_done (by omega)) ?_)))))))))))
   refine R_1 rfl rfl fun w' hs => ⟨congrArg (fun z => Ending.returned (Value.int .i64 z)) ?_, hs⟩
   show (kk : Int) = k + sumC cCo a
   rw [List.take_of_length_le (by omega)] at hk; exact hk

theorem laws_markActionS (w0 : World) (Hs : List Chunk) (w : World) (v_a : Value) (a : (List Action)) (k : Int) (h0 : 0 ≤ k) (h1 : k + sumC cAc a ≤ 4611686018427387904) (hst : St w0 (ov [v_a] (a : (List Action)) :: Hs) w) : Calls Tryz.prog 61 [v_a, (.int .i64 k)].toArray w (fun e w' => e = .returned (.int .i64 (k + sumC cAc a)) ∧ St w0 (ov [v_a] (mapS fAc cAc k a : (List Action)) :: Hs) w') := by
 have hm1 := rd_max (rd_own (k := 0) hst rfl)
 refine enterS 37 Tryz.func61 rfl rfl rfl hst (C_seq (C_reg (p1 rfl (D_end (x_then (D_H (ov [v_a] (a : (List Action)) :: Hs) rfl (C_seq (C_seq (C_reg (p1 rfl (D_end ?_)))))))))))
 refine x_then (C_block (C_loop (fun m_ ac w' => ∃ (i : Nat), ∃ (kk : Int), (i ≤ a.length) ∧ (kk = k + sumC cAc (a.take i)) ∧ m_ = a.length - i ∧ Fits ac 37 [(0, v_a), (1, (.int .i64 kk)), (5, (.int .i64 ((i : Nat) : Int)))] ∧ St w0 (ov [v_a] (mapAt fAc cAc k a i : (List Action)) :: Hs) w') ?_ ?_))
 ·refine D_eq 0 rfl (show (a : (List Action)) = mapAt fAc cAc k a 0 from by rw [mapAt_zero]) (fun ac w' hf hs => ⟨_, 0, k, ?_, ?_, rfl, hf.weak ⟨rfl, rfl, rfl, trivial⟩, hs⟩)
  ·first | assumption | omega | simp
  ·simp [sumC]
 ·rintro m_ ac w' ⟨i, kk, hi, hk, rfl, hf, hs⟩
  refine D.use ?_ hf hs
  clear hf hs ac w'
  have hcl := mapAt_len (f := fAc) (c := cAc) (k := k) hi
  have htk := sumC_take_le a cAc i
  refine C_seq (C_seq (C_reg (p1 rfl <| p1 rfl (q1 rfl (D_leno 0 s_94 rfl rfl rfl) (p1 rfl (D_end (x_then (D_H (ov [v_a] (mapAt fAc cAc k a i : (List Action)) :: Hs) rfl (C_if _ rfl (fun h2 => ?_) (fun h2 => ?_))))))))))
  ·have pr2 : (((i : Nat) : Int) : Int) < (((mapAt fAc cAc k a i).length : Nat) : Int) := of_decide_eq_true h2
   refine C_skip (x_then (C_seq (C_block (C_seq (C_reg (p1 rfl <| p1 rfl <| p1 rfl ?_))))))
   obtain ⟨x3, hx4⟩ := some_of_lt (l := (mapAt fAc cAc k a i)) (i := i) (by omega)
   refine D_take hx4 fun es5 => ?_
   refine D_pre (fun w' hs => shape_Action (rd_own (k := 0) hs rfl)) ?_
   rintro ⟨v6, rfl, ho7⟩
   refine q1 rfl (D_ixh 1 s_94 rfl rfl rfl rfl rfl) ?_
   have hstep := mk_step hi hx4 hk
   have hcc : cAc x3 = 2 + x3.Pattern.Args.length := rfl
   refine q1 rfl (D_fa f_159_0 rfl rfl) (D_unpair (α := Int) (β := Go.Sy.Pattern) (c1 := [(.int .i64 x3.Kind)]) (c2 := [(.string x3.Pattern.Rel), v6]) (x := x3.Kind) (y := (x3.Pattern)) rfl rfl (D_fd [] 1 rfl (li rfl (sh (n := 3) (f := 0) 1 rfl z_3 rfl rfl rfl rfl rfl rfl rfl (by simp) ?_))))
   refine D_end (x_then (C_seq (C_reg (p1 rfl (q1 rfl (D_add rfl rfl rfl rfl (by omega)) (p1 rfl (D_end (x_then (C_seq (C_reg (p1 rfl <| p1 rfl <| p1 rfl ?_)))))))))))
   refine li rfl (cv b_59 rfl rfl rfl rfl (fun w' hs => (laws_markText w' (kk + 1) (by first | assumption | omega | (unfold szm at *; split at * <;> omega)))) ?_)
   refine q1 rfl (D_ixh 1 s_94 rfl rfl rfl rfl rfl) (q1 rfl (D_fa f_159_1 rfl rfl) (q1 rfl (D_fa' f_145_0 rfl rfl (q := 1) rfl) (li rfl (sh (n := 3) (f := 1) 1 rfl z_9 rfl rfl rfl rfl rfl rfl rfl (by simp) ?_))))
   refine D_end (x_then (D_weak [(0, v_a), (1, (.int .i64 (kk + 1))), (5, (.int .i64 ((i : Nat) : Int)))] ⟨rfl, rfl, rfl, trivial⟩ (C_seq (C_reg (p1 rfl (q1 rfl (D_add rfl rfl rfl rfl (by omega)) (p1 rfl (D_end (x_then (C_reg (p1 rfl <| p1 rfl ?_)))))))))))
   refine q1 rfl (D_ixh 1 s_94 rfl rfl rfl rfl rfl) (q1 rfl (D_fa f_159_1 rfl rfl) (q1 rfl (D_fa' f_145_1 rfl rfl (q := 2) rfl) (q1 rfl (lh (n := 3) 1 rfl o_58 rfl rfl rfl rfl) (p1 rfl (D_unpair (α := ByteArray) (β := (List ByteArray)) (c1 := [(.string x3.Pattern.Rel)]) (c2 := [v6]) (x := x3.Pattern.Rel) (y := (x3.Pattern.Args)) rfl rfl (D_fd [] 1 rfl (li rfl (cm b_62 rfl rfl rfl rfl (fun w' hs => laws_markStringS _ _ w' v6 x3.Pattern.Args ((kk + 1) + 1) (by first | assumption | omega | (simp only; omega)) (by first | assumption | omega | (simp only; omega)) hs) ?_))))))))
   refine p1 rfl (D_end (x_blk (x_then (C_reg (p1 rfl (q1 rfl (D_add rfl rfl rfl (r := ((i + 1 : Nat) : Int)) (by omega) (by omega)) (p1 rfl (D_end (x_then (pk_Action (r := (⟨kk, ⟨(markS (kk + 1)), mkSs ((kk + 1) + 1) x3.Pattern.Args⟩⟩ : Action)) (D_put ?_)))))))))))
   refine D_eq 0 rfl (show ((mapAt fAc cAc k a i).set i (⟨kk, ⟨(markS (kk + 1)), mkSs ((kk + 1) + 1) x3.Pattern.Args⟩⟩ : Action) : (List Action)) = mapAt fAc cAc k a (i + 1) from by exact mk_set hi hx4 hk rfl) (fun ac w' hf hs => ⟨_, ?_, i + 1, (((kk + 1) + 1) + x3.Pattern.Args.length), ?_, ?_, rfl, hf.weak ⟨rfl, rfl, rfl, trivial⟩, hs⟩)
   ·omega
   ·first | assumption | omega | simp
   ·omega
  ·have pr2 : ¬ (((i : Nat) : Int) : Int) < (((mapAt fAc cAc k a i).length : Nat) : Int) := of_decide_eq_false h2
   refine C_exit (x_then_exit (x_then_exit (x_blk_eq (x_then (C_seq (C_reg (p1 rfl <| p1 rfl (D_end (x_then (C_ret (D_eq 0 rfl (show (mapAt fAc cAc k a i : (List Action)) = mapS fAc cAc k a from by exact mapAt_done (by omega)) ?_)))))))))))
   refine R_1 rfl rfl fun w' hs => ⟨congrArg (fun z => Ending.returned (Value.int .i64 z)) ?_, hs⟩
   show (kk : Int) = k + sumC cAc a
   rw [List.take_of_length_le (by omega)] at hk; exact hk

theorem laws_markRuleS (w0 : World) (Hs : List Chunk) (w : World) (v_a : Value) (a : (List Rule)) (k : Int) (h0 : 0 ≤ k) (h1 : k + sumC cRu a ≤ 4611686018427387904) (hst : St w0 (ov [v_a] (a : (List Rule)) :: Hs) w) : Calls Tryz.prog 18 [v_a, (.int .i64 k)].toArray w (fun e w' => e = .returned (.int .i64 (k + sumC cRu a)) ∧ St w0 (ov [v_a] (mapS fRu cRu k a : (List Rule)) :: Hs) w') := by
 have hm1 := rd_max (rd_own (k := 0) hst rfl)
 refine enterS 42 Tryz.func18 rfl rfl rfl hst (C_seq (C_reg (p1 rfl (D_end (x_then (D_H (ov [v_a] (a : (List Rule)) :: Hs) rfl (C_seq (C_seq (C_reg (p1 rfl (D_end ?_)))))))))))
 refine x_then (C_block (C_loop (fun m_ ac w' => ∃ (i : Nat), ∃ (kk : Int), (i ≤ a.length) ∧ (kk = k + sumC cRu (a.take i)) ∧ m_ = a.length - i ∧ Fits ac 42 [(0, v_a), (1, (.int .i64 kk)), (5, (.int .i64 ((i : Nat) : Int)))] ∧ St w0 (ov [v_a] (mapAt fRu cRu k a i : (List Rule)) :: Hs) w') ?_ ?_))
 ·refine D_eq 0 rfl (show (a : (List Rule)) = mapAt fRu cRu k a 0 from by rw [mapAt_zero]) (fun ac w' hf hs => ⟨_, 0, k, ?_, ?_, rfl, hf.weak ⟨rfl, rfl, rfl, trivial⟩, hs⟩)
  ·first | assumption | omega | simp
  ·simp [sumC]
 ·rintro m_ ac w' ⟨i, kk, hi, hk, rfl, hf, hs⟩
  refine D.use ?_ hf hs
  clear hf hs ac w'
  have hcl := mapAt_len (f := fRu) (c := cRu) (k := k) hi
  have htk := sumC_take_le a cRu i
  refine C_seq (C_seq (C_reg (p1 rfl <| p1 rfl (q1 rfl (D_leno 0 s_40 rfl rfl rfl) (p1 rfl (D_end (x_then (D_H (ov [v_a] (mapAt fRu cRu k a i : (List Rule)) :: Hs) rfl (C_if _ rfl (fun h2 => ?_) (fun h2 => ?_))))))))))
  ·have pr2 : (((i : Nat) : Int) : Int) < (((mapAt fRu cRu k a i).length : Nat) : Int) := of_decide_eq_true h2
   refine C_skip (x_then (C_seq (C_block (C_seq (C_reg (p1 rfl <| p1 rfl <| p1 rfl (li rfl (cv b_59 rfl rfl rfl rfl (fun w' hs => (laws_markText w' kk (by first | assumption | omega | (unfold szm at *; split at * <;> omega)))) ?_))))))))
   obtain ⟨x3, hx4⟩ := some_of_lt (l := (mapAt fRu cRu k a i)) (i := i) (by omega)
   refine D_take hx4 fun es5 => ?_
   refine D_pre (fun w' hs => shape_Rule (rd_own (k := 0) hs rfl)) ?_
   rintro ⟨v6, v7, rfl, ho8, ho9⟩
   refine q1 rfl (D_ixh 1 s_40 rfl rfl rfl rfl rfl) ?_
   have hstep := mk_step hi hx4 hk
   have hcc : cRu x3 = 2 + sumC cCo x3.If + sumC cAc x3.Then := rfl
   refine q1 rfl (D_fa f_96_0 rfl rfl) (D_unpair (α := ByteArray) (β := Int × (List Cond) × (List Action)) (c1 := [(.string x3.Name)]) (c2 := [(.int .i64 x3.Priority), v6, v7]) (x := x3.Name) (y := (x3.Priority, x3.If, x3.Then)) rfl rfl (D_fd [] 1 rfl (D_unpair (α := Int) (β := (List Cond) × (List Action)) (c1 := [(.int .i64 x3.Priority)]) (c2 := [v6, v7]) (x := x3.Priority) (y := (x3.If, x3.Then)) rfl rfl (D_fd [] 1 rfl (D_unpair (α := (List Cond)) (β := (List Action)) (c1 := [v6]) (c2 := [v7]) (x := x3.If) (y := (x3.Then)) rfl rfl (D_fd [1] 0 rfl (li rfl (sh (n := 4) (f := 0) 2 rfl z_9 rfl rfl rfl rfl rfl rfl rfl (by simp) ?_))))))))
   refine D_end (x_then (C_seq (C_reg (p1 rfl (q1 rfl (D_add rfl rfl rfl rfl (by omega)) (p1 rfl (D_end (x_then (C_seq (C_reg (p1 rfl <| p1 rfl <| p1 rfl ?_)))))))))))
   refine q1 rfl (D_ixh 2 s_40 rfl rfl rfl rfl rfl) (q1 rfl (D_fa f_96_1 rfl rfl) (li rfl (sh (n := 4) (f := 1) 2 rfl z_3 rfl rfl rfl rfl rfl rfl rfl (by simp) ?_)))
   refine D_end (x_then (D_weak [(0, v_a), (1, (.int .i64 (kk + 1))), (5, (.int .i64 ((i : Nat) : Int)))] ⟨rfl, rfl, rfl, trivial⟩ (C_seq (C_reg (p1 rfl (q1 rfl (D_add rfl rfl rfl rfl (by omega)) (p1 rfl (D_end (x_then (C_seq (C_reg ?_)))))))))))
   refine p1 rfl <| p1 rfl (q1 rfl (D_ixh 2 s_40 rfl rfl rfl rfl rfl) (q1 rfl (D_fa f_96_2 rfl rfl) (q1 rfl (lh (n := 4) 2 rfl o_93 rfl rfl rfl rfl) (p1 rfl (D_fd [1] 0 rfl (li rfl (cm b_60 rfl rfl rfl rfl (fun w' hs => laws_markCondS _ _ w' v6 x3.If ((kk + 1) + 1) (by first | assumption | omega | (simp only; omega)) (by first | assumption | omega | (simp only; omega)) hs) ?_)))))))
   refine p1 rfl (D_end (x_then (C_reg (p1 rfl <| p1 rfl (q1 rfl (D_ixh 2 s_40 rfl rfl rfl rfl rfl) (q1 rfl (D_fa f_96_3 rfl rfl) (q1 rfl (lh (n := 4) 2 rfl o_94 rfl rfl rfl rfl) (p1 rfl (D_fd [1] 0 rfl (li rfl (cm b_61 rfl rfl rfl rfl (fun w' hs => laws_markActionS _ _ w' v7 x3.Then (((kk + 1) + 1) + sumC cCo x3.If) (by first | assumption | omega | (simp only; omega)) (by first | assumption | omega | (simp only; omega)) hs) ?_)))))))))))
   refine p1 rfl (D_end (x_blk (x_then (D_weak [(0, v_a), (1, (.int .i64 ((((kk + 1) + 1) + sumC cCo x3.If) + sumC cAc x3.Then))), (5, (.int .i64 ((i : Nat) : Int)))] ⟨rfl, rfl, rfl, trivial⟩ (C_reg (p1 rfl (q1 rfl (D_add rfl rfl rfl (r := ((i + 1 : Nat) : Int)) (by omega) (by omega)) (p1 rfl (D_end (x_then (D_fd [0, 1] 0 rfl ?_)))))))))))
   refine pk_Rule (r := (⟨(markS kk), (kk + 1), mapS fCo cCo ((kk + 1) + 1) x3.If, mapS fAc cAc (((kk + 1) + 1) + sumC cCo x3.If) x3.Then⟩ : Rule)) (D_put (D_eq 0 rfl (show ((mapAt fRu cRu k a i).set i (⟨(markS kk), (kk + 1), mapS fCo cCo ((kk + 1) + 1) x3.If, mapS fAc cAc (((kk + 1) + 1) + sumC cCo x3.If) x3.Then⟩ : Rule) : (List Rule)) = mapAt fRu cRu k a (i + 1) from by exact mk_set hi hx4 hk rfl) (fun ac w' hf hs => ⟨_, ?_, i + 1, ((((kk + 1) + 1) + sumC cCo x3.If) + sumC cAc x3.Then), ?_, ?_, rfl, hf.weak ⟨rfl, rfl, rfl, trivial⟩, hs⟩)))
   ·omega
   ·first | assumption | omega | simp
   ·omega
  ·have pr2 : ¬ (((i : Nat) : Int) : Int) < (((mapAt fRu cRu k a i).length : Nat) : Int) := of_decide_eq_false h2
   refine C_exit (x_then_exit (x_then_exit (x_blk_eq (x_then (C_seq (C_reg (p1 rfl <| p1 rfl (D_end (x_then (C_ret (D_eq 0 rfl (show (mapAt fRu cRu k a i : (List Rule)) = mapS fRu cRu k a from by exact mapAt_done (by omega)) ?_)))))))))))
   refine R_1 rfl rfl fun w' hs => ⟨congrArg (fun z => Ending.returned (Value.int .i64 z)) ?_, hs⟩
   show (kk : Int) = k + sumC cRu a
   rw [List.take_of_length_le (by omega)] at hk; exact hk

theorem laws_markStampS (w0 : World) (Hs : List Chunk) (w : World) (v_a : Value) (a : (List Stamp)) (k : Int) (h0 : 0 ≤ k) (h1 : k + sumC cSt a ≤ 4611686018427387904) (hst : St w0 (ov [v_a] (a : (List Stamp)) :: Hs) w) : Calls Tryz.prog 19 [v_a, (.int .i64 k)].toArray w (fun e w' => e = .returned (.int .i64 (k + sumC cSt a)) ∧ St w0 (ov [v_a] (mapS fSt cSt k a : (List Stamp)) :: Hs) w') := by
 have hm1 := rd_max (rd_own (k := 0) hst rfl)
 refine enterS 37 Tryz.func19 rfl rfl rfl hst (C_seq (C_reg (p1 rfl (D_end (x_then (D_H (ov [v_a] (a : (List Stamp)) :: Hs) rfl (C_seq (C_seq (C_reg (p1 rfl (D_end ?_)))))))))))
 refine x_then (C_block (C_loop (fun m_ ac w' => ∃ (i : Nat), ∃ (kk : Int), (i ≤ a.length) ∧ (kk = k + sumC cSt (a.take i)) ∧ m_ = a.length - i ∧ Fits ac 37 [(0, v_a), (1, (.int .i64 kk)), (5, (.int .i64 ((i : Nat) : Int)))] ∧ St w0 (ov [v_a] (mapAt fSt cSt k a i : (List Stamp)) :: Hs) w') ?_ ?_))
 ·refine D_eq 0 rfl (show (a : (List Stamp)) = mapAt fSt cSt k a 0 from by rw [mapAt_zero]) (fun ac w' hf hs => ⟨_, 0, k, ?_, ?_, rfl, hf.weak ⟨rfl, rfl, rfl, trivial⟩, hs⟩)
  ·first | assumption | omega | simp
  ·simp [sumC]
 ·rintro m_ ac w' ⟨i, kk, hi, hk, rfl, hf, hs⟩
  refine D.use ?_ hf hs
  clear hf hs ac w'
  have hcl := mapAt_len (f := fSt) (c := cSt) (k := k) hi
  have htk := sumC_take_le a cSt i
  refine C_seq (C_seq (C_reg (p1 rfl <| p1 rfl (q1 rfl (D_leno 0 s_42 rfl rfl rfl) (p1 rfl (D_end (x_then (D_H (ov [v_a] (mapAt fSt cSt k a i : (List Stamp)) :: Hs) rfl (C_if _ rfl (fun h2 => ?_) (fun h2 => ?_))))))))))
  ·have pr2 : (((i : Nat) : Int) : Int) < (((mapAt fSt cSt k a i).length : Nat) : Int) := of_decide_eq_true h2
   refine C_skip (x_then (C_seq (C_block (C_seq (C_reg (p1 rfl <| p1 rfl <| p1 rfl (li rfl (cv b_59 rfl rfl rfl rfl (fun w' hs => (laws_markText w' kk (by first | assumption | omega | (unfold szm at *; split at * <;> omega)))) ?_))))))))
   obtain ⟨x3, hx4⟩ := some_of_lt (l := (mapAt fSt cSt k a i)) (i := i) (by omega)
   refine D_take hx4 fun es5 => ?_
   refine D_pre (fun w' hs => shape_Stamp (rd_own (k := 0) hs rfl)) ?_
   rintro ⟨v6, rfl, ho7⟩
   refine q1 rfl (D_ixh 1 s_42 rfl rfl rfl rfl rfl) ?_
   have hstep := mk_step hi hx4 hk
   have hcc : cSt x3 = 2 + x3.Fact.Args.length := rfl
   refine q1 rfl (D_fa f_100_0 rfl rfl) (q1 rfl (D_fa' f_70_0 rfl rfl (q := 0) rfl) (D_unpair (α := Go.Sy.Fact) (β := Int) (c1 := [(.string x3.Fact.Rel), v6]) (c2 := [(.int .i64 x3.Time)]) (x := x3.Fact) (y := (x3.Time)) rfl rfl (D_fd [1] 0 rfl (D_fd [] 1 rfl (li rfl (sh (n := 3) (f := 0) 1 rfl z_9 rfl rfl rfl rfl rfl rfl rfl (by simp) ?_))))))
   refine D_end (x_then (C_seq (C_reg (p1 rfl (q1 rfl (D_add rfl rfl rfl rfl (by omega)) (p1 rfl (D_end (x_then (C_seq (C_reg (p1 rfl <| p1 rfl ?_)))))))))))
   refine q1 rfl (D_ixh 1 s_42 rfl rfl rfl rfl rfl) (q1 rfl (D_fa f_100_0 rfl rfl) (q1 rfl (D_fa' f_70_1 rfl rfl (q := 1) rfl) (q1 rfl (lh (n := 3) 1 rfl o_58 rfl rfl rfl rfl) (p1 rfl (D_unpair (α := ByteArray) (β := (List ByteArray)) (c1 := [(.string x3.Fact.Rel)]) (c2 := [v6]) (x := x3.Fact.Rel) (y := (x3.Fact.Args)) rfl rfl (D_fd [] 1 rfl (li rfl (cm b_62 rfl rfl rfl rfl (fun w' hs => laws_markStringS _ _ w' v6 x3.Fact.Args (kk + 1) (by first | assumption | omega | (simp only; omega)) (by first | assumption | omega | (simp only; omega)) hs) ?_))))))))
   refine p1 rfl (D_end (x_then (D_weak [(0, v_a), (1, (.int .i64 ((kk + 1) + x3.Fact.Args.length))), (5, (.int .i64 ((i : Nat) : Int)))] ⟨rfl, rfl, rfl, trivial⟩ (C_seq (C_reg (p1 rfl <| p1 rfl <| p1 rfl (q1 rfl (D_ixh 1 s_42 rfl rfl rfl rfl rfl) (q1 rfl (D_fa f_100_1 rfl rfl) (li rfl (sh (n := 3) (f := 2) 1 rfl z_3 rfl rfl rfl rfl rfl rfl rfl (by simp) ?_))))))))))
   refine D_end (x_then (C_reg (p1 rfl (q1 rfl (D_add rfl rfl rfl rfl (by omega)) (p1 rfl (D_end (x_blk (x_then (C_reg (p1 rfl (q1 rfl (D_add rfl rfl rfl (r := ((i + 1 : Nat) : Int)) (by omega) (by omega)) ?_)))))))))))
   refine p1 rfl (D_end (x_then (pk_Stamp (r := (⟨⟨(markS kk), mkSs (kk + 1) x3.Fact.Args⟩, ((kk + 1) + x3.Fact.Args.length)⟩ : Stamp)) (D_put (D_eq 0 rfl (show ((mapAt fSt cSt k a i).set i (⟨⟨(markS kk), mkSs (kk + 1) x3.Fact.Args⟩, ((kk + 1) + x3.Fact.Args.length)⟩ : Stamp) : (List Stamp)) = mapAt fSt cSt k a (i + 1) from by exact mk_set hi hx4 hk rfl) (fun ac w' hf hs => ⟨_, ?_, i + 1, (((kk + 1) + x3.Fact.Args.length) + 1), ?_, ?_, rfl, hf.weak ⟨rfl, rfl, rfl, trivial⟩, hs⟩))))))
   ·omega
   ·first | assumption | omega | simp
   ·omega
  ·have pr2 : ¬ (((i : Nat) : Int) : Int) < (((mapAt fSt cSt k a i).length : Nat) : Int) := of_decide_eq_false h2
   refine C_exit (x_then_exit (x_then_exit (x_blk_eq (x_then (C_seq (C_reg (p1 rfl <| p1 rfl (D_end (x_then (C_ret (D_eq 0 rfl (show (mapAt fSt cSt k a i : (List Stamp)) = mapS fSt cSt k a from by exact mapAt_done (by omega)) ?_)))))))))))
   refine R_1 rfl rfl fun w' hs => ⟨congrArg (fun z => Ending.returned (Value.int .i64 z)) ?_, hs⟩
   show (kk : Int) = k + sumC cSt a
   rw [List.take_of_length_le (by omega)] at hk; exact hk
end Go.Sy.Eng5
