/-
  Contracts of functions of the program, walked (printed by a program of ours).
  Conditions: those that each theorem states.
-/
import Derived.Test.YtbdgibigmfmfeaaDoorBel1
import Derived.Test.YtbdgibigmfmfeaaDoorTypes
import Derived.Test.YtbdgibigmfmfeaaDoorBase
import Derived.Test.YtbdgibigmfmfeaaDoorFmt
import Derived.Test.YtbdgibigmfmfeaaDoorShelf
set_option linter.unusedVariables false
set_option maxRecDepth 20000
namespace Go.Sy.Fmt1
open Go Go.RowKit Go.Proofs Go.Sy
theorem mixed : Tryd.prog.follows .mixedOrders = true := by kernel_rfl
theorem b_15 : hasBody Tryd.prog 15 = true := by kernel_rfl
theorem u8_5 : Tryd.prog.underlying 5 = some (.int .u8) := by kernel_rfl
theorem ui_3 : Tryd.prog.underlying 3 = some (.int .i64) := by kernel_rfl
theorem s_36 : sliceTy Tryd.prog 36 = some (5, 1, 1) := by kernel_rfl
theorem y_5 : zeroTy Tryd.prog 5 = some (.int .u8 0) := by kernel_rfl
theorem usl_36 : Tryd.prog.underlying 36 = some (.slice 5) := by kernel_rfl
theorem us_9 : Tryd.prog.underlying 9 = some .string := by kernel_rfl
theorem b_10 : hasBody Tryd.prog 10 = true := by kernel_rfl
theorem s_22 : sliceTy Tryd.prog 22 = some (3, 1, 8) := by kernel_rfl
theorem o_3 : oneTy Tryd.prog 3 = true := by kernel_rfl
theorem f_27_0 : fieldOff Tryd.prog 27 0 = some 0 := by kernel_rfl
theorem f_27_1 : fieldOff Tryd.prog 27 1 = some 1 := by kernel_rfl
theorem o_22 : oneTy Tryd.prog 22 = true := by kernel_rfl
theorem b_11 : hasBody Tryd.prog 11 = true := by kernel_rfl
theorem f_27_2 : fieldOff Tryd.prog 27 2 = some 2 := by kernel_rfl
theorem b_13 : hasBody Tryd.prog 13 = true := by kernel_rfl
theorem a_24 : aggTy Tryd.prog 24 = some 3 := by kernel_rfl
theorem b_4 : hasBody Tryd.prog 4 = true := by kernel_rfl
theorem b_6 : hasBody Tryd.prog 6 = true := by kernel_rfl
theorem b_5 : hasBody Tryd.prog 5 = true := by kernel_rfl
theorem y_27 : zeroTy Tryd.prog 27 = some (.agg #[(.int .i64 0), (.slice none 0 0), (.slice none 0 0)]) := by kernel_rfl
theorem z_27 : sizeTy Tryd.prog 27 = some 3 := by kernel_rfl
theorem a_27 : aggTy Tryd.prog 27 = some 3 := by kernel_rfl
theorem b_7 : hasBody Tryd.prog 7 = true := by kernel_rfl
theorem b_8 : hasBody Tryd.prog 8 = true := by kernel_rfl
open Go.Sy.Bel1
def Tb (w : World) : Prop := Lib.TabIs Tryd.prog w "internal/strconv.uint64pow10" .u64 Lib.pow10Tab
theorem tb_g : Tryd.prog.globalNamed "internal/strconv.uint64pow10" = some 0 := by kernel_rfl
theorem Tb.ext {w w' : World} (h : Tb w) (e : Ex w w') : Tb w' := by
  have hc := Lib.TabIs.cell h tb_g 0 (by decide)
  have hlt : 0 < w.heap.size := lt_of_cell hc
  unfold Tb Lib.TabIs World.var? at *
  simp only [tb_g, Option.bind_some] at h ⊢
  rw [e.block 0 hlt]
  exact h
theorem ex_grow (w : World) (k : Nat) (os : Array Obj) : Ex w (Go.Sort.grow (w.drewN k) os) :=
  ⟨rfl, rfl, rfl, by simp [Go.Sort.grow, World.drewN], fun g hg => by
    show (w.heap ++ os)[g]? = w.heap[g]?
    rw [Array.getElem?_append_left hg]⟩
theorem strconv_Itoa_c (w : World) (n : Int) (hr : -9223372036854775808 ≤ n ∧ n ≤ 9223372036854775807) (htb : Tb w) : Calls Tryd.prog 15 [Value.int .i64 n].toArray w (Val w (.string (itoaB n))) :=
  (Tryd.strconv_Itoa n hr.1 hr.2 w htb).mono fun e w' ⟨he, k, os, hw⟩ => ⟨he, hw ▸ ex_grow w k os⟩
theorem impl_FormatInt (w : World) (n : Int) (hr : -9223372036854775808 ≤ n ∧ n ≤ 9223372036854775807) (htb : Tb w) : Calls Tryd.prog 13 [(.int .i64 n)].toArray w (Val w (.string (itoaB n))) := by
  refine enter 5 Tryd.func13 rfl rfl rfl ?_
  refine C_seq ?_
  refine C_reg ?_
  refine p1 rfl ?_
  refine D_end ?_
  refine x_then ?_
  refine C_seq ?_
  refine C_reg ?_
  refine p1 rfl ?_
  refine li rfl (cv b_15 rfl rfl rfl rfl (fun w' hs => (strconv_Itoa_c w' n (by first | assumption | omega | (unfold szm at *; split at * <;> omega)) (Tb.ext htb hs.bel))) ?_)
  refine p1 rfl ?_
  refine D_end ?_
  refine x_then ?_
  refine C_ret ?_
  refine R_1 rfl rfl fun w' hs => ⟨congrArg (fun z => Ending.returned (Value.string z)) ?_, hs.bel⟩
  show ((itoaB n) : ByteArray) = itoaB n
  rfl

theorem spec_FormatInt_p (w : World) (n : Int) (hr : 0 ≤ n ∧ n ≤ 9223372036854775807) : Calls Tryd.prog 10 [(.int .i64 n)].toArray w (Val w (.string (itoaB n))) := by
  refine enter 25 Tryd.func10 rfl rfl rfl ?_
  refine C_seq ?_
  refine C_reg ?_
  refine p1 rfl ?_
  refine D_end ?_
  refine x_then ?_
  refine C_seq ?_
  refine C_seq ?_
  refine C_reg ?_
  refine p1 rfl <| p1 rfl ?_
  refine D_end ?_
  refine x_then ?_
  refine C_if _ rfl (fun h1 => ?_) (fun h1 => ?_)
  · have pr1 : (n : Int) = (-9223372036854775808) := eq_of_beq h1
    refine C_seq ?_
    exfalso; omega
  · have pr1 : (n : Int) ≠ (-9223372036854775808) := ne_of_beq_false h1
    refine C_skip ?_
    refine x_then ?_
    refine C_seq ?_
    refine C_seq ?_
    refine C_reg ?_
    refine p1 rfl <| p1 rfl ?_
    refine D_end ?_
    refine x_then ?_
    refine C_if _ rfl (fun h2 => ?_) (fun h2 => ?_)
    · have pr2 : (n : Int) < 0 := of_decide_eq_true h2
      refine C_seq ?_
      exfalso; omega
    · have pr2 : ¬ (n : Int) < 0 := of_decide_eq_false h2
      refine C_skip ?_
      refine x_then ?_
      refine C_seq ?_
      refine C_reg ?_
      refine p1 rfl ?_
      refine D_end ?_
      refine x_then ?_
      refine C_block ?_
      refine C_loop (fun m_ ac w' => ∃ (nn : Int), ∃ (s : ByteArray), (digT n nn s) ∧ m_ = nn.toNat ∧ Fits ac 25 [(0, (.int .i64 nn)), (3, (.string s))] ∧ St w ([]) w') ?_ ?_
      · refine fun ac w' hf hs => ⟨_, n, ⟨#[]⟩, ?_, rfl, hf.weak ⟨rfl, rfl, trivial⟩, hs⟩
        · exact digT_zero (by omega)
      · rintro m_ ac w' ⟨nn, s, hd, rfl, hf, hs⟩
        refine D.use ?_ hf hs
        clear hf hs ac w'
        have hd0 := hd.1
        have hd1 := hd.2.1
        have hsz := digT_sz hd (by omega)
        have htm := tmod10 hd0
        refine C_block ?_
        refine C_seq ?_
        refine C_reg ?_
        refine p1 rfl ?_
        refine q1 rfl (D_rem rfl rfl rfl rfl) ?_
        refine q1 rfl (D_add rfl rfl rfl rfl (by omega)) ?_
        refine q1 rfl (D_cv8 u8_5 ⟨_, ui_3⟩ rfl rfl (by omega)) ?_
        refine li rfl (D_bs s_36 y_5 rfl (by decide) (by decide) rfl rfl rfl rfl rfl rfl fun g3 => ?_)
        refine q1 rfl (D_cvbs 0 usl_36 u8_5 us_9 rfl rfl rfl) ?_
        refine p1 rfl ?_
        refine q1 rfl (D_cat rfl rfl rfl (by show 1 + s.size ≤ 9223372036854775807; omega)) ?_
        refine p1 rfl ?_
        refine D_end ?_
        refine x_then ?_
        refine D_H ([bx g3 [(.int .u8 (48 + (Int.tmod nn 10)))]]) rfl ?_
        refine C_seq ?_
        refine C_reg ?_
        refine p1 rfl ?_
        refine q1 rfl (D_quo rfl rfl rfl (by omega) (by omega)) ?_
        refine p1 rfl ?_
        refine D_end ?_
        refine x_then ?_
        refine C_seq ?_
        refine C_reg ?_
        refine p1 rfl <| p1 rfl ?_
        refine D_end ?_
        refine x_then ?_
        refine C_if _ rfl (fun h4 => ?_) (fun h4 => ?_)
        · have pr4 : ((nn / 10) : Int) = 0 := eq_of_beq h4
          refine C_seq ?_
          refine C_reg ?_
          refine p1 rfl <| p1 rfl ?_
          refine D_end ?_
          refine x_then ?_
          refine D_weak [(2, (.string ((⟨#[UInt8.ofNat (48 + (Int.tmod nn 10)).toNat]⟩ : ByteArray) ++ s)))] ⟨rfl, trivial⟩ ?_
          refine D_sel (H' := []) [false] rfl ?_
          refine C_ret ?_
          refine x_blk_ret ?_
          refine x_then_ret ?_
          refine x_blk_ret ?_
          refine R_1 rfl rfl fun w' hs => ⟨congrArg (fun z => Ending.returned (Value.string z)) ?_, hs.bel⟩
          show (((⟨#[UInt8.ofNat (48 + (Int.tmod nn 10)).toNat]⟩ : ByteArray) ++ s) : ByteArray) = itoaB n
          exact digT_done hd (by omega)
        · have pr4 : ((nn / 10) : Int) ≠ 0 := ne_of_beq_false h4
          refine C_skip ?_
          refine x_blk ?_
          refine x_then ?_
          refine fun ac w' hf hs => ⟨_, ?_, (nn / 10), ((⟨#[UInt8.ofNat (48 + (Int.tmod nn 10)).toNat]⟩ : ByteArray) ++ s), ?_, rfl, hf.weak ⟨rfl, rfl, trivial⟩, hs.pk [] rfl rfl⟩
          · omega
          · exact digT_step hd (by omega)

theorem spec_FormatInt (w : World) (n : Int) (hr : -9223372036854775808 ≤ n ∧ n ≤ 9223372036854775807) : Calls Tryd.prog 10 [(.int .i64 n)].toArray w (Val w (.string (itoaB n))) := by
  refine enter 25 Tryd.func10 rfl rfl rfl ?_
  refine C_seq ?_
  refine C_reg ?_
  refine p1 rfl ?_
  refine D_end ?_
  refine x_then ?_
  refine C_seq ?_
  refine C_seq ?_
  refine C_reg ?_
  refine p1 rfl <| p1 rfl ?_
  refine D_end ?_
  refine x_then ?_
  refine C_if _ rfl (fun h1 => ?_) (fun h1 => ?_)
  · have pr1 : (n : Int) = (-9223372036854775808) := eq_of_beq h1
    refine C_seq ?_
    refine C_reg ?_
    refine p1 rfl ?_
    refine D_end ?_
    refine x_then ?_
    refine C_ret ?_
    refine x_then_ret ?_
    refine R_1 rfl rfl fun w' hs => ⟨congrArg (fun z => Ending.returned (Value.string z)) ?_, hs.bel⟩
    show (⟨#[45, 57, 50, 50, 51, 51, 55, 50, 48, 51, 54, 56, 53, 52, 55, 55, 53, 56, 48, 56]⟩ : ByteArray) = itoaB n
    rw [show n = -9223372036854775808 by omega]; exact itoa_min
  · have pr1 : (n : Int) ≠ (-9223372036854775808) := ne_of_beq_false h1
    refine C_skip ?_
    refine x_then ?_
    refine C_seq ?_
    refine C_seq ?_
    refine C_reg ?_
    refine p1 rfl <| p1 rfl ?_
    refine D_end ?_
    refine x_then ?_
    refine C_if _ rfl (fun h2 => ?_) (fun h2 => ?_)
    · have pr2 : (n : Int) < 0 := of_decide_eq_true h2
      refine C_seq ?_
      refine C_reg ?_
      refine p1 rfl ?_
      refine q1 rfl (D_neg rfl rfl rfl (by omega)) ?_
      refine li rfl (cv b_10 rfl rfl rfl rfl (fun w' hs => (spec_FormatInt_p w' (-n) (by first | assumption | omega | (unfold szm at *; split at * <;> omega)))) ?_)
      refine q1 rfl (D_cat rfl rfl rfl (by have := itoaB_size (n := -n) (by omega) (by omega); show 1 + (itoaB (-n)).size ≤ 9223372036854775807; omega)) ?_
      refine p1 rfl ?_
      refine D_end ?_
      refine x_then ?_
      refine C_ret ?_
      refine x_then_ret ?_
      refine R_1 rfl rfl fun w' hs => ⟨congrArg (fun z => Ending.returned (Value.string z)) ?_, hs.bel⟩
      show ((⟨#[45]⟩ ++ (itoaB (-n))) : ByteArray) = itoaB n
      exact itoa_neg (by omega) (by omega)
    · have pr2 : ¬ (n : Int) < 0 := of_decide_eq_false h2
      refine C_skip ?_
      refine x_then ?_
      refine C_seq ?_
      refine C_reg ?_
      refine p1 rfl ?_
      refine D_end ?_
      refine x_then ?_
      refine C_block ?_
      refine C_loop (fun m_ ac w' => ∃ (nn : Int), ∃ (s : ByteArray), (digT n nn s) ∧ m_ = nn.toNat ∧ Fits ac 25 [(0, (.int .i64 nn)), (3, (.string s))] ∧ St w ([]) w') ?_ ?_
      · refine fun ac w' hf hs => ⟨_, n, ⟨#[]⟩, ?_, rfl, hf.weak ⟨rfl, rfl, trivial⟩, hs⟩
        · exact digT_zero (by omega)
      · rintro m_ ac w' ⟨nn, s, hd, rfl, hf, hs⟩
        refine D.use ?_ hf hs
        clear hf hs ac w'
        have hd0 := hd.1
        have hd1 := hd.2.1
        have hsz := digT_sz hd (by omega)
        have htm := tmod10 hd0
        refine C_block ?_
        refine C_seq ?_
        refine C_reg ?_
        refine p1 rfl ?_
        refine q1 rfl (D_rem rfl rfl rfl rfl) ?_
        refine q1 rfl (D_add rfl rfl rfl rfl (by omega)) ?_
        refine q1 rfl (D_cv8 u8_5 ⟨_, ui_3⟩ rfl rfl (by omega)) ?_
        refine li rfl (D_bs s_36 y_5 rfl (by decide) (by decide) rfl rfl rfl rfl rfl rfl fun g3 => ?_)
        refine q1 rfl (D_cvbs 0 usl_36 u8_5 us_9 rfl rfl rfl) ?_
        refine p1 rfl ?_
        refine q1 rfl (D_cat rfl rfl rfl (by show 1 + s.size ≤ 9223372036854775807; omega)) ?_
        refine p1 rfl ?_
        refine D_end ?_
        refine x_then ?_
        refine D_H ([bx g3 [(.int .u8 (48 + (Int.tmod nn 10)))]]) rfl ?_
        refine C_seq ?_
        refine C_reg ?_
        refine p1 rfl ?_
        refine q1 rfl (D_quo rfl rfl rfl (by omega) (by omega)) ?_
        refine p1 rfl ?_
        refine D_end ?_
        refine x_then ?_
        refine C_seq ?_
        refine C_reg ?_
        refine p1 rfl <| p1 rfl ?_
        refine D_end ?_
        refine x_then ?_
        refine C_if _ rfl (fun h4 => ?_) (fun h4 => ?_)
        · have pr4 : ((nn / 10) : Int) = 0 := eq_of_beq h4
          refine C_seq ?_
          refine C_reg ?_
          refine p1 rfl <| p1 rfl ?_
          refine D_end ?_
          refine x_then ?_
          refine D_weak [(2, (.string ((⟨#[UInt8.ofNat (48 + (Int.tmod nn 10)).toNat]⟩ : ByteArray) ++ s)))] ⟨rfl, trivial⟩ ?_
          refine D_sel (H' := []) [false] rfl ?_
          refine C_ret ?_
          refine x_blk_ret ?_
          refine x_then_ret ?_
          refine x_blk_ret ?_
          refine R_1 rfl rfl fun w' hs => ⟨congrArg (fun z => Ending.returned (Value.string z)) ?_, hs.bel⟩
          show (((⟨#[UInt8.ofNat (48 + (Int.tmod nn 10)).toNat]⟩ : ByteArray) ++ s) : ByteArray) = itoaB n
          exact digT_done hd (by omega)
        · have pr4 : ((nn / 10) : Int) ≠ 0 := ne_of_beq_false h4
          refine C_skip ?_
          refine x_blk ?_
          refine x_then ?_
          refine fun ac w' hf hs => ⟨_, ?_, (nn / 10), ((⟨#[UInt8.ofNat (48 + (Int.tmod nn 10)).toNat]⟩ : ByteArray) ++ s), ?_, rfl, hf.weak ⟨rfl, rfl, trivial⟩, hs.pk [] rfl rfl⟩
          · omega
          · exact digT_step hd (by omega)

theorem spec_l11Ints (w : World) (v_l : Value) (l : (List Int)) (h_l : Gd.rd w [v_l] l) (ho : okIs l) (hll : l.length ≤ 1048576) : Calls Tryd.prog 11 [v_l].toArray w (Val w (.string (intsB l ⟨#[]⟩))) := by
  have hm1 := rd_max h_l
  have hc0 : (⟨#[]⟩ : ByteArray).size = 0 := rfl
  have hc1 : (⟨#[32]⟩ : ByteArray).size = 1 := rfl
  have hc3 : (⟨#[32, 60, 45]⟩ : ByteArray).size = 3 := rfl
  have hc4 : (⟨#[32, 110, 111, 116]⟩ : ByteArray).size = 4 := rfl
  refine enter 20 Tryd.func11 rfl rfl rfl ?_
  refine C_seq ?_
  refine C_reg ?_
  refine p1 rfl ?_
  refine D_end ?_
  refine x_then ?_
  refine C_seq ?_
  refine C_reg ?_
  refine p1 rfl ?_
  refine D_end ?_
  refine x_then ?_
  refine C_seq ?_
  refine C_seq ?_
  refine C_reg ?_
  refine p1 rfl ?_
  refine D_end ?_
  refine x_then ?_
  refine C_block ?_
  refine C_loop (fun m_ ac w' => ∃ (k : Nat), ∃ (s : ByteArray), (k ≤ l.length) ∧ (s = intsT l k ⟨#[]⟩) ∧ m_ = l.length - k ∧ Fits ac 20 [(0, v_l), (3, (.string s)), (4, (.int .i64 ((k : Nat) : Int)))] ∧ St w ([]) w') ?_ ?_
  · refine fun ac w' hf hs => ⟨_, 0, ⟨#[]⟩, ?_, ?_, rfl, hf.weak ⟨rfl, rfl, rfl, trivial⟩, hs⟩
    · first | assumption | omega | simp
    · rfl
  · rintro m_ ac w' ⟨k, s, hk, hsv, rfl, hf, hs⟩
    refine D.use ?_ hf hs
    clear hf hs ac w'
    have hz := intsT_sz ho ⟨#[]⟩ k
    rw [← hsv] at hz
    refine C_seq ?_
    refine C_seq ?_
    refine C_reg ?_
    refine p1 rfl <| p1 rfl ?_
    refine q1 rfl (D_len s_22 rfl rfl (rd_sl h_l)) ?_
    refine p1 rfl ?_
    refine D_end ?_
    refine x_then ?_
    refine C_if _ rfl (fun h2 => ?_) (fun h2 => ?_)
    · have pr2 : (((k : Nat) : Int) : Int) < ((l.length : Nat) : Int) := of_decide_eq_true h2
      refine C_skip ?_
      refine x_then ?_
      refine C_seq ?_
      refine C_block ?_
      refine C_reg ?_
      refine p1 rfl ?_
      refine q1 rfl (D_cat rfl rfl rfl (by first | omega | (simp only [ByteArray.size_append]; omega))) ?_
      refine p1 rfl <| p1 rfl ?_
      obtain ⟨x3, hx4⟩ := some_of_lt (l := l) (i := k) (by omega)
      have hr0 := ho _ (List.mem_of_getElem? hx4)
      have hr1 := itoaB_size hr0.1 hr0.2
      obtain ⟨es5, at6, hr7⟩ := rd_elem (n := 1) rfl h_l hx4
      obtain rfl : es5 = [.int .i64 x3] := hr7
      refine q1 rfl (D_ix (l := l) (j := k) s_22 rfl rfl rfl (fun w' hs => (rd_at hs h_l)) rfl (lt_of_some hx4)) ?_
      refine q1 rfl (lr0 o_3 rfl rfl at6 rfl) ?_
      refine li rfl (cv b_10 rfl rfl rfl rfl (fun w' hs => (spec_FormatInt w' x3 hr0)) ?_)
      refine q1 rfl (D_cat rfl rfl rfl (by first | omega | (simp only [ByteArray.size_append]; omega))) ?_
      refine p1 rfl ?_
      refine D_end ?_
      refine x_blk ?_
      refine x_then ?_
      refine C_reg ?_
      refine p1 rfl ?_
      refine q1 rfl (D_add rfl rfl rfl (r := ((k + 1 : Nat) : Int)) (by omega) (by omega)) ?_
      refine p1 rfl ?_
      refine D_end ?_
      refine x_then ?_
      refine fun ac w' hf hs => ⟨_, ?_, k + 1, ((s ++ ⟨#[32]⟩) ++ (itoaB x3)), ?_, ?_, rfl, hf.weak ⟨rfl, rfl, rfl, trivial⟩, hs⟩
      · omega
      · first | assumption | omega | simp
      · rw [hsv]; exact intsT_step2 hx4
    · have pr2 : ¬ (((k : Nat) : Int) : Int) < ((l.length : Nat) : Int) := of_decide_eq_false h2
      refine C_exit ?_
      refine x_then_exit ?_
      refine x_then_exit ?_
      refine x_blk_eq ?_
      refine x_then ?_
      refine C_seq ?_
      refine C_reg ?_
      refine p1 rfl <| p1 rfl ?_
      refine D_end ?_
      refine x_then ?_
      refine C_ret ?_
      refine R_1 rfl rfl fun w' hs => ⟨congrArg (fun z => Ending.returned (Value.string z)) ?_, hs.bel⟩
      show (s : ByteArray) = intsB l ⟨#[]⟩
      rw [hsv]; exact intsT_done (by omega)

theorem spec_FormatReason (w : World) (c_r : List Value) (r : Reason) (h_r : Gd.rd w c_r r) (ho : okRe r) (hsz : szR r ≤ 1048576) : Calls Tryd.prog 5 [(.agg c_r.toArray)].toArray w (Val w (.string (fmtR r))) := by
  obtain ⟨u1, u3, rfl, hu2, hu4⟩ := open_Reason h_r
  have hm5 := rd_max hu2
  have hm6 := rd_max hu4
  have hc0 : (⟨#[]⟩ : ByteArray).size = 0 := rfl
  have hc1 : (⟨#[32]⟩ : ByteArray).size = 1 := rfl
  have hc3 : (⟨#[32, 60, 45]⟩ : ByteArray).size = 3 := rfl
  have hc4 : (⟨#[32, 110, 111, 116]⟩ : ByteArray).size = 4 := rfl
  have hf := itoaB_size ho.1.1 ho.1.2
  have hI := intsB_sz ho.2.1 ⟨#[]⟩
  have hO := intsB_sz ho.2.2 ⟨#[]⟩
  unfold szR at hsz
  refine enter 23 Tryd.func5 rfl rfl rfl ?_
  refine C_seq ?_
  refine C_reg ?_
  refine li rfl (D_box rfl rfl rfl rfl rfl fun g7 => ?_)
  refine p1 rfl ?_
  refine D_end ?_
  refine x_then ?_
  refine D_H ([bx g7 [(.int .i64 r.For), u1, u3]]) rfl ?_
  refine C_seq ?_
  refine C_draw mixed [] (by kernel_rfl) ?_
  refine tk 0 rfl (by kernel_rfl) (by kernel_rfl) (by kernel_rfl) rfl (fun _ hs => hs) (D_fb f_27_0 rfl rfl (q := 0) rfl) ?_
  refine tk 1 rfl (by kernel_rfl) (by kernel_rfl) (by kernel_rfl) rfl (fun _ hs => hs) (lb 0 o_3 rfl rfl rfl rfl) ?_
  refine tk 4 rfl (by kernel_rfl) (by kernel_rfl) (by kernel_rfl) rfl (fun _ hs => hs) (D_fb f_27_1 rfl rfl (q := 1) rfl) ?_
  refine tk 5 rfl (by kernel_rfl) (by kernel_rfl) (by kernel_rfl) rfl (fun _ hs => hs) (lb 0 o_22 rfl rfl rfl rfl) ?_
  refine ty 2 rfl (by kernel_rfl) rfl (cv b_10 rfl rfl rfl rfl (fun w' hs => (spec_FormatInt w' r.For ho.1)) ?_)
  refine tS (fun _ hs => hs) ?_
  refine tk 3 rfl (by kernel_rfl) (by kernel_rfl) (by kernel_rfl) rfl (fun _ hs => hs) (D_cat rfl rfl rfl (by first | omega | (simp only [ByteArray.size_append]; omega))) ?_
  refine ty 6 rfl (by kernel_rfl) rfl (cv b_11 rfl rfl rfl rfl (fun w' hs => (spec_l11Ints w' u1 r.In (rd_at hs hu2) (by first | exact ho.2.1 | exact ho.2.2) (by first | assumption | omega | (unfold szm at *; split at * <;> omega)))) ?_)
  refine tS (fun _ hs => hs) ?_
  refine tk 7 rfl (by kernel_rfl) (by kernel_rfl) (by kernel_rfl) rfl (fun _ hs => hs) (D_cat rfl rfl rfl (by first | omega | (simp only [ByteArray.size_append]; omega))) ?_
  refine tk 8 rfl (by kernel_rfl) (by kernel_rfl) (by kernel_rfl) rfl (fun _ hs => hs) (rp rfl) ?_
  refine tE (by kernel_rfl) ?_
  refine x_then ?_
  refine C_seq ?_
  refine C_seq ?_
  refine C_reg ?_
  refine q1 rfl (D_fb f_27_2 rfl rfl (q := 2) rfl) ?_
  refine q1 rfl (lb 0 o_22 rfl rfl rfl rfl) ?_
  refine q1 rfl (D_len s_22 rfl rfl (rd_sl hu4)) ?_
  refine p1 rfl ?_
  refine D_end ?_
  refine x_then ?_
  refine C_if _ rfl (fun h8 => ?_) (fun h8 => ?_)
  · have pr8 : (0 : Int) < ((r.Out.length : Nat) : Int) := of_decide_eq_true h8
    refine C_reg ?_
    refine p1 rfl ?_
    refine q1 rfl (D_cat rfl rfl rfl (by first | omega | (simp only [ByteArray.size_append]; omega))) ?_
    refine q1 rfl (D_fb f_27_2 rfl rfl (q := 2) rfl) ?_
    refine q1 rfl (lb 0 o_22 rfl rfl rfl rfl) ?_
    refine li rfl (cv b_11 rfl rfl rfl rfl (fun w' hs => (spec_l11Ints w' u3 r.Out (rd_at hs hu4) (by first | exact ho.2.1 | exact ho.2.2) (by first | assumption | omega | (unfold szm at *; split at * <;> omega)))) ?_)
    refine q1 rfl (D_cat rfl rfl rfl (by first | omega | (simp only [ByteArray.size_append]; omega))) ?_
    refine p1 rfl ?_
    refine D_end ?_
    refine x_then ?_
    refine D_weak [(3, (.string (((((itoaB r.For) ++ ⟨#[32, 60, 45]⟩) ++ (intsB r.In ⟨#[]⟩)) ++ ⟨#[32, 110, 111, 116]⟩) ++ (intsB r.Out ⟨#[]⟩))))] ⟨rfl, trivial⟩ ?_
    refine D_sel (H' := []) [false] rfl ?_
    refine C_seq ?_
    refine C_reg ?_
    refine p1 rfl <| p1 rfl ?_
    refine D_end ?_
    refine x_then ?_
    refine C_ret ?_
    refine R_1 rfl rfl fun w' hs => ⟨congrArg (fun z => Ending.returned (Value.string z)) ?_, hs.bel⟩
    show ((((((itoaB r.For) ++ ⟨#[32, 60, 45]⟩) ++ (intsB r.In ⟨#[]⟩)) ++ ⟨#[32, 110, 111, 116]⟩) ++ (intsB r.Out ⟨#[]⟩)) : ByteArray) = fmtR r
    rw [intsB_app, intsB_app]; exact fmtR_t (by omega)
  · have pr8 : ¬ (0 : Int) < ((r.Out.length : Nat) : Int) := of_decide_eq_false h8
    refine C_skip ?_
    refine x_then ?_
    refine D_weak [(3, (.string (((itoaB r.For) ++ ⟨#[32, 60, 45]⟩) ++ (intsB r.In ⟨#[]⟩))))] ⟨rfl, trivial⟩ ?_
    refine D_sel (H' := []) [false] rfl ?_
    refine C_seq ?_
    refine C_reg ?_
    refine p1 rfl <| p1 rfl ?_
    refine D_end ?_
    refine x_then ?_
    refine C_ret ?_
    refine R_1 rfl rfl fun w' hs => ⟨congrArg (fun z => Ending.returned (Value.string z)) ?_, hs.bel⟩
    show ((((itoaB r.For) ++ ⟨#[32, 60, 45]⟩) ++ (intsB r.In ⟨#[]⟩)) : ByteArray) = fmtR r
    rw [intsB_app]; exact fmtR_f2 (by omega)

set_option maxHeartbeats 4000000 in
theorem impl_FormatReason (w : World) (c_r : List Value) (r : Reason) (h_r : Gd.rd w c_r r) (ho : okRe r) (hsz : szR r ≤ 1048576) (htb : Tb w) : Calls Tryd.prog 7 [(.agg c_r.toArray)].toArray w (Val w (.string (fmtR r))) := by
  obtain ⟨u1, u3, rfl, hu2, hu4⟩ := open_Reason h_r
  have hm5 := rd_max hu2
  have hm6 := rd_max hu4
  have hc0 : (⟨#[]⟩ : ByteArray).size = 0 := rfl
  have hc1 : (⟨#[32]⟩ : ByteArray).size = 1 := rfl
  have hc3 : (⟨#[32, 60, 45]⟩ : ByteArray).size = 3 := rfl
  have hc4 : (⟨#[32, 110, 111, 116]⟩ : ByteArray).size = 4 := rfl
  have hf := itoaB_size ho.1.1 ho.1.2
  have hI := intsB_sz ho.2.1 ⟨#[]⟩
  have hO := intsB_sz ho.2.2 ⟨#[]⟩
  unfold szR at hsz
  refine enter 45 Tryd.func7 rfl rfl rfl ?_
  refine C_seq ?_
  refine C_reg ?_
  refine li rfl (D_box rfl rfl rfl rfl rfl fun g7 => ?_)
  refine p1 rfl ?_
  refine D_end ?_
  refine x_then ?_
  refine D_H ([bx g7 [(.int .i64 r.For), u1, u3]]) rfl ?_
  refine C_seq ?_
  refine C_reg ?_
  refine q1 rfl (D_fb f_27_0 rfl rfl (q := 0) rfl) ?_
  refine q1 rfl (lb 0 o_3 rfl rfl rfl rfl) ?_
  refine li rfl (cv b_13 rfl rfl rfl rfl (fun w' hs => (impl_FormatInt w' r.For (by first | exact ho.1 | exact ho.2.1 _ (List.mem_of_getElem? hx0) | exact ho.2.2 _ (List.mem_of_getElem? hx1)) (Tb.ext htb hs.bel))) ?_)
  refine q1 rfl (D_cat rfl rfl rfl (by first | omega | (simp only [ByteArray.size_append]; omega))) ?_
  refine p1 rfl ?_
  refine D_end ?_
  refine x_then ?_
  refine C_seq ?_
  refine C_seq ?_
  refine C_reg ?_
  refine q1 rfl (D_fb f_27_1 rfl rfl (q := 1) rfl) ?_
  refine q1 rfl (lb 0 o_22 rfl rfl rfl rfl) ?_
  refine q1 rfl (D_len s_22 rfl rfl (rd_sl hu2)) ?_
  refine p1 rfl ?_
  refine D_end ?_
  refine x_then ?_
  refine C_block ?_
  refine C_loop (fun m_ ac w' => ∃ (k : Nat), ∃ (s : ByteArray), (k ≤ r.In.length) ∧ (s = intsT r.In k (itoaB r.For ++ ⟨#[32, 60, 45]⟩)) ∧ m_ = r.In.length - k ∧ Fits ac 45 [(1, (.pointer (some ⟨g7, 0, none⟩))), (3, (.string s)), (13, u1), (14, (.int .i64 ((r.In.length : Nat) : Int))), (15, (.int .i64 ((k : Nat) : Int)))] ∧ St w ([bx g7 [(.int .i64 r.For), u1, u3]]) w') ?_ ?_
  · refine fun ac w' hf hs => ⟨_, 0, ((itoaB r.For) ++ ⟨#[32, 60, 45]⟩), ?_, ?_, rfl, hf.weak ⟨rfl, rfl, rfl, rfl, rfl, trivial⟩, hs⟩
    · first | assumption | omega | simp
    · rfl
  · rintro m_ ac w' ⟨k, s, hk, hsv, rfl, hf, hs⟩
    refine D.use ?_ hf hs
    clear hf hs ac w'
    have hzk := intsT_sz ho.2.1 (itoaB r.For ++ ⟨#[32, 60, 45]⟩) k
    rw [← hsv] at hzk
    try simp only [ByteArray.size_append] at hzk
    refine C_seq ?_
    refine C_reg ?_
    refine p1 rfl ?_
    refine D_end ?_
    refine x_then ?_
    refine C_seq ?_
    refine C_if _ rfl (fun h8 => ?_) (fun h8 => ?_)
    · have pr8 : (((k : Nat) : Int) : Int) < ((r.In.length : Nat) : Int) := of_decide_eq_true h8
      refine C_skip ?_
      refine x_then ?_
      refine C_seq ?_
      refine C_block ?_
      refine C_seq ?_
      refine C_reg ?_
      obtain ⟨x0, hx0⟩ := some_of_lt (l := r.In) (i := k) (by omega)
      have hr1 := itoaB_size (ho.2.1 _ (List.mem_of_getElem? hx0)).1 (ho.2.1 _ (List.mem_of_getElem? hx0)).2
      obtain ⟨es9, at10, hr11⟩ := rd_elem (n := 1) rfl hu2 hx0
      obtain rfl : es9 = [.int .i64 x0] := hr11
      refine q1 rfl (D_ix (l := r.In) (j := k) s_22 rfl rfl rfl (fun w' hs => (rd_at hs hu2)) rfl (lt_of_some hx0)) ?_
      refine q1 rfl (lr0 o_3 rfl rfl at10 rfl) ?_
      refine p1 rfl ?_
      refine D_end ?_
      refine x_then ?_
      refine C_reg ?_
      refine p1 rfl <| p1 rfl ?_
      refine li rfl (cv b_13 rfl rfl rfl rfl (fun w' hs => (impl_FormatInt w' x0 (by first | exact ho.1 | exact ho.2.1 _ (List.mem_of_getElem? hx0) | exact ho.2.2 _ (List.mem_of_getElem? hx1)) (Tb.ext htb hs.bel))) ?_)
      refine q1 rfl (D_cat rfl rfl rfl (by first | omega | (simp only [ByteArray.size_append]; omega))) ?_
      refine q1 rfl (D_cat rfl rfl rfl (by first | omega | (simp only [ByteArray.size_append]; omega))) ?_
      refine p1 rfl ?_
      refine D_end ?_
      refine x_blk ?_
      refine x_then ?_
      refine C_reg ?_
      refine q1 rfl (D_add rfl rfl rfl (r := ((k + 1 : Nat) : Int)) (by omega) (by omega)) ?_
      refine p1 rfl ?_
      refine D_end ?_
      refine x_then ?_
      refine fun ac w' hf hs => ⟨_, ?_, k + 1, (s ++ (⟨#[32]⟩ ++ (itoaB x0))), ?_, ?_, rfl, hf.weak ⟨rfl, rfl, rfl, rfl, rfl, trivial⟩, hs⟩
      · omega
      · first | assumption | omega | simp
      · rw [hsv]; exact intsT_step hx0
    · have pr8 : ¬ (((k : Nat) : Int) : Int) < ((r.In.length : Nat) : Int) := of_decide_eq_false h8
      refine C_exit ?_
      refine x_then_exit ?_
      refine x_then_exit ?_
      refine x_blk_eq ?_
      refine x_then ?_
      refine C_seq ?_
      refine C_seq ?_
      refine C_reg ?_
      refine q1 rfl (D_fb f_27_2 rfl rfl (q := 2) rfl) ?_
      refine q1 rfl (lb 0 o_22 rfl rfl rfl rfl) ?_
      refine q1 rfl (D_len s_22 rfl rfl (rd_sl hu4)) ?_
      refine p1 rfl ?_
      refine D_end ?_
      refine x_then ?_
      refine C_if _ rfl (fun h12 => ?_) (fun h12 => ?_)
      · have pr12 : (0 : Int) < ((r.Out.length : Nat) : Int) := of_decide_eq_true h12
        refine C_reg ?_
        refine p1 rfl ?_
        refine q1 rfl (D_cat rfl rfl rfl (by first | omega | (simp only [ByteArray.size_append]; omega))) ?_
        refine p1 rfl ?_
        refine D_end ?_
        refine x_then ?_
        refine C_seq ?_
        refine C_seq ?_
        refine C_reg ?_
        refine q1 rfl (D_fb f_27_2 rfl rfl (q := 2) rfl) ?_
        refine q1 rfl (lb 0 o_22 rfl rfl rfl rfl) ?_
        refine q1 rfl (D_len s_22 rfl rfl (rd_sl hu4)) ?_
        refine p1 rfl ?_
        refine D_end ?_
        refine x_then ?_
        refine C_block ?_
        refine C_loop (fun m_ ac w' => ∃ (k2 : Nat), ∃ (s2 : ByteArray), (k2 ≤ r.Out.length) ∧ (s2 = intsT r.Out k2 (fmtS r)) ∧ m_ = r.Out.length - k2 ∧ Fits ac 45 [(3, (.string s2)), (32, u3), (33, (.int .i64 ((r.Out.length : Nat) : Int))), (34, (.int .i64 ((k2 : Nat) : Int)))] ∧ St w ([bx g7 [(.int .i64 r.For), u1, u3]]) w') ?_ ?_
        · refine fun ac w' hf hs => ⟨_, 0, (s ++ ⟨#[32, 110, 111, 116]⟩), ?_, ?_, rfl, hf.weak ⟨rfl, rfl, rfl, rfl, trivial⟩, hs⟩
          · first | assumption | omega | simp
          · rw [hsv, intsT_done (by omega)]; first | exact fmtS_t (by omega) | exact fmtS_f (by omega)
        · rintro m_ ac w' ⟨k2, s2, hk2, hs2, rfl, hf, hs⟩
          refine D.use ?_ hf hs
          clear hf hs ac w'
          have hzk2 := intsT_sz ho.2.2 (fmtS r) k2
          rw [← hs2] at hzk2
          try simp only [ByteArray.size_append] at hzk2
          have hzS := fmtS_sz ho
          refine C_seq ?_
          refine C_reg ?_
          refine p1 rfl ?_
          refine D_end ?_
          refine x_then ?_
          refine C_seq ?_
          refine C_if _ rfl (fun h13 => ?_) (fun h13 => ?_)
          · have pr13 : (((k2 : Nat) : Int) : Int) < ((r.Out.length : Nat) : Int) := of_decide_eq_true h13
            refine C_skip ?_
            refine x_then ?_
            refine C_seq ?_
            refine C_block ?_
            refine C_seq ?_
            refine C_reg ?_
            obtain ⟨x1, hx1⟩ := some_of_lt (l := r.Out) (i := k2) (by omega)
            have hr2 := itoaB_size (ho.2.2 _ (List.mem_of_getElem? hx1)).1 (ho.2.2 _ (List.mem_of_getElem? hx1)).2
            obtain ⟨es14, at15, hr16⟩ := rd_elem (n := 1) rfl hu4 hx1
            obtain rfl : es14 = [.int .i64 x1] := hr16
            refine q1 rfl (D_ix (l := r.Out) (j := k2) s_22 rfl rfl rfl (fun w' hs => (rd_at hs hu4)) rfl (lt_of_some hx1)) ?_
            refine q1 rfl (lr0 o_3 rfl rfl at15 rfl) ?_
            refine p1 rfl ?_
            refine D_end ?_
            refine x_then ?_
            refine C_reg ?_
            refine p1 rfl <| p1 rfl ?_
            refine li rfl (cv b_13 rfl rfl rfl rfl (fun w' hs => (impl_FormatInt w' x1 (by first | exact ho.1 | exact ho.2.1 _ (List.mem_of_getElem? hx0) | exact ho.2.2 _ (List.mem_of_getElem? hx1)) (Tb.ext htb hs.bel))) ?_)
            refine q1 rfl (D_cat rfl rfl rfl (by first | omega | (simp only [ByteArray.size_append]; omega))) ?_
            refine q1 rfl (D_cat rfl rfl rfl (by first | omega | (simp only [ByteArray.size_append]; omega))) ?_
            refine p1 rfl ?_
            refine D_end ?_
            refine x_blk ?_
            refine x_then ?_
            refine C_reg ?_
            refine q1 rfl (D_add rfl rfl rfl (r := ((k2 + 1 : Nat) : Int)) (by omega) (by omega)) ?_
            refine p1 rfl ?_
            refine D_end ?_
            refine x_then ?_
            refine fun ac w' hf hs => ⟨_, ?_, k2 + 1, (s2 ++ (⟨#[32]⟩ ++ (itoaB x1))), ?_, ?_, rfl, hf.weak ⟨rfl, rfl, rfl, rfl, trivial⟩, hs⟩
            · omega
            · first | assumption | omega | simp
            · rw [hs2]; exact intsT_step hx1
          · have pr13 : ¬ (((k2 : Nat) : Int) : Int) < ((r.Out.length : Nat) : Int) := of_decide_eq_false h13
            refine C_exit ?_
            refine x_then_exit ?_
            refine x_then_exit ?_
            refine x_blk_eq ?_
            refine x_then ?_
            refine C_seq ?_
            refine C_reg ?_
            refine p1 rfl <| p1 rfl ?_
            refine D_end ?_
            refine x_then ?_
            refine C_ret ?_
            refine R_1 rfl rfl fun w' hs => ⟨congrArg (fun z => Ending.returned (Value.string z)) ?_, hs.bel⟩
            show (s2 : ByteArray) = fmtR r
            rw [hs2, intsT_done (by omega)]; rfl
      · have pr12 : ¬ (0 : Int) < ((r.Out.length : Nat) : Int) := of_decide_eq_false h12
        refine C_skip ?_
        refine x_then ?_
        refine C_seq ?_
        refine C_seq ?_
        refine C_reg ?_
        refine q1 rfl (D_fb f_27_2 rfl rfl (q := 2) rfl) ?_
        refine q1 rfl (lb 0 o_22 rfl rfl rfl rfl) ?_
        refine q1 rfl (D_len s_22 rfl rfl (rd_sl hu4)) ?_
        refine p1 rfl ?_
        refine D_end ?_
        refine x_then ?_
        refine C_block ?_
        refine C_loop (fun m_ ac w' => ∃ (k2 : Nat), ∃ (s2 : ByteArray), (k2 ≤ r.Out.length) ∧ (s2 = intsT r.Out k2 (fmtS r)) ∧ m_ = r.Out.length - k2 ∧ Fits ac 45 [(3, (.string s2)), (32, u3), (33, (.int .i64 ((r.Out.length : Nat) : Int))), (34, (.int .i64 ((k2 : Nat) : Int)))] ∧ St w ([bx g7 [(.int .i64 r.For), u1, u3]]) w') ?_ ?_
        · refine fun ac w' hf hs => ⟨_, 0, s, ?_, ?_, rfl, hf.weak ⟨rfl, rfl, rfl, rfl, trivial⟩, hs⟩
          · first | assumption | omega | simp
          · rw [hsv, intsT_done (by omega)]; first | exact fmtS_t (by omega) | exact fmtS_f (by omega)
        · rintro m_ ac w' ⟨k2, s2, hk2, hs2, rfl, hf, hs⟩
          refine D.use ?_ hf hs
          clear hf hs ac w'
          have hzk2 := intsT_sz ho.2.2 (fmtS r) k2
          rw [← hs2] at hzk2
          try simp only [ByteArray.size_append] at hzk2
          have hzS := fmtS_sz ho
          refine C_seq ?_
          refine C_reg ?_
          refine p1 rfl ?_
          refine D_end ?_
          refine x_then ?_
          refine C_seq ?_
          refine C_if _ rfl (fun h17 => ?_) (fun h17 => ?_)
          · have pr17 : (((k2 : Nat) : Int) : Int) < ((r.Out.length : Nat) : Int) := of_decide_eq_true h17
            refine C_skip ?_
            refine x_then ?_
            refine C_seq ?_
            refine C_block ?_
            refine C_seq ?_
            refine C_reg ?_
            obtain ⟨x1, hx1⟩ := some_of_lt (l := r.Out) (i := k2) (by omega)
            have hr2 := itoaB_size (ho.2.2 _ (List.mem_of_getElem? hx1)).1 (ho.2.2 _ (List.mem_of_getElem? hx1)).2
            obtain ⟨es18, at19, hr20⟩ := rd_elem (n := 1) rfl hu4 hx1
            obtain rfl : es18 = [.int .i64 x1] := hr20
            refine q1 rfl (D_ix (l := r.Out) (j := k2) s_22 rfl rfl rfl (fun w' hs => (rd_at hs hu4)) rfl (lt_of_some hx1)) ?_
            refine q1 rfl (lr0 o_3 rfl rfl at19 rfl) ?_
            refine p1 rfl ?_
            refine D_end ?_
            refine x_then ?_
            refine C_reg ?_
            refine p1 rfl <| p1 rfl ?_
            refine li rfl (cv b_13 rfl rfl rfl rfl (fun w' hs => (impl_FormatInt w' x1 (by first | exact ho.1 | exact ho.2.1 _ (List.mem_of_getElem? hx0) | exact ho.2.2 _ (List.mem_of_getElem? hx1)) (Tb.ext htb hs.bel))) ?_)
            refine q1 rfl (D_cat rfl rfl rfl (by first | omega | (simp only [ByteArray.size_append]; omega))) ?_
            refine q1 rfl (D_cat rfl rfl rfl (by first | omega | (simp only [ByteArray.size_append]; omega))) ?_
            refine p1 rfl ?_
            refine D_end ?_
            refine x_blk ?_
            refine x_then ?_
            refine C_reg ?_
            refine q1 rfl (D_add rfl rfl rfl (r := ((k2 + 1 : Nat) : Int)) (by omega) (by omega)) ?_
            refine p1 rfl ?_
            refine D_end ?_
            refine x_then ?_
            refine fun ac w' hf hs => ⟨_, ?_, k2 + 1, (s2 ++ (⟨#[32]⟩ ++ (itoaB x1))), ?_, ?_, rfl, hf.weak ⟨rfl, rfl, rfl, rfl, trivial⟩, hs⟩
            · omega
            · first | assumption | omega | simp
            · rw [hs2]; exact intsT_step hx1
          · have pr17 : ¬ (((k2 : Nat) : Int) : Int) < ((r.Out.length : Nat) : Int) := of_decide_eq_false h17
            refine C_exit ?_
            refine x_then_exit ?_
            refine x_then_exit ?_
            refine x_blk_eq ?_
            refine x_then ?_
            refine C_seq ?_
            refine C_reg ?_
            refine p1 rfl <| p1 rfl ?_
            refine D_end ?_
            refine x_then ?_
            refine C_ret ?_
            refine R_1 rfl rfl fun w' hs => ⟨congrArg (fun z => Ending.returned (Value.string z)) ?_, hs.bel⟩
            show (s2 : ByteArray) = fmtR r
            rw [hs2, intsT_done (by omega)]; rfl

theorem laws_FnExactFormatReason (w : World) (c_aR : List Value) (aR : Reason) (h_aR : Gd.rd w c_aR aR) (hok : okRe aR) (htb : Tb w) : Calls Tryd.prog 3 [(.agg c_aR.toArray)].toArray w (Val w (.bool (true))) := by
  obtain ⟨u1, u3, rfl, hu2, hu4⟩ := open_Reason h_aR
  have hm5 := rd_max hu2
  have hm6 := rd_max hu4
  refine enter 27 Tryd.func3 rfl rfl rfl ?_
  refine C_seq ?_
  refine C_reg ?_
  refine li rfl (D_box rfl rfl rfl rfl rfl fun g7 => ?_)
  refine p1 rfl ?_
  refine D_end ?_
  refine x_then ?_
  refine D_H ([bx g7 [(.int .i64 aR.For), u1, u3]]) rfl ?_
  refine C_seq ?_
  refine C_reg ?_
  refine p1 rfl ?_
  refine D_end ?_
  refine x_then ?_
  refine C_seq ?_
  refine C_reg ?_
  refine q1 rfl (lbw 0 a_24 rfl rfl rfl) ?_
  refine p1 rfl ?_
  refine li rfl (cv b_4 rfl rfl rfl rfl (fun w' hs => (laws_szReason w' [(.int .i64 aR.For), u1, u3] aR 1048576 (rd_at hs h_aR) (by first | assumption | omega | (unfold szm at *; split at * <;> omega)) (by first | assumption | omega | (unfold szm at *; split at * <;> omega)))) ?_)
  refine p1 rfl ?_
  refine D_end ?_
  refine x_then ?_
  refine C_seq ?_
  refine C_seq ?_
  refine C_reg ?_
  refine p1 rfl <| p1 rfl ?_
  refine D_end ?_
  refine x_then ?_
  refine C_if _ rfl (fun h8 => ?_) (fun h8 => ?_)
  · have pr8 : ((szm (szR aR) 1048576) : Int) < 0 := of_decide_eq_true h8
    refine C_seq ?_
    refine C_reg ?_
    refine p1 rfl ?_
    refine D_end ?_
    refine x_then ?_
    refine C_ret ?_
    refine x_then_ret ?_
    refine R_1 rfl rfl fun w' hs => ⟨congrArg (fun z => Ending.returned (Value.bool z)) ?_, hs.bel⟩
    show (true : Bool) = true
    first | rfl | (exfalso; omega) | (exfalso; simp only [mapS_len, sumB_mk, sumR_mk] at *; omega) | exact absurd h8 (by simp [mapS_len])
  · have pr8 : ¬ ((szm (szR aR) 1048576) : Int) < 0 := of_decide_eq_false h8
    have pr8z := szm_val (n := (szR aR)) (left := 1048576) pr8
    refine C_skip ?_
    refine x_then ?_
    refine C_seq ?_
    refine C_reg ?_
    refine q1 rfl (lbw 0 a_24 rfl rfl rfl) ?_
    refine li rfl (crs rfl b_6 rfl rfl rfl rfl (fun w' hs => (laws_toReason w' [(.int .i64 aR.For), u1, u3] aR (rd_at hs h_aR) (by first | assumption | omega | (unfold szm at *; split at * <;> omega)))) fun cs9 => ?_)
    refine D_pre (fun w' hs => shape_Reason (rd_own (k := 0) hs rfl)) ?_
    rintro ⟨v10, v11, rfl, ho12, ho13⟩
    refine li rfl (cv b_5 rfl rfl rfl rfl (fun w' hs => (spec_FormatReason w' [(.int .i64 aR.For), v10, v11] aR (rd_own (k := 0) hs rfl) hok (by first | assumption | omega | (unfold szm at *; split at * <;> omega)))) ?_)
    refine p1 rfl ?_
    refine D_end ?_
    refine x_then ?_
    refine D_H ([ov [(.int .i64 aR.For), v10, v11] (aR : Reason), bx g7 [(.int .i64 aR.For), u1, u3]]) rfl ?_
    refine C_seq ?_
    refine C_reg ?_
    refine q1 rfl (lbw 1 a_24 rfl rfl rfl) ?_
    refine li rfl (crs rfl b_6 rfl rfl rfl rfl (fun w' hs => (laws_toReason w' [(.int .i64 aR.For), u1, u3] aR (rd_at hs h_aR) (by first | assumption | omega | (unfold szm at *; split at * <;> omega)))) fun cs14 => ?_)
    refine D_pre (fun w' hs => shape_Reason (rd_own (k := 0) hs rfl)) ?_
    rintro ⟨v15, v16, rfl, ho17, ho18⟩
    refine li rfl (D_alloc y_27 rfl rfl rfl rfl fun g19 => ?_)
    refine li rfl (D_stb (vs := [(.int .i64 aR.For), v15, v16]) (cs' := [(.int .i64 aR.For), v15, v16]) 0 z_27 rfl rfl rfl rfl rfl rfl (ocons rfl (ocons ho17 (ocons ho18 onil))) (by simp) rfl ?_)
    refine D_end ?_
    refine x_then ?_
    refine D_H ([bx g19 [(.int .i64 aR.For), v15, v16], ov [(.int .i64 aR.For), v15, v16] (aR : Reason), ov [(.int .i64 aR.For), v10, v11] (aR : Reason), bx g7 [(.int .i64 aR.For), u1, u3]]) rfl ?_
    refine C_seq ?_
    refine C_reg ?_
    refine q1 rfl (lbw 0 a_27 rfl rfl rfl) ?_
    refine li rfl (cv b_7 rfl rfl rfl rfl (fun w' hs => (impl_FormatReason w' [(.int .i64 aR.For), v15, v16] aR (rd_own (k := 1) hs rfl) hok (by first | assumption | omega | (unfold szm at *; split at * <;> omega)) (Tb.ext htb hs.bel))) ?_)
    refine p1 rfl ?_
    refine D_end ?_
    refine x_then ?_
    refine D_weak [(1, (.pointer (some ⟨g7, 0, none⟩))), (4, (.string (fmtR aR))), (5, (.pointer (some ⟨g19, 0, none⟩))), (6, (.string (fmtR aR)))] ⟨rfl, rfl, rfl, rfl, trivial⟩ ?_
    refine D_sel (H' := [bx g19 [(.int .i64 aR.For), v15, v16], ov [(.int .i64 aR.For), v15, v16] (aR : Reason), bx g7 [(.int .i64 aR.For), u1, u3]]) [true, true, false, true] rfl ?_
    refine C_seq ?_
    refine C_seq ?_
    refine C_reg ?_
    refine p1 rfl <| p1 rfl ?_
    refine q1 rfl (D_neS rfl rfl rfl) ?_
    refine D_end ?_
    refine x_then ?_
    refine C_if _ rfl (fun h20 => ?_) (fun h20 => ?_)
    · have pr20 : ¬ ((fmtR aR) : ByteArray) = (fmtR aR) := of_decide_eq_false (not_t h20)
      refine C_seq ?_
      refine C_reg ?_
      refine p1 rfl ?_
      refine D_end ?_
      refine x_then ?_
      refine C_ret ?_
      refine x_then_ret ?_
      refine R_1 rfl rfl fun w' hs => ⟨congrArg (fun z => Ending.returned (Value.bool z)) ?_, hs.bel⟩
      show (false : Bool) = true
      first | rfl | (exfalso; omega) | (exfalso; simp only [mapS_len, sumB_mk, sumR_mk] at *; omega) | exact absurd h20 (by simp [mapS_len])
    · have pr20 : ((fmtR aR) : ByteArray) = (fmtR aR) := of_decide_eq_true (not_f h20)
      refine C_skip ?_
      refine x_then ?_
      refine C_seq ?_
      refine C_seq ?_
      refine C_draw mixed [3, 4] (by kernel_rfl) ?_
      refine tk 0 rfl (by kernel_rfl) (by kernel_rfl) (by kernel_rfl) rfl (fun _ hs => hs) (lbw 0 a_27 rfl rfl rfl) ?_
      refine tk 1 rfl (by kernel_rfl) (by kernel_rfl) (by kernel_rfl) rfl (fun _ hs => hs) (lbw 2 a_24 rfl rfl rfl) ?_
      refine ty 2 rfl (by kernel_rfl) rfl (crs rfl b_6 rfl rfl rfl rfl (fun w' hs => (laws_toReason w' [(.int .i64 aR.For), u1, u3] aR (rd_at hs h_aR) (by first | assumption | omega | (unfold szm at *; split at * <;> omega)))) fun cs21 => ?_)
      refine D_pre (fun w' hs => shape_Reason (rd_own (k := 0) hs rfl)) ?_
      rintro ⟨v22, v23, rfl, ho24, ho25⟩
      refine tS (fun _ hs => hs.pk [1, 2, 3] rfl rfl) ?_
      refine ty 3 rfl (by kernel_rfl) rfl (cv b_8 rfl rfl rfl rfl (fun w' hs => (laws_eqReason w' [(.int .i64 aR.For), v15, v16] aR [(.int .i64 aR.For), v22, v23] aR (rd_own (k := 2) hs rfl) (rd_own (k := 0) hs rfl))) ?_)
      refine tZ rfl ?_
      refine ty 4 rfl (by kernel_rfl) rfl (sv rfl rfl (rp rfl) ?_)
      refine tZ rfl ?_
      refine tE (by kernel_rfl) ?_
      refine x_then ?_
      refine D_H ([ov [(.int .i64 aR.For), v22, v23] (aR : Reason), bx g19 [(.int .i64 aR.For), v15, v16], ov [(.int .i64 aR.For), v15, v16] (aR : Reason), bx g7 [(.int .i64 aR.For), u1, u3]]) rfl ?_
      refine C_if _ rfl (fun h26 => ?_) (fun h26 => ?_)
      · have h26n : (decide (aR = aR)) = false := not_t h26
        refine C_seq ?_
        refine C_reg ?_
        refine p1 rfl ?_
        refine D_end ?_
        refine x_then ?_
        refine C_ret ?_
        refine x_then_ret ?_
        refine R_1 rfl rfl fun w' hs => ⟨congrArg (fun z => Ending.returned (Value.bool z)) ?_, hs.bel⟩
        show (false : Bool) = true
        first | rfl | (exfalso; omega) | (exfalso; simp only [mapS_len, sumB_mk, sumR_mk] at *; omega) | exact absurd h26 (by simp [mapS_len])
      · have h26n : (decide (aR = aR)) = true := not_f h26
        refine C_skip ?_
        refine x_then ?_
        refine C_seq ?_
        refine C_reg ?_
        refine p1 rfl ?_
        refine D_end ?_
        refine x_then ?_
        refine C_ret ?_
        refine R_1 rfl rfl fun w' hs => ⟨congrArg (fun z => Ending.returned (Value.bool z)) ?_, hs.bel⟩
        show (true : Bool) = true
        first | rfl | (exfalso; omega) | (exfalso; simp only [mapS_len, sumB_mk, sumR_mk] at *; omega) | exact absurd h26 (by simp [mapS_len])
end Go.Sy.Fmt1
