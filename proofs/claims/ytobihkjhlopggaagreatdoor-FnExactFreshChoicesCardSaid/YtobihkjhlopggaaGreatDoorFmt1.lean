/-
  Contracts of functions of the program, walked (printed by a program of ours).
  Conditions: those that each theorem states.
-/
import Derived.Test.YtobihkjhlopggaaGreatDoorFct
import Derived.Test.YtobihkjhlopggaaGreatDoorBel1
import Derived.Test.YtobihkjhlopggaaGreatDoorTypes
import Derived.Test.YtobihkjhlopggaaGreatDoorBase
import Derived.Test.YtobihkjhlopggaaGreatDoorFmt
import Derived.Test.YtobihkjhlopggaaGreatDoorShelf
set_option linter.unusedVariables false
set_option maxRecDepth 20000
namespace Go.Sy.Fmt1
open Go Go.RowKit Go.Proofs Go.Sy
open Go.Sy.Bel1
def Tb (w : World) : Prop := Lib.TabIs Tryz.prog w "internal/strconv.uint64pow10" .u64 Lib.pow10Tab ∧ ∃ tp p, w.var? Tryz.prog "strconv.ErrSyntax" = some #[.iface tp p]
theorem es_g : Tryz.prog.globalNamed "strconv.ErrSyntax" = some 1 := by kernel_rfl
theorem tb_g : Tryz.prog.globalNamed "internal/strconv.uint64pow10" = some 3 := by kernel_rfl
theorem Tb.ext {w w' : World} (h : Tb w) (e : Ex w w') : Tb w' := by
 obtain ⟨h, tp, p, hv⟩ := h;have hlt2 : 1 < w.heap.size := by
  rcases Nat.lt_or_ge 1 w.heap.size with hh | hh
  ·exact hh
  ·exfalso;unfold World.var? at hv;simp only [es_g, Option.bind_some, Array.getElem?_eq_none hh] at hv
   cases hv
 have hc := Lib.TabIs.cell h tb_g 0 (by decide);have hlt : 3 < w.heap.size := lt_of_cell hc;refine ⟨?_, tp, p, ?_⟩
 rotate_left
 ·unfold World.var? at *;simp only [es_g, Option.bind_some] at hv ⊢;rw [e.block 1 hlt2];exact hv
 unfold Lib.TabIs World.var? at *;simp only [tb_g, Option.bind_some] at h ⊢;rw [e.block 3 hlt];exact h
theorem ex_grow (w : World) (k : Nat) (os : Array Obj) : Ex w (Go.Sort.grow (w.drewN k) os) :=
 ⟨rfl, rfl, rfl, by simp [Go.Sort.grow, World.drewN], fun g hg => by
  show (w.heap ++ os)[g]? = w.heap[g]?;rw [Array.getElem?_append_left hg]⟩
theorem strconv_Itoa_c (w : World) (n : Int) (hr : -9223372036854775808 ≤ n ∧ n ≤ 9223372036854775807) (htb : Tb w) : Cy 269 [Value.int .i64 n] w (Val w (.string (itoaB n))) :=
 (Tryz.strconv_Itoa n hr.1 hr.2 w htb.1).mono fun e w' ⟨he, k, os, hw⟩ => ⟨he, hw ▸ ex_grow w k os⟩
theorem impl_FormatInt {w : World} {n : Int} (hr : -9223372036854775808 ≤ n ∧ n ≤ 9223372036854775807) (htb : Tb w) : Cy 252 [(iv n)] w (Val w (.string (itoaB n))) := by
 refine enter 5 Tryz.func252 Y Y Y (Sr (Pe Y (Sr (p1 Y (li Y (cv b_269 Y Y Y Y (fun w' hs => (strconv_Itoa_c w' n (by assumption) (Tb.ext htb hs.bel))) ?_))))));refine Pe Y (Ct (Rs Y Y ?_));show ((itoaB n) : ByteArray) = _;rfl
theorem spec_FormatInt_p {w : World} {n : Int} (hr : 0 ≤ n ∧ n ≤ 9223372036854775807) : Cy 244 [(iv n)] w (Val w (.string (itoaB n))) := by
 refine enter 25 Tryz.func244 Y Y Y (Sr (Pe Y (Cq (Sr (P2 Y Y (Dx (Ce Y (fun pr1 => ?_) (fun pr1 => ?_))))))))
 ·refine Cq ?_;exfalso; omega
 ·refine Sk (Cq (Sr (P2 Y Y (Dx (Cd Y (fun pr2 => ?_) (fun pr2 => ?_))))))
  ·refine Cq ?_;exfalso; omega
  ·refine Sk (Sr (Pe Y (Cb (Cl (fun m_ ac w' => ∃ (nn : Int), ∃ (s : ByteArray), (digT n nn s) ∧ m_ = nn.toNat ∧ Fits ac 25 [(0, (iv nn)), (3, (.string s))] ∧ St w ([]) w') ?_ ?_))))
   ·refine fun ac w' hf hs => ⟨_, n, ⟨#[]⟩, ?_, Y, hf.wk Y, hs⟩
    ·exact digT_zero (by omega)
   ·rintro m_ ac w' ⟨nn, s, hd, rfl, hf, hs⟩;refine D.use ?_ hf hs;clear hf hs ac w';have hd0 := hd.1;have hd1 := hd.2.1;have hsz := digT_sz hd (by omega);have htm := tmod10 hd0;refine Cb (Sr (p1 Y (q1 Y (D_rem Y Y Y Y) (q1 Y (D_add Y Y Y Y (by omega)) (q1 Y (D_cv8 u8_5 ⟨_, ui_3⟩ Y Y (by omega)) (li Y (D_bs s_166 y_5 Y (by decide) (by decide) Y Y Y Y Y Y fun g3 => ?_)))))));refine q1 Y (D_cvbs 0 usl_166 u8_5 us_9 Y Y Y) (p1 Y (q1 Y (D_cat Y Y Y (by show 1 + s.size ≤ 9223372036854775807; omega)) (Pe Y (Dh ([bx g3 [(.int .u8 (48 + (Int.tmod nn 10)))]]) Y (Sr (p1 Y (q1 Y (D_quo Y Y Y (by omega) (by omega)) (Pe Y (Sr (P2 Y Y (Dx (Ce Y (fun pr4 => ?_) (fun pr4 => ?_)))))))))))))
    ·refine Sr (P2 Y Y (Dx (Ct (Xq (Xr (Xq (Rs Y Y ?_)))))));show (((⟨#[UInt8.ofNat (48 + (Int.tmod nn 10)).toNat]⟩ : ByteArray) ++ s) : ByteArray) = _;exact digT_done hd (by omega)
    ·refine Ck (Xb (Xt (fun ac w' hf hs => ⟨_, ?_, (nn / 10), ((⟨#[UInt8.ofNat (48 + (Int.tmod nn 10)).toNat]⟩ : ByteArray) ++ s), ?_, Y, hf.wk Y, hs.pk [] Y Y⟩)))
     ·omega
     ·exact digT_step hd (by omega)
theorem spec_FormatInt {w : World} {n : Int} (hr : -9223372036854775808 ≤ n ∧ n ≤ 9223372036854775807) : Cy 244 [(iv n)] w (Val w (.string (itoaB n))) := by
 refine enter 25 Tryz.func244 Y Y Y (Sr (Pe Y (Cq (Sr (P2 Y Y (Dx (Ce Y (fun pr1 => ?_) (fun pr1 => ?_))))))))
 ·refine Sr (Pe Y (Ct (Xr (Rs Y Y ?_))));show (⟨#[45, 57, 50, 50, 51, 51, 55, 50, 48, 51, 54, 56, 53, 52, 55, 55, 53, 56, 48, 56]⟩ : ByteArray) = _;rw [show n = -9223372036854775808 by omega]; exact itoa_min
 ·refine Sk (Cq (Sr (P2 Y Y (Dx (Cd Y (fun pr2 => ?_) (fun pr2 => ?_))))))
  ·refine Sr (p1 Y (q1 Y (D_neg Y Y Y (by omega)) (li Y (cv b_244 Y Y Y Y (fun w' hs => (spec_FormatInt_p (by omega))) ?_))));refine q1 Y (D_cat Y Y Y (by have := itoaB_size (n := -n) (by omega) (by omega); show 1 + (itoaB (-n)).size ≤ 9223372036854775807; omega)) (Pe Y (Ct (Xr (Rs Y Y ?_))));show ((⟨#[45]⟩ ++ (itoaB (-n))) : ByteArray) = _;exact itoa_neg (by omega) (by omega)
  ·refine Sk (Sr (Pe Y (Cb (Cl (fun m_ ac w' => ∃ (nn : Int), ∃ (s : ByteArray), (digT n nn s) ∧ m_ = nn.toNat ∧ Fits ac 25 [(0, (iv nn)), (3, (.string s))] ∧ St w ([]) w') ?_ ?_))))
   ·refine fun ac w' hf hs => ⟨_, n, ⟨#[]⟩, ?_, Y, hf.wk Y, hs⟩
    ·exact digT_zero (by omega)
   ·rintro m_ ac w' ⟨nn, s, hd, rfl, hf, hs⟩;refine D.use ?_ hf hs;clear hf hs ac w';have hd0 := hd.1;have hd1 := hd.2.1;have hsz := digT_sz hd (by omega);have htm := tmod10 hd0;refine Cb (Sr (p1 Y (q1 Y (D_rem Y Y Y Y) (q1 Y (D_add Y Y Y Y (by omega)) (q1 Y (D_cv8 u8_5 ⟨_, ui_3⟩ Y Y (by omega)) (li Y (D_bs s_166 y_5 Y (by decide) (by decide) Y Y Y Y Y Y fun g3 => ?_)))))));refine q1 Y (D_cvbs 0 usl_166 u8_5 us_9 Y Y Y) (p1 Y (q1 Y (D_cat Y Y Y (by show 1 + s.size ≤ 9223372036854775807; omega)) (Pe Y (Dh ([bx g3 [(.int .u8 (48 + (Int.tmod nn 10)))]]) Y (Sr (p1 Y (q1 Y (D_quo Y Y Y (by omega) (by omega)) (Pe Y (Sr (P2 Y Y (Dx (Ce Y (fun pr4 => ?_) (fun pr4 => ?_)))))))))))))
    ·refine Sr (P2 Y Y (Dx (Ct (Xq (Xr (Xq (Rs Y Y ?_)))))));show (((⟨#[UInt8.ofNat (48 + (Int.tmod nn 10)).toNat]⟩ : ByteArray) ++ s) : ByteArray) = _;exact digT_done hd (by omega)
    ·refine Ck (Xb (Xt (fun ac w' hf hs => ⟨_, ?_, (nn / 10), ((⟨#[UInt8.ofNat (48 + (Int.tmod nn 10)).toNat]⟩ : ByteArray) ++ s), ?_, Y, hf.wk Y, hs.pk [] Y Y⟩)))
     ·omega
     ·exact digT_step hd (by omega)
end Go.Sy.Fmt1
