/-
  Contracts of functions of the program, walked (printed by a program of ours).
  Conditions: those that each theorem states.
-/
import Derived.Test.YtkbiaedfnpbpfaaGreatDoorEng3
import Derived.Test.YtkbiaedfnpbpfaaGreatDoorFmt1
import Derived.Test.YtkbiaedfnpbpfaaGreatDoorNum
import Derived.Test.YtkbiaedfnpbpfaaGreatDoorShelf
set_option linter.unusedVariables false
set_option maxRecDepth 20000
namespace Go.Sy.Num1
open Go Go.RowKit Go.Proofs Go.Sy
theorem mixed : Tryz.prog.follows .mixedOrders = true := by kernel_rfl
theorem us_9 : Tryz.prog.underlying 9 = some .string := by kernel_rfl
theorem b_219 : hasBody Tryz.prog 219 = true := by kernel_rfl
theorem ifc_219 : Tryz.prog.isIface 219 = true := by kernel_rfl
theorem b_220 : hasBody Tryz.prog 220 = true := by kernel_rfl
theorem b_99 : hasBody Tryz.prog 99 = true := by kernel_rfl
theorem ui_3 : Tryz.prog.underlying 3 = some (.int .i64) := by kernel_rfl
theorem u8_5 : Tryz.prog.underlying 5 = some (.int .u8) := by kernel_rfl
theorem b_217 : hasBody Tryz.prog 217 = true := by kernel_rfl
theorem b_212 : hasBody Tryz.prog 212 = true := by kernel_rfl
theorem b_191 : hasBody Tryz.prog 191 = true := by kernel_rfl
theorem b_189 : hasBody Tryz.prog 189 = true := by kernel_rfl
theorem b_210 : hasBody Tryz.prog 210 = true := by kernel_rfl
theorem b_187 : hasBody Tryz.prog 187 = true := by kernel_rfl
theorem f_70_0 : fieldOff Tryz.prog 70 0 = some 0 := by kernel_rfl
theorem o_9 : oneTy Tryz.prog 9 = true := by kernel_rfl
theorem f_70_1 : fieldOff Tryz.prog 70 1 = some 1 := by kernel_rfl
theorem o_58 : oneTy Tryz.prog 58 = true := by kernel_rfl
theorem s_58 : sliceTy Tryz.prog 58 = some (9, 1, 16) := by kernel_rfl
theorem b_190 : hasBody Tryz.prog 190 = true := by kernel_rfl
theorem b_188 : hasBody Tryz.prog 188 = true := by kernel_rfl
open Go.Sy.Bel1 Go.Sy.Ev1 Go.Sy.Ev2 Go.Sy.Fmt1 Go.Sy.Eng1 Go.Sy.Eng2 Go.Sy.Eng3
theorem strconv_Atoi_c (w : World) (s : ByteArray) (hl : s.size ≤ 18) (htb : Tb w) : Calls Tryz.prog 219 [Value.string s].toArray w (fun e w' => ∃ x, e = .returned (.tuple #[.int .i64 (aN s), x]) ∧ ErrV (aE s) x ∧ Ex w w') := by
  cases e : Lib.atoi s.data.toList with
  | some n =>
    refine (Tryz.strconv_Atoi s n hl e w).mono fun e' w' ⟨he, t, hw⟩ => ⟨.nilIface, ?_, .inr ⟨?_, rfl⟩, ?_⟩
    · rw [he]; simp [aN, e]
    · simp [aE, e]
    · rw [hw]; exact Go.Joins.below_bytesWorld _ w 5 t (Nat.le_refl _)
  | none =>
    obtain ⟨tp, p, hv⟩ := htb.2
    refine (Tryz.strconv_Atoi_err_var s hl e tp p w hv).mono fun e' w' ⟨N, he, _, _, hb⟩ => ?_
    have h0 : aN s = 0 := by simp [aN, e]
    have h1 : aE s = true := by simp [aE, e]
    rw [h0, h1]
    exact ⟨_, he, .inl ⟨rfl, _, _, rfl⟩, hb⟩
theorem strings_Compare_c (w : World) (a b : ByteArray) : Calls Tryz.prog 189 [Value.string a, Value.string b].toArray w (Val w (.int .i64 (cmS a b))) :=
  (Tryz.strings_Compare a b w).mono fun e w' ⟨he, hw⟩ => ⟨by rw [he, cmp_str], hw ▸ Ex.refl w⟩
theorem impl_ParseInt (w : World) (s : ByteArray) (htb : Tb w) : Calls Tryz.prog 212 [(.string s)].toArray w (Res2 w (pI s : Int) (pO s : Bool)) := by
 refine enter 36 Tryz.func212 rfl rfl rfl (Sr (P2 rfl rfl (Dx (Cq (Sr (p1 rfl (q1 rfl (D_lens us_9 rfl rfl) (P2 rfl rfl (gs 9 rfl rfl (fun h1 => ?_) (fun h1 => ?_))))))))))
 ·have pr1 : (((s.size : Nat) : Int) : Int) < 1 := odT h1
  refine n1 rfl (n1 rfl (n1 rfl (Pe rfl (C_t rfl (Sr (P2 rfl rfl (Dx (Ct (Xr (D_fi 0 (D_fbool false (D_pk (H' := [ov [(.int .i64 0)] (0 : Int), ov [(.bool false)] (false : Bool)]) [1, 0] rfl rfl (R_2g rfl (rvt rfl) (rvt rfl) fun w' hs => res2_of (c1 := [(.int .i64 0)]) (c2 := [(.bool false)]) hs ?_ ?_)))))))))))))
  ·show (0 : Int) = pI s
   first | exact (pn_sz (by omega)).1 | exact (pn_sz (by omega)).2 | exact (pn_ae (by assumption)).1 | exact (pn_ae (by assumption)).2 | exact (pn_rng (by omega)).1 | exact (pn_rng (by omega)).2 | exact (pn_ne (by assumption)).1 | exact (pn_ne (by assumption)).2 | exact (pn_t (n := aN s) (by omega) (by omega) (by assumption)).1 | exact (pn_t (n := aN s) (by omega) (by omega) (by assumption)).2
  ·show (false : Bool) = pO s
   first | exact (pn_sz (by omega)).1 | exact (pn_sz (by omega)).2 | exact (pn_ae (by assumption)).1 | exact (pn_ae (by assumption)).2 | exact (pn_rng (by omega)).1 | exact (pn_rng (by omega)).2 | exact (pn_ne (by assumption)).1 | exact (pn_ne (by assumption)).2 | exact (pn_t (n := aN s) (by omega) (by omega) (by assumption)).1 | exact (pn_t (n := aN s) (by omega) (by omega) (by assumption)).2
 ·have pr1 : ¬ (((s.size : Nat) : Int) : Int) < 1 := odF h1
  refine p1 rfl (q1 rfl (D_lens us_9 rfl rfl) (P2 rfl rfl (Dx (Ci _ rfl (fun h2 => ?_) (fun h2 => ?_)))))
  ·have pr2 : (4 : Int) < ((s.size : Nat) : Int) := odT h2
   refine Sr (P2 rfl rfl (Dx (Ct (Xr (D_fi 0 (D_fbool false (D_pk (H' := [ov [(.int .i64 0)] (0 : Int), ov [(.bool false)] (false : Bool)]) [1, 0] rfl rfl (R_2g rfl (rvt rfl) (rvt rfl) fun w' hs => res2_of (c1 := [(.int .i64 0)]) (c2 := [(.bool false)]) hs ?_ ?_))))))))
   ·show (0 : Int) = pI s
    first | exact (pn_sz (by omega)).1 | exact (pn_sz (by omega)).2 | exact (pn_ae (by assumption)).1 | exact (pn_ae (by assumption)).2 | exact (pn_rng (by omega)).1 | exact (pn_rng (by omega)).2 | exact (pn_ne (by assumption)).1 | exact (pn_ne (by assumption)).2 | exact (pn_t (n := aN s) (by omega) (by omega) (by assumption)).1 | exact (pn_t (n := aN s) (by omega) (by omega) (by assumption)).2
   ·show (false : Bool) = pO s
    first | exact (pn_sz (by omega)).1 | exact (pn_sz (by omega)).2 | exact (pn_ae (by assumption)).1 | exact (pn_ae (by assumption)).2 | exact (pn_rng (by omega)).1 | exact (pn_rng (by omega)).2 | exact (pn_ne (by assumption)).1 | exact (pn_ne (by assumption)).2 | exact (pn_t (n := aN s) (by omega) (by omega) (by assumption)).1 | exact (pn_t (n := aN s) (by omega) (by omega) (by assumption)).2
  ·have pr2 : ¬ (4 : Int) < ((s.size : Nat) : Int) := odF h2
   refine Sk (Sr (p1 rfl (li rfl (cve (g := fun x => .tuple #[.int .i64 (aN s), x]) (J := ErrV (aE s)) b_219 rfl rfl rfl rfl (fun w' hs => (strconv_Atoi_c w' s (by first | assumption | omega | (unfold szm at *; split at * <;> omega)) (Tb.ext htb hs.bel))) fun er3 her3 => ?_))))
   refine P3 rfl rfl rfl (P2 rfl rfl (Dx (Dw [(0, (.string s)), (4, (.int .i64 (aN s))), (5, er3)] ⟨rfl, rfl, rfl, trivial⟩ (Cq (Cq ?_)))))
   have har := aN_rng s (by omega)
   refine Cr (p1 rfl (q1 rfl (D_errne ifc_219 rfl rfl her3) (p1 rfl (gs 21 rfl rfl (fun h4 => ?_) (fun h4 => ?_)))))
   ·refine n1 rfl (n1 rfl (P2 rfl rfl (n1 rfl (n1 rfl (P2 rfl rfl (n1 rfl (n1 rfl (n1 rfl (n1 rfl (Pe rfl (Dw [(4, (.int .i64 (aN s))), (34, (.bool true))] ⟨rfl, rfl, trivial⟩ (C_t rfl (Sr (P2 rfl rfl (Dx (Ct (Xr (D_fi 0 (D_fbool false ?_)))))))))))))))))))
    refine D_pk (H' := [ov [(.int .i64 0)] (0 : Int), ov [(.bool false)] (false : Bool)]) [1, 0] rfl rfl (R_2g rfl (rvt rfl) (rvt rfl) fun w' hs => res2_of (c1 := [(.int .i64 0)]) (c2 := [(.bool false)]) hs ?_ ?_)
    ·show (0 : Int) = pI s
     first | exact (pn_sz (by omega)).1 | exact (pn_sz (by omega)).2 | exact (pn_ae (by assumption)).1 | exact (pn_ae (by assumption)).2 | exact (pn_rng (by omega)).1 | exact (pn_rng (by omega)).2 | exact (pn_ne (by assumption)).1 | exact (pn_ne (by assumption)).2 | exact (pn_t (n := aN s) (by omega) (by omega) (by assumption)).1 | exact (pn_t (n := aN s) (by omega) (by omega) (by assumption)).2
    ·show (false : Bool) = pO s
     first | exact (pn_sz (by omega)).1 | exact (pn_sz (by omega)).2 | exact (pn_ae (by assumption)).1 | exact (pn_ae (by assumption)).2 | exact (pn_rng (by omega)).1 | exact (pn_rng (by omega)).2 | exact (pn_ne (by assumption)).1 | exact (pn_ne (by assumption)).2 | exact (pn_t (n := aN s) (by omega) (by omega) (by assumption)).1 | exact (pn_t (n := aN s) (by omega) (by omega) (by assumption)).2
   ·refine P3 rfl rfl rfl (p1 rfl (gs 25 rfl rfl (fun h5 => ?_) (fun h5 => ?_)))
    ·have pr5 : ((aN s) : Int) < 0 := odT h5
     refine n1 rfl (n1 rfl (P2 rfl rfl (n1 rfl (n1 rfl (n1 rfl (n1 rfl (Pe rfl (Dw [(4, (.int .i64 (aN s))), (34, (.bool true))] ⟨rfl, rfl, trivial⟩ (C_t rfl (Sr (P2 rfl rfl (Dx (Ct (Xr (D_fi 0 (D_fbool false (D_pk (H' := [ov [(.int .i64 0)] (0 : Int), ov [(.bool false)] (false : Bool)]) [1, 0] rfl rfl (R_2g rfl (rvt rfl) (rvt rfl) fun w' hs => res2_of (c1 := [(.int .i64 0)]) (c2 := [(.bool false)]) hs ?_ ?_))))))))))))))))))
     ·show (0 : Int) = pI s
      first | exact (pn_sz (by omega)).1 | exact (pn_sz (by omega)).2 | exact (pn_ae (by assumption)).1 | exact (pn_ae (by assumption)).2 | exact (pn_rng (by omega)).1 | exact (pn_rng (by omega)).2 | exact (pn_ne (by assumption)).1 | exact (pn_ne (by assumption)).2 | exact (pn_t (n := aN s) (by omega) (by omega) (by assumption)).1 | exact (pn_t (n := aN s) (by omega) (by omega) (by assumption)).2
     ·show (false : Bool) = pO s
      first | exact (pn_sz (by omega)).1 | exact (pn_sz (by omega)).2 | exact (pn_ae (by assumption)).1 | exact (pn_ae (by assumption)).2 | exact (pn_rng (by omega)).1 | exact (pn_rng (by omega)).2 | exact (pn_ne (by assumption)).1 | exact (pn_ne (by assumption)).2 | exact (pn_t (n := aN s) (by omega) (by omega) (by assumption)).1 | exact (pn_t (n := aN s) (by omega) (by omega) (by assumption)).2
    ·have pr5 : ¬ ((aN s) : Int) < 0 := odF h5
     refine P3 rfl rfl rfl (p1 rfl (gs 29 rfl rfl (fun h6 => ?_) (fun h6 => ?_)))
     ·have pr6 : (9999 : Int) < (aN s) := odT h6
      refine n1 rfl (n1 rfl (n1 rfl (n1 rfl (Pe rfl (Dw [(4, (.int .i64 (aN s))), (34, (.bool true))] ⟨rfl, rfl, trivial⟩ (C_t rfl (Sr (P2 rfl rfl (Dx (Ct (Xr (D_fi 0 (D_fbool false (D_pk (H' := [ov [(.int .i64 0)] (0 : Int), ov [(.bool false)] (false : Bool)]) [1, 0] rfl rfl (R_2g rfl (rvt rfl) (rvt rfl) fun w' hs => res2_of (c1 := [(.int .i64 0)]) (c2 := [(.bool false)]) hs ?_ ?_)))))))))))))))
      ·show (0 : Int) = pI s
       first | exact (pn_sz (by omega)).1 | exact (pn_sz (by omega)).2 | exact (pn_ae (by assumption)).1 | exact (pn_ae (by assumption)).2 | exact (pn_rng (by omega)).1 | exact (pn_rng (by omega)).2 | exact (pn_ne (by assumption)).1 | exact (pn_ne (by assumption)).2 | exact (pn_t (n := aN s) (by omega) (by omega) (by assumption)).1 | exact (pn_t (n := aN s) (by omega) (by omega) (by assumption)).2
      ·show (false : Bool) = pO s
       first | exact (pn_sz (by omega)).1 | exact (pn_sz (by omega)).2 | exact (pn_ae (by assumption)).1 | exact (pn_ae (by assumption)).2 | exact (pn_rng (by omega)).1 | exact (pn_rng (by omega)).2 | exact (pn_ne (by assumption)).1 | exact (pn_ne (by assumption)).2 | exact (pn_t (n := aN s) (by omega) (by omega) (by assumption)).1 | exact (pn_t (n := aN s) (by omega) (by omega) (by assumption)).2
     ·have pr6 : ¬ (9999 : Int) < (aN s) := odF h6
      refine p1 rfl (li rfl (cv b_220 rfl rfl rfl rfl (fun w' hs => (impl_FormatInt w' (aN s) (by first | assumption | omega | (unfold szm at *; split at * <;> omega)) (Tb.ext htb hs.bel))) ?_))
      refine p1 rfl (q1 rfl (D_neS rfl rfl rfl) (Pe rfl (Dw [(4, (.int .i64 (aN s))), (34, (.bool (!(decide (((itoaB (aN s)) : ByteArray) = s)))))] ⟨rfl, rfl, trivial⟩ (Ci _ rfl (fun h7 => ?_) (fun h7 => ?_)))))
      ·have pr7 : ¬ ((itoaB (aN s)) : ByteArray) = s := of_decide_eq_false (not_t h7)
       refine Sr (P2 rfl rfl (Dx (Ct (Xr (D_fi 0 (D_fbool false (D_pk (H' := [ov [(.int .i64 0)] (0 : Int), ov [(.bool false)] (false : Bool)]) [1, 0] rfl rfl (R_2g rfl (rvt rfl) (rvt rfl) fun w' hs => res2_of (c1 := [(.int .i64 0)]) (c2 := [(.bool false)]) hs ?_ ?_))))))))
       ·show (0 : Int) = pI s
        first | exact (pn_sz (by omega)).1 | exact (pn_sz (by omega)).2 | exact (pn_ae (by assumption)).1 | exact (pn_ae (by assumption)).2 | exact (pn_rng (by omega)).1 | exact (pn_rng (by omega)).2 | exact (pn_ne (by assumption)).1 | exact (pn_ne (by assumption)).2 | exact (pn_t (n := aN s) (by omega) (by omega) (by assumption)).1 | exact (pn_t (n := aN s) (by omega) (by omega) (by assumption)).2
       ·show (false : Bool) = pO s
        first | exact (pn_sz (by omega)).1 | exact (pn_sz (by omega)).2 | exact (pn_ae (by assumption)).1 | exact (pn_ae (by assumption)).2 | exact (pn_rng (by omega)).1 | exact (pn_rng (by omega)).2 | exact (pn_ne (by assumption)).1 | exact (pn_ne (by assumption)).2 | exact (pn_t (n := aN s) (by omega) (by omega) (by assumption)).1 | exact (pn_t (n := aN s) (by omega) (by omega) (by assumption)).2
      ·have pr7 : ((itoaB (aN s)) : ByteArray) = s := of_decide_eq_true (not_f h7)
       refine Sk (Sr (P3 rfl rfl rfl (Dx (Ct (D_fi (aN s) (D_fbool true (D_pk (H' := [ov [(.int .i64 (aN s))] ((aN s) : Int), ov [(.bool true)] (true : Bool)]) [1, 0] rfl rfl (R_2g rfl (rvt rfl) (rvt rfl) fun w' hs => res2_of (c1 := [(.int .i64 (aN s))]) (c2 := [(.bool true)]) hs ?_ ?_))))))))
       ·show ((aN s) : Int) = pI s
        first | exact (pn_sz (by omega)).1 | exact (pn_sz (by omega)).2 | exact (pn_ae (by assumption)).1 | exact (pn_ae (by assumption)).2 | exact (pn_rng (by omega)).1 | exact (pn_rng (by omega)).2 | exact (pn_ne (by assumption)).1 | exact (pn_ne (by assumption)).2 | exact (pn_t (n := aN s) (by omega) (by omega) (by assumption)).1 | exact (pn_t (n := aN s) (by omega) (by omega) (by assumption)).2
       ·show (true : Bool) = pO s
        first | exact (pn_sz (by omega)).1 | exact (pn_sz (by omega)).2 | exact (pn_ae (by assumption)).1 | exact (pn_ae (by assumption)).2 | exact (pn_rng (by omega)).1 | exact (pn_rng (by omega)).2 | exact (pn_ne (by assumption)).1 | exact (pn_ne (by assumption)).2 | exact (pn_t (n := aN s) (by omega) (by omega) (by assumption)).1 | exact (pn_t (n := aN s) (by omega) (by omega) (by assumption)).2
theorem spec_ParseInt (w : World) (s : ByteArray) : Calls Tryz.prog 210 [(.string s)].toArray w (Res2 w (pI s : Int) (pO s : Bool)) := by
 refine enter 39 Tryz.func210 rfl rfl rfl (Sr (P2 rfl rfl (Dx (Cq (Sr (p1 rfl (q1 rfl (D_lens us_9 rfl rfl) (li rfl (cv b_99 rfl rfl rfl rfl (fun w' hs => (spec_l1In w' ((s.size : Nat) : Int) 1 4)) ?_)))))))))
 refine Pe rfl (Ci _ rfl (fun h1 => ?_) (fun h1 => ?_))
 ·have h1n : (inR ((s.size : Nat) : Int) 1 4) = false := not_t h1
  refine Sr (P2 rfl rfl (Dx (Ct (Xr (D_fi 0 (D_fbool false (D_pk (H' := [ov [(.int .i64 0)] (0 : Int), ov [(.bool false)] (false : Bool)]) [1, 0] rfl rfl (R_2g rfl (rvt rfl) (rvt rfl) fun w' hs => res2_of (c1 := [(.int .i64 0)]) (c2 := [(.bool false)]) hs ?_ ?_))))))))
  ·show (0 : Int) = pI s
   first | exact (pn_sz (by unfold inR at *; simp_all; omega)).1 | exact (pn_sz (by unfold inR at *; simp_all; omega)).2 | exact (sp_dig (k := k) (by omega) (by omega)).1 | exact (sp_dig (k := k) (by omega) (by omega)).2 | exact (sp_ne hd (by omega) (by assumption)).1 | exact (sp_ne hd (by omega) (by assumption)).2 | exact (pn_t (n := nn) (by omega) (by omega) (by assumption)).1 | exact (pn_t (n := nn) (by omega) (by omega) (by assumption)).2
  ·show (false : Bool) = pO s
   first | exact (pn_sz (by unfold inR at *; simp_all; omega)).1 | exact (pn_sz (by unfold inR at *; simp_all; omega)).2 | exact (sp_dig (k := k) (by omega) (by omega)).1 | exact (sp_dig (k := k) (by omega) (by omega)).2 | exact (sp_ne hd (by omega) (by assumption)).1 | exact (sp_ne hd (by omega) (by assumption)).2 | exact (pn_t (n := nn) (by omega) (by omega) (by assumption)).1 | exact (pn_t (n := nn) (by omega) (by omega) (by assumption)).2
 ·have h1n : (inR ((s.size : Nat) : Int) 1 4) = true := not_f h1
  refine Sk (Sr (Pe rfl (Cq (Sr (Pe rfl (Cb (Cl (fun m_ ac w' => ∃ (k : Nat), ∃ (nn : Int), (k ≤ s.size) ∧ (dvT s k nn) ∧ m_ = s.size - k ∧ Fits ac 39 [(0, (.string s)), (4, (.int .i64 nn)), (5, (.int .i64 ((k : Nat) : Int)))] ∧ St w ([]) w') ?_ ?_)))))))
  ·refine fun ac w' hf hs => ⟨_, 0, 0, ?_, ?_, rfl, hf.weak ⟨rfl, rfl, rfl, trivial⟩, hs⟩
   ·first | assumption | omega | simp
   ·exact dvT_zero s
  ·rintro m_ ac w' ⟨k, nn, hk, hd, rfl, hf, hs⟩
   refine D.use ?_ hf hs
   clear hf hs ac w'
   have hz4 : s.size ≤ 4 := by unfold inR at *; simp_all; omega
   have hdl0 := dvT_le hd (by omega)
   refine Cq (Sr (P2 rfl rfl (q1 rfl (D_lens us_9 rfl rfl) (Pe rfl (Ci _ rfl (fun h2 => ?_) (fun h2 => ?_))))))
   ·have pr2 : (((k : Nat) : Int) : Int) < ((s.size : Nat) : Int) := odT h2
    refine Sk (Cq (Cb (Cq (Sr (P2 rfl rfl (q1 rfl (D_sidx (j := k) us_9 rfl rfl rfl rfl (by omega)) (P2 rfl rfl (gs 20 rfl rfl (fun h3 => ?_) (fun h3 => ?_)))))))))
    ·have pr3 : ((sB s k) : Int) < 48 := odT h3
     refine n1 rfl (n1 rfl (n1 rfl (n1 rfl (Pe rfl (C_t rfl (Sr (P2 rfl rfl (Dx (Ct (Xr (Xq (Xr (Xr (Xq (Xr (D_fi 0 (D_fbool false (D_pk (H' := [ov [(.int .i64 0)] (0 : Int), ov [(.bool false)] (false : Bool)]) [1, 0] rfl rfl (R_2g rfl (rvt rfl) (rvt rfl) fun w' hs => res2_of (c1 := [(.int .i64 0)]) (c2 := [(.bool false)]) hs ?_ ?_)))))))))))))))))))
     ·show (0 : Int) = pI s
      first | exact (pn_sz (by unfold inR at *; simp_all; omega)).1 | exact (pn_sz (by unfold inR at *; simp_all; omega)).2 | exact (sp_dig (k := k) (by omega) (by omega)).1 | exact (sp_dig (k := k) (by omega) (by omega)).2 | exact (sp_ne hd (by omega) (by assumption)).1 | exact (sp_ne hd (by omega) (by assumption)).2 | exact (pn_t (n := nn) (by omega) (by omega) (by assumption)).1 | exact (pn_t (n := nn) (by omega) (by omega) (by assumption)).2
     ·show (false : Bool) = pO s
      first | exact (pn_sz (by unfold inR at *; simp_all; omega)).1 | exact (pn_sz (by unfold inR at *; simp_all; omega)).2 | exact (sp_dig (k := k) (by omega) (by omega)).1 | exact (sp_dig (k := k) (by omega) (by omega)).2 | exact (sp_ne hd (by omega) (by assumption)).1 | exact (sp_ne hd (by omega) (by assumption)).2 | exact (pn_t (n := nn) (by omega) (by omega) (by assumption)).1 | exact (pn_t (n := nn) (by omega) (by omega) (by assumption)).2
    ·have pr3 : ¬ ((sB s k) : Int) < 48 := odF h3
     refine P2 rfl rfl (q1 rfl (D_sidx (j := k) us_9 rfl rfl rfl rfl (by omega)) (P2 rfl rfl (Dx (Ci _ rfl (fun h4 => ?_) (fun h4 => ?_)))))
     ·have pr4 : (57 : Int) < (sB s k) := odT h4
      refine Sr (P2 rfl rfl (Dx (Ct (Xr (Xq (Xr (Xr (Xq (Xr (D_fi 0 (D_fbool false (D_pk (H' := [ov [(.int .i64 0)] (0 : Int), ov [(.bool false)] (false : Bool)]) [1, 0] rfl rfl (R_2g rfl (rvt rfl) (rvt rfl) fun w' hs => res2_of (c1 := [(.int .i64 0)]) (c2 := [(.bool false)]) hs ?_ ?_)))))))))))))
      ·show (0 : Int) = pI s
       first | exact (pn_sz (by unfold inR at *; simp_all; omega)).1 | exact (pn_sz (by unfold inR at *; simp_all; omega)).2 | exact (sp_dig (k := k) (by omega) (by omega)).1 | exact (sp_dig (k := k) (by omega) (by omega)).2 | exact (sp_ne hd (by omega) (by assumption)).1 | exact (sp_ne hd (by omega) (by assumption)).2 | exact (pn_t (n := nn) (by omega) (by omega) (by assumption)).1 | exact (pn_t (n := nn) (by omega) (by omega) (by assumption)).2
      ·show (false : Bool) = pO s
       first | exact (pn_sz (by unfold inR at *; simp_all; omega)).1 | exact (pn_sz (by unfold inR at *; simp_all; omega)).2 | exact (sp_dig (k := k) (by omega) (by omega)).1 | exact (sp_dig (k := k) (by omega) (by omega)).2 | exact (sp_ne hd (by omega) (by assumption)).1 | exact (sp_ne hd (by omega) (by assumption)).2 | exact (pn_t (n := nn) (by omega) (by omega) (by assumption)).1 | exact (pn_t (n := nn) (by omega) (by omega) (by assumption)).2
     ·have pr4 : ¬ (57 : Int) < (sB s k) := odF h4
      refine Sk (Cr ?_)
      have hdl := dvT_le hd (by omega)
      have hsr := sB_rng s k
      refine p1 rfl (q1 rfl (D_mulR rfl rfl rfl (by omega)) (P2 rfl rfl (q1 rfl (D_sidx (j := k) us_9 rfl rfl rfl rfl (by omega)) (q1 rfl (D_sub8 rfl rfl rfl (by omega)) (q1 rfl (D_cvw ui_3 ⟨_, u8_5⟩ rfl rfl (by omega)) (q1 rfl (D_add rfl rfl rfl rfl (by omega)) (p1 rfl (De (Xb (Xt (Dw [(0, (.string s)), (4, (.int .i64 ((10 * nn) + ((sB s k) - 48)))), (5, (.int .i64 ((k : Nat) : Int)))] ⟨rfl, rfl, rfl, trivial⟩ (Cr (p1 rfl (q1 rfl (D_add rfl rfl rfl (r := ((k + 1 : Nat) : Int)) (by omega) (by omega)) (Pe rfl (fun ac w' hf hs => ⟨_, ?_, k + 1, ((10 * nn) + ((sB s k) - 48)), ?_, ?_, rfl, hf.weak ⟨rfl, rfl, rfl, trivial⟩, hs⟩))))))))))))))))
      ·omega
      ·first | assumption | omega | simp
      ·exact dvT_step hd (by omega) (by omega) (by omega)
   ·have pr2 : ¬ (((k : Nat) : Int) : Int) < ((s.size : Nat) : Int) := odF h2
    refine Cx (Xx (Xx (Xe (Xt (Cq (Sr (p1 rfl (li rfl (cv b_217 rfl rfl rfl rfl (fun w' hs => (spec_FormatInt w' nn (by first | assumption | omega | (unfold szm at *; split at * <;> omega)))) ?_)))))))))
    refine p1 rfl (q1 rfl (D_neS rfl rfl rfl) (Dx (Ci _ rfl (fun h5 => ?_) (fun h5 => ?_))))
    ·have pr5 : ¬ ((itoaB nn) : ByteArray) = s := of_decide_eq_false (not_t h5)
     refine Sr (P2 rfl rfl (Dx (Ct (Xr (D_fi 0 (D_fbool false (D_pk (H' := [ov [(.int .i64 0)] (0 : Int), ov [(.bool false)] (false : Bool)]) [1, 0] rfl rfl (R_2g rfl (rvt rfl) (rvt rfl) fun w' hs => res2_of (c1 := [(.int .i64 0)]) (c2 := [(.bool false)]) hs ?_ ?_))))))))
     ·show (0 : Int) = pI s
      first | exact (pn_sz (by unfold inR at *; simp_all; omega)).1 | exact (pn_sz (by unfold inR at *; simp_all; omega)).2 | exact (sp_dig (k := k) (by omega) (by omega)).1 | exact (sp_dig (k := k) (by omega) (by omega)).2 | exact (sp_ne hd (by omega) (by assumption)).1 | exact (sp_ne hd (by omega) (by assumption)).2 | exact (pn_t (n := nn) (by omega) (by omega) (by assumption)).1 | exact (pn_t (n := nn) (by omega) (by omega) (by assumption)).2
     ·show (false : Bool) = pO s
      first | exact (pn_sz (by unfold inR at *; simp_all; omega)).1 | exact (pn_sz (by unfold inR at *; simp_all; omega)).2 | exact (sp_dig (k := k) (by omega) (by omega)).1 | exact (sp_dig (k := k) (by omega) (by omega)).2 | exact (sp_ne hd (by omega) (by assumption)).1 | exact (sp_ne hd (by omega) (by assumption)).2 | exact (pn_t (n := nn) (by omega) (by omega) (by assumption)).1 | exact (pn_t (n := nn) (by omega) (by omega) (by assumption)).2
    ·have pr5 : ((itoaB nn) : ByteArray) = s := of_decide_eq_true (not_f h5)
     refine Sk (Sr (P3 rfl rfl rfl (Dx (Ct (D_fi nn (D_fbool true (D_pk (H' := [ov [(.int .i64 nn)] (nn : Int), ov [(.bool true)] (true : Bool)]) [1, 0] rfl rfl (R_2g rfl (rvt rfl) (rvt rfl) fun w' hs => res2_of (c1 := [(.int .i64 nn)]) (c2 := [(.bool true)]) hs ?_ ?_))))))))
     ·show (nn : Int) = pI s
      first | exact (pn_sz (by unfold inR at *; simp_all; omega)).1 | exact (pn_sz (by unfold inR at *; simp_all; omega)).2 | exact (sp_dig (k := k) (by omega) (by omega)).1 | exact (sp_dig (k := k) (by omega) (by omega)).2 | exact (sp_ne hd (by omega) (by assumption)).1 | exact (sp_ne hd (by omega) (by assumption)).2 | exact (pn_t (n := nn) (by omega) (by omega) (by assumption)).1 | exact (pn_t (n := nn) (by omega) (by omega) (by assumption)).2
     ·show (true : Bool) = pO s
      first | exact (pn_sz (by unfold inR at *; simp_all; omega)).1 | exact (pn_sz (by unfold inR at *; simp_all; omega)).2 | exact (sp_dig (k := k) (by omega) (by omega)).1 | exact (sp_dig (k := k) (by omega) (by omega)).2 | exact (sp_ne hd (by omega) (by assumption)).1 | exact (sp_ne hd (by omega) (by assumption)).2 | exact (pn_t (n := nn) (by omega) (by omega) (by assumption)).1 | exact (pn_t (n := nn) (by omega) (by omega) (by assumption)).2
theorem impl_compareInts (w : World) (a : Int) (b : Int) : Calls Tryz.prog 191 [(.int .i64 a), (.int .i64 b)].toArray w (Val w (.int .i64 (cmZ a b))) := by
 refine enter 13 Tryz.func191 rfl rfl rfl (Sr (Pe rfl (Cq (Cb (Sr (P3 rfl rfl rfl (Pe rfl (Ci _ rfl (fun h1 => ?_) (fun h1 => ?_)))))))))
 ·have pr1 : (a : Int) < b := odT h1
  refine Sr (Pe rfl (Ct (Xq (Xr (Ri rfl rfl ?_)))))
  show ((-1) : Int) = _
  unfold cmZ; repeat (split <;> try omega)
 ·have pr1 : ¬ (a : Int) < b := odF h1
  refine Sr (P3 rfl rfl rfl (Pe rfl (Ci _ rfl (fun h2 => ?_) (fun h2 => ?_))))
  ·have pr2 : (b : Int) < a := odT h2
   refine Sr (Pe rfl (Ct (Xq (Xr (Ri rfl rfl ?_)))))
   show (1 : Int) = _
   unfold cmZ; repeat (split <;> try omega)
  ·have pr2 : ¬ (b : Int) < a := odF h2
   refine Ck (Xb (Xt (Sr (Pe rfl (Ct (Ri rfl rfl ?_))))))
   show (0 : Int) = _
   unfold cmZ; repeat (split <;> try omega)
theorem spec_l1Cmp (w : World) (a : ByteArray) (b : ByteArray) : Calls Tryz.prog 187 [(.string a), (.string b)].toArray w (Val w (.int .i64 (cmS a b))) := by
 refine enter 13 Tryz.func187 rfl rfl rfl (Sr (Pe rfl (Cq (Cb (Sr (P2 rfl rfl (q1 rfl (D_ltS rfl rfl rfl) (Pe rfl (Ci _ rfl (fun h1 => ?_) (fun h1 => ?_))))))))))
 ·refine Sr (Pe rfl (Ct (Xq (Xr (Ri rfl rfl ?_)))))
  show ((-1) : Int) = _
  first | (unfold cmS; simp_all; done) | (refine cmS_gt ?_ ?_ <;> simp_all; done) | (simp_all [cmS_self]; done)
 ·refine Sr (P2 rfl rfl (q1 rfl (D_gtS rfl rfl rfl) (Pe rfl (Ci _ rfl (fun h2 => ?_) (fun h2 => ?_)))))
  ·have h2n : (ltS a b || decide ((a : ByteArray) = b)) = false := not_t h2
   refine Sr (Pe rfl (Ct (Xq (Xr (Ri rfl rfl ?_)))))
   show (1 : Int) = _
   first | (unfold cmS; simp_all; done) | (refine cmS_gt ?_ ?_ <;> simp_all; done) | (simp_all [cmS_self]; done)
  ·have h2n : (ltS a b || decide ((a : ByteArray) = b)) = true := not_f h2
   refine Ck (Xb (Xt (Sr (Pe rfl (Ct (Ri rfl rfl ?_))))))
   show (0 : Int) = _
   first | (unfold cmS; simp_all; done) | (refine cmS_gt ?_ ?_ <;> simp_all; done) | (simp_all [cmS_self]; done)
theorem impl_CompareAtoms (w : World) (a : ByteArray) (b : ByteArray) (htb : Tb w) : Calls Tryz.prog 190 [(.string a), (.string b)].toArray w (Val w (.int .i64 (cmpA a b))) := by
 refine enter 34 Tryz.func190 rfl rfl rfl (Sr (Pe rfl (Sr (p1 rfl (li rfl (cr2 b_212 rfl rfl rfl rfl (fun w' hs => (impl_ParseInt w' a (Tb.ext htb hs.bel))) fun cs1 cs2 => ?_))))))
 refine Dp (fun w' hs => show cs1 = [(.int .i64 (pI a))] from rO (k := 0) hs rfl) ?_
 rintro rfl
 refine Dp (fun w' hs => show cs2 = [(.bool (pO a))] from rO (k := 1) hs rfl) ?_
 rintro rfl
 refine D_re 11 (v' := (.tuple #[(.int .i64 (pI a)), (.bool (pO a))])) rfl rfl rfl (D_pk (H' := []) [] rfl rfl (P3 rfl rfl rfl (P2 rfl rfl (Dx (Sr (p1 rfl (li rfl (cr2 b_212 rfl rfl rfl rfl (fun w' hs => (impl_ParseInt w' b (Tb.ext htb hs.bel))) fun cs3 cs4 => ?_))))))))
 refine Dp (fun w' hs => show cs3 = [(.int .i64 (pI b))] from rO (k := 0) hs rfl) ?_
 rintro rfl
 refine Dp (fun w' hs => show cs4 = [(.bool (pO b))] from rO (k := 1) hs rfl) ?_
 rintro rfl
 refine D_re 16 (v' := (.tuple #[(.int .i64 (pI b)), (.bool (pO b))])) rfl rfl rfl (D_pk (H' := []) [] rfl rfl (P3 rfl rfl rfl (P2 rfl rfl (Dx (Cq (Cb (Sr (P2 rfl rfl (gs 21 rfl rfl (fun h5 => ?_) (fun h5 => ?_))))))))))
 ·refine P3 rfl rfl rfl (Dx (Dw [(0, (.string a)), (1, (.string b)), (5, (.int .i64 (pI a))), (6, (.bool (pO a))), (7, (.int .i64 (pI b))), (8, (.bool (pO b))), (19, (.bool (pO b)))] ⟨rfl, rfl, rfl, rfl, rfl, rfl, rfl, trivial⟩ (Ci _ rfl (fun h6 => ?_) (fun h6 => ?_))))
  ·refine Sr (P2 rfl rfl (li rfl (cv b_191 rfl rfl rfl rfl (fun w' hs => (impl_compareInts w' (pI a) (pI b))) ?_)))
   refine Pe rfl (Ct (Xq (Xr (Ri rfl rfl ?_))))
   show ((cmZ (pI a) (pI b)) : Int) = _
   unfold cmpA; simp_all
  ·refine Sr (P2 rfl rfl (Dx (C_kt rfl h5 (Sr (Pe rfl (Ct (Xq (Xr (Ri rfl rfl ?_)))))))))
   show ((-1) : Int) = _
   unfold cmpA; simp_all
 ·refine n1 rfl (P2 rfl rfl (Dx (Dw [(0, (.string a)), (1, (.string b)), (5, (.int .i64 (pI a))), (6, (.bool (pO a))), (7, (.int .i64 (pI b))), (8, (.bool (pO b))), (19, (.bool false))] ⟨rfl, rfl, rfl, rfl, rfl, rfl, rfl, trivial⟩ (C_f rfl (Sr (P2 rfl rfl (Dx (C_kf rfl h5 (Sr (P2 rfl rfl (Dx (Ci _ rfl (fun h10 => ?_) (fun h10 => ?_)))))))))))))
  ·refine Sr (Pe rfl (Ct (Xq (Xr (Ri rfl rfl ?_)))))
   show (1 : Int) = _
   unfold cmpA; simp_all
  ·refine Ck (Xb (Xt (Sr (P2 rfl rfl (li rfl (cv b_189 rfl rfl rfl rfl (fun w' hs => (strings_Compare_c w' a b)) ?_))))))
   refine Pe rfl (Ct (Ri rfl rfl ?_))
   show ((cmS a b) : Int) = _
   unfold cmpA; simp_all
theorem spec_CompareAtoms (w : World) (a : ByteArray) (b : ByteArray) : Calls Tryz.prog 188 [(.string a), (.string b)].toArray w (Val w (.int .i64 (cmpA a b))) := by
 refine enter 54 Tryz.func188 rfl rfl rfl (Sr (Pe rfl (Sr (p1 rfl (li rfl (cr2 b_210 rfl rfl rfl rfl (fun w' hs => (spec_ParseInt w' a)) fun cs1 cs2 => ?_))))))
 refine Dp (fun w' hs => show cs1 = [(.int .i64 (pI a))] from rO (k := 0) hs rfl) ?_
 rintro rfl
 refine Dp (fun w' hs => show cs2 = [(.bool (pO a))] from rO (k := 1) hs rfl) ?_
 rintro rfl
 refine D_re 11 (v' := (.tuple #[(.int .i64 (pI a)), (.bool (pO a))])) rfl rfl rfl (D_pk (H' := []) [] rfl rfl (P3 rfl rfl rfl (P2 rfl rfl (Dx (Sr (p1 rfl (li rfl (cr2 b_210 rfl rfl rfl rfl (fun w' hs => (spec_ParseInt w' b)) fun cs3 cs4 => ?_))))))))
 refine Dp (fun w' hs => show cs3 = [(.int .i64 (pI b))] from rO (k := 0) hs rfl) ?_
 rintro rfl
 refine Dp (fun w' hs => show cs4 = [(.bool (pO b))] from rO (k := 1) hs rfl) ?_
 rintro rfl
 refine D_re 16 (v' := (.tuple #[(.int .i64 (pI b)), (.bool (pO b))])) rfl rfl rfl (D_pk (H' := []) [] rfl rfl (P3 rfl rfl rfl (P2 rfl rfl (Dx (Cq (Cb (Cq (Sr (P2 rfl rfl (gs 21 rfl rfl (fun h5 => ?_) (fun h5 => ?_)))))))))))
 ·refine P3 rfl rfl rfl (gs 24 rfl rfl (fun h6 => ?_) (fun h6 => ?_))
  ·refine P3 rfl rfl rfl (P2 rfl rfl (Dx (Dw [(0, (.string a)), (1, (.string b)), (5, (.int .i64 (pI a))), (6, (.bool (pO a))), (7, (.int .i64 (pI b))), (8, (.bool (pO b))), (19, (.bool (decide (((pI a) : Int) < (pI b)))))] ⟨rfl, rfl, rfl, rfl, rfl, rfl, rfl, trivial⟩ (Ci _ rfl (fun h7 => ?_) (fun h7 => ?_)))))
   ·have pr7 : ((pI a) : Int) < (pI b) := odT h7
    refine Sk (C_kt rfl h7 (Sr (Pe rfl (Ct (Xq (Xr (Ri rfl rfl ?_)))))))
    show ((-1) : Int) = _
    unfold cmpA cmZ; simp_all; try omega
   ·have pr7 : ¬ ((pI a) : Int) < (pI b) := odF h7
    refine Cr (P2 rfl rfl (gkt 30 rfl rfl h5 (P3 rfl rfl rfl (Pe rfl (C_kf rfl (nt_f h6) ?_)))))
    have h27 : (!(pO b)) = false := (nt_f h6)
    refine Cq (Sr (P2 rfl rfl (gkt 36 rfl rfl h5 (P3 rfl rfl rfl (gkt 39 rfl rfl h6 (P3 rfl rfl rfl (P2 rfl rfl (Dx (Dw [(0, (.string a)), (1, (.string b)), (6, (.bool (pO a))), (8, (.bool (pO b))), (34, (.bool (decide (((pI b) : Int) < (pI a)))))] ⟨rfl, rfl, rfl, rfl, rfl, trivial⟩ (Ci _ rfl (fun h30 => ?_) (fun h30 => ?_)))))))))))
    ·have pr30 : ((pI b) : Int) < (pI a) := odT h30
     refine Sk (C_kt rfl h30 (Sr (Pe rfl (Ct (Xq (Xr (Ri rfl rfl ?_)))))))
     show (1 : Int) = _
     unfold cmpA cmZ; simp_all; try omega
    ·have pr30 : ¬ ((pI b) : Int) < (pI a) := odF h30
     refine Cr (P2 rfl rfl (gkt 45 rfl rfl h6 (P3 rfl rfl rfl (Pe rfl (C_kf rfl (nt_f h5) ?_)))))
     have h34 : (!(pO a)) = false := (nt_f h5)
     refine Sr (P2 rfl rfl (Dx (C_kt rfl h5 (Sr (Pe rfl (Ct (Xq (Xr (Ri rfl rfl ?_)))))))))
     show (0 : Int) = _
     unfold cmpA cmZ; simp_all; try omega
  ·refine n1 rfl (n1 rfl (n1 rfl (P2 rfl rfl (Dx (Dw [(0, (.string a)), (1, (.string b)), (5, (.int .i64 (pI a))), (6, (.bool (pO a))), (7, (.int .i64 (pI b))), (8, (.bool (pO b))), (19, (.bool false))] ⟨rfl, rfl, rfl, rfl, rfl, rfl, rfl, trivial⟩ (C_f rfl (Cr (P2 rfl rfl (gkt 30 rfl rfl h5 (P3 rfl rfl rfl (Pe rfl (C_kt rfl (nf_t h6) ?_))))))))))))
   have h63 : (!(pO b)) = true := (nf_t h6)
   refine Sr (Pe rfl (Ct (Xq (Xr (Ri rfl rfl ?_)))))
   show ((-1) : Int) = _
   unfold cmpA cmZ; simp_all; try omega
 ·refine n1 rfl (P2 rfl rfl (n1 rfl (n1 rfl (n1 rfl (P2 rfl rfl (Dx (Dw [(0, (.string a)), (1, (.string b)), (5, (.int .i64 (pI a))), (6, (.bool (pO a))), (7, (.int .i64 (pI b))), (8, (.bool (pO b))), (19, (.bool false))] ⟨rfl, rfl, rfl, rfl, rfl, rfl, rfl, trivial⟩ (C_f rfl (Cr (P2 rfl rfl (gkf 30 rfl rfl h5 (n1 rfl (n1 rfl (P2 rfl rfl (Dx (C_f rfl (Cq (Sr (P2 rfl rfl (gkf 36 rfl rfl h5 ?_))))))))))))))))))))
  refine n1 rfl (P2 rfl rfl (n1 rfl (n1 rfl (n1 rfl (P2 rfl rfl (Dx (Dw [(0, (.string a)), (1, (.string b)), (6, (.bool (pO a))), (8, (.bool (pO b))), (34, (.bool false))] ⟨rfl, rfl, rfl, rfl, rfl, trivial⟩ (C_f rfl (Cr (P2 rfl rfl (gs 45 rfl rfl (fun h130 => ?_) (fun h130 => ?_))))))))))))
  ·refine P3 rfl rfl rfl (Pe rfl (C_kt rfl (nf_t h5) ?_))
   have h131 : (!(pO a)) = true := (nf_t h5)
   refine Sr (Pe rfl (Ct (Xq (Xr (Ri rfl rfl ?_)))))
   show (1 : Int) = _
   unfold cmpA cmZ; simp_all; try omega
  ·refine n1 rfl (n1 rfl (P2 rfl rfl (Dx (C_f rfl (Sr (P2 rfl rfl (Dx (C_kf rfl h5 (Ck (Xb (Xt (Sr (P2 rfl rfl (li rfl (cv b_187 rfl rfl rfl rfl (fun w' hs => (spec_l1Cmp w' a b)) ?_)))))))))))))))
   refine Pe rfl (Ct (Ri rfl rfl ?_))
   show ((cmS a b) : Int) = _
   unfold cmpA cmZ; simp_all; try omega
theorem impl_CompareFacts (w : World) (c_a : List Value) (a : Fact) (c_b : List Value) (b : Fact) (h_a : Gd.rd w c_a a) (h_b : Gd.rd w c_b b) (htb : Tb w) : Calls Tryz.prog 149 [(.agg c_a.toArray), (.agg c_b.toArray)].toArray w (Val w (.int .i64 (cmpF a b))) := by
 obtain ⟨u1, rfl, hu2⟩ := open_Fact h_a
 have hm3 := rd_max hu2
 obtain ⟨u4, rfl, hu5⟩ := open_Fact h_b
 have hm6 := rd_max hu5
 refine enter 51 Tryz.func149 rfl rfl rfl (Sr (li rfl (D_box rfl rfl rfl rfl rfl fun g7 => ?_)))
 refine li rfl (D_box rfl rfl rfl rfl rfl fun g8 => ?_)
 refine Pe rfl (Dh ([bx g8 [(.string b.Rel), u4], bx g7 [(.string a.Rel), u1]]) rfl (Cq (Sr (q1 rfl (Db f_70_0 rfl rfl (q := 0) rfl) (q1 rfl (lb 1 o_9 rfl rfl rfl rfl) (q1 rfl (Db f_70_0 rfl rfl (q := 0) rfl) (q1 rfl (lb 0 o_9 rfl rfl rfl rfl) (li rfl (cv b_189 rfl rfl rfl rfl (fun w' hs => (strings_Compare_c w' a.Rel b.Rel)) ?_)))))))))
 refine Pe rfl (Sr (P2 rfl rfl (Dx (Ci _ rfl (fun h9 => ?_) (fun h9 => ?_)))))
 ·have pr9 : ((cmS a.Rel b.Rel) : Int) ≠ 0 := bne_iff_ne.1 h9
  refine Sr (P2 rfl rfl (Dx (Ct (Xr (Ri rfl rfl ?_)))))
  show ((cmS a.Rel b.Rel) : Int) = _
  exact cmpF_rel (by omega)
 ·have pr9 : ((cmS a.Rel b.Rel) : Int) = 0 := eq_of_bne_f h9
  refine Sk (Cq (Sr (Pe rfl (Cb (Cl (fun m_ ac w' => ∃ (k : Nat), (k ≤ a.Args.length) ∧ (k ≤ b.Args.length) ∧ (∀ i, i < k → ∀ x y, a.Args[i]? = some x → b.Args[i]? = some y → cmpA x y = 0) ∧ m_ = a.Args.length - k ∧ Fits ac 51 [(2, (.pointer (some ⟨g7, 0, none⟩))), (3, (.pointer (some ⟨g8, 0, none⟩))), (6, (.int .i64 ((k : Nat) : Int)))] ∧ St w ([bx g8 [(.string b.Rel), u4], bx g7 [(.string a.Rel), u1]]) w') ?_ ?_)))))
  ·refine fun ac w' hf hs => ⟨_, 0, ?_, ?_, ?_, rfl, hf.weak ⟨rfl, rfl, rfl, trivial⟩, hs⟩
   ·first | assumption | omega | simp
   ·first | assumption | omega | simp
   ·intro i hi; omega
  ·rintro m_ ac w' ⟨k, hka, hkb, hi, rfl, hf, hs⟩
   refine D.use ?_ hf hs
   clear hf hs ac w'
   refine Cq (Sr (p1 rfl (q1 rfl (Db f_70_1 rfl rfl (q := 1) rfl) (q1 rfl (lb 1 o_58 rfl rfl rfl rfl) (q1 rfl (Dl s_58 rfl rfl (rd_sl hu2)) (P2 rfl rfl (gs 21 rfl rfl (fun h10 => ?_) (fun h10 => ?_))))))))
   ·have pr10 : (((k : Nat) : Int) : Int) < ((a.Args.length : Nat) : Int) := odT h10
    refine p1 rfl (q1 rfl (Db f_70_1 rfl rfl (q := 1) rfl) (q1 rfl (lb 0 o_58 rfl rfl rfl rfl) (q1 rfl (Dl s_58 rfl rfl (rd_sl hu5)) (P2 rfl rfl (Dx (Ci _ rfl (fun h11 => ?_) (fun h11 => ?_)))))))
    ·have pr11 : (((k : Nat) : Int) : Int) < ((b.Args.length : Nat) : Int) := odT h11
     refine Sk (Cq (Cb (Cq (C_draw mixed [10, 11] (by kernel_rfl) (Tk 0 rfl (by kernel_rfl) rfl (Db f_70_1 rfl rfl (q := 1) rfl) (Tk 1 rfl (by kernel_rfl) rfl (lb 1 o_58 rfl rfl rfl rfl) (Tk 2 rfl (by kernel_rfl) rfl (rp rfl) ?_)))))))
     obtain ⟨x0, x0h⟩ := sL (l := a.Args) (i := k) (by omega)
     obtain ⟨es12, at13, hr14⟩ := rd_elem (n := 1) rfl hu2 x0h
     obtain rfl : es12 = [.string x0] := hr14
     refine Tk 3 rfl (by kernel_rfl) rfl (D_ix (l := a.Args) (j := k) s_58 rfl rfl rfl (fun w' hs => (rA hs hu2)) rfl (lS x0h)) (Tk 4 rfl (by kernel_rfl) rfl (lr0 o_9 rfl rfl at13 rfl) (Tk 5 rfl (by kernel_rfl) rfl (Db f_70_1 rfl rfl (q := 1) rfl) (Tk 6 rfl (by kernel_rfl) rfl (lb 0 o_58 rfl rfl rfl rfl) (Tk 7 rfl (by kernel_rfl) rfl (rp rfl) ?_))))
     obtain ⟨y0, y0h⟩ := sL (l := b.Args) (i := k) (by omega)
     obtain ⟨es15, at16, hr17⟩ := rd_elem (n := 1) rfl hu5 y0h
     obtain rfl : es15 = [.string y0] := hr17
     refine Tk 8 rfl (by kernel_rfl) rfl (D_ix (l := b.Args) (j := k) s_58 rfl rfl rfl (fun w' hs => (rA hs hu5)) rfl (lS y0h)) (Tk 9 rfl (by kernel_rfl) rfl (lr0 o_9 rfl rfl at16 rfl) (ty 10 rfl (by kernel_rfl) rfl (cv b_190 rfl rfl rfl rfl (fun w' hs => (impl_CompareAtoms w' x0 y0 (Tb.ext htb hs.bel))) ?_)))
     refine tZ rfl (ty 11 rfl (by kernel_rfl) rfl (sv rfl rfl (rp rfl) ?_))
     refine tZ rfl (tE (by kernel_rfl) (Xt (Dw [(2, (.pointer (some ⟨g7, 0, none⟩))), (3, (.pointer (some ⟨g8, 0, none⟩))), (6, (.int .i64 ((k : Nat) : Int))), (7, (.int .i64 (cmpA x0 y0)))] ⟨rfl, rfl, rfl, rfl, trivial⟩ (Sr (P2 rfl rfl (Dx (Ci _ rfl (fun h18 => ?_) (fun h18 => ?_))))))))
     ·have pr18 : ((cmpA x0 y0) : Int) ≠ 0 := bne_iff_ne.1 h18
      refine Sr (P2 rfl rfl (Dx (Ct (Xq (Xr (Xr (Xq (Xr (Ri rfl rfl ?_)))))))))
      show ((cmpA x0 y0) : Int) = _
      exact cmpF_arg (cmS_eq (by omega)) hi x0h y0h (by omega)
     ·have pr18 : ((cmpA x0 y0) : Int) = 0 := eq_of_bne_f h18
      refine Ck (Xb (Xt (Cr (p1 rfl (q1 rfl (D_add rfl rfl rfl (r := ((k + 1 : Nat) : Int)) (by omega) (by omega)) (Pe rfl (fun ac w' hf hs => ⟨_, ?_, k + 1, ?_, ?_, ?_, rfl, hf.weak ⟨rfl, rfl, rfl, trivial⟩, hs⟩)))))))
      ·omega
      ·first | assumption | omega | simp
      ·first | assumption | omega | simp
      ·refine forall_step hi ?_; intro x y hx hy; obtain rfl : x = x0 := Option.some.inj (hx.symm.trans x0h); obtain rfl : y = y0 := Option.some.inj (hy.symm.trans y0h); omega
    ·have pr11 : ¬ (((k : Nat) : Int) : Int) < ((b.Args.length : Nat) : Int) := odF h11
     refine Cx (Xx (Xx (Xe (Xt (Sr (q1 rfl (Db f_70_1 rfl rfl (q := 1) rfl) (q1 rfl (lb 1 o_58 rfl rfl rfl rfl) (q1 rfl (Dl s_58 rfl rfl (rd_sl hu2)) (q1 rfl (Db f_70_1 rfl rfl (q := 1) rfl) (q1 rfl (lb 0 o_58 rfl rfl rfl rfl) (q1 rfl (Dl s_58 rfl rfl (rd_sl hu5)) (li rfl (cv b_191 rfl rfl rfl rfl (fun w' hs => (impl_compareInts w' ((a.Args.length : Nat) : Int) ((b.Args.length : Nat) : Int))) ?_)))))))))))))
     refine Pe rfl (Ct (Ri rfl rfl ?_))
     show ((cmZ ((a.Args.length : Nat) : Int) ((b.Args.length : Nat) : Int)) : Int) = _
     exact cmpF_end (cmS_eq (by omega)) (fun i x y hx hy => hi i (by have := lS hx; have := lS hy; omega) x y hx hy)
   ·have pr10 : ¬ (((k : Nat) : Int) : Int) < ((a.Args.length : Nat) : Int) := odF h10
    refine n1 rfl (n1 rfl (n1 rfl (n1 rfl (n1 rfl (Pe rfl (C_f rfl (Cx (Xx (Xx (Xe (Xt (Sr (q1 rfl (Db f_70_1 rfl rfl (q := 1) rfl) (q1 rfl (lb 1 o_58 rfl rfl rfl rfl) (q1 rfl (Dl s_58 rfl rfl (rd_sl hu2)) (q1 rfl (Db f_70_1 rfl rfl (q := 1) rfl) (q1 rfl (lb 0 o_58 rfl rfl rfl rfl) (q1 rfl (Dl s_58 rfl rfl (rd_sl hu5)) (li rfl (cv b_191 rfl rfl rfl rfl (fun w' hs => (impl_compareInts w' ((a.Args.length : Nat) : Int) ((b.Args.length : Nat) : Int))) ?_))))))))))))))))))))
    refine Pe rfl (Ct (Ri rfl rfl ?_))
    show ((cmZ ((a.Args.length : Nat) : Int) ((b.Args.length : Nat) : Int)) : Int) = _
    exact cmpF_end (cmS_eq (by omega)) (fun i x y hx hy => hi i (by have := lS hx; have := lS hy; omega) x y hx hy)
set_option maxHeartbeats 4000000 in
theorem spec_CompareFacts (w : World) (c_a : List Value) (a : Fact) (c_b : List Value) (b : Fact) (h_a : Gd.rd w c_a a) (h_b : Gd.rd w c_b b) : Calls Tryz.prog 146 [(.agg c_a.toArray), (.agg c_b.toArray)].toArray w (Val w (.int .i64 (cmpF a b))) := by
 obtain ⟨u1, rfl, hu2⟩ := open_Fact h_a
 have hm3 := rd_max hu2
 obtain ⟨u4, rfl, hu5⟩ := open_Fact h_b
 have hm6 := rd_max hu5
 refine enter 61 Tryz.func146 rfl rfl rfl (Sr (li rfl (D_box rfl rfl rfl rfl rfl fun g7 => ?_)))
 refine li rfl (D_box rfl rfl rfl rfl rfl fun g8 => ?_)
 refine Pe rfl (Dh ([bx g8 [(.string b.Rel), u4], bx g7 [(.string a.Rel), u1]]) rfl (Cq (Sr (q1 rfl (Db f_70_0 rfl rfl (q := 0) rfl) (q1 rfl (lb 1 o_9 rfl rfl rfl rfl) (q1 rfl (Db f_70_0 rfl rfl (q := 0) rfl) (q1 rfl (lb 0 o_9 rfl rfl rfl rfl) (q1 rfl (D_neS rfl rfl rfl) (Dx (Ci _ rfl (fun h9 => ?_) (fun h9 => ?_)))))))))))
 ·have pr9 : ¬ (a.Rel : ByteArray) = b.Rel := of_decide_eq_false (not_t h9)
  refine Sr (q1 rfl (Db f_70_0 rfl rfl (q := 0) rfl) (q1 rfl (lb 1 o_9 rfl rfl rfl rfl) (q1 rfl (Db f_70_0 rfl rfl (q := 0) rfl) (q1 rfl (lb 0 o_9 rfl rfl rfl rfl) (li rfl (cv b_187 rfl rfl rfl rfl (fun w' hs => (spec_l1Cmp w' a.Rel b.Rel)) ?_))))))
  refine Pe rfl (Ct (Xr (Ri rfl rfl ?_)))
  show ((cmS a.Rel b.Rel) : Int) = _
  first | exact cmpF_ne (by assumption) | exact cmpF_arg (by assumption) hi x0h y0h (by omega) | (rw [← cmpF_end (by assumption) (fun i x y hx hy => hi i (by have := lS hx; have := lS hy; omega) x y hx hy)]; unfold cmZ; repeat (split <;> try omega))
 ·have pr9 : (a.Rel : ByteArray) = b.Rel := of_decide_eq_true (not_f h9)
  refine Sk (Cq (Sr (Pe rfl (Cb (Cl (fun m_ ac w' => ∃ (k : Nat), (k ≤ a.Args.length) ∧ (k ≤ b.Args.length) ∧ (∀ i, i < k → ∀ x y, a.Args[i]? = some x → b.Args[i]? = some y → cmpA x y = 0) ∧ m_ = a.Args.length - k ∧ Fits ac 61 [(2, (.pointer (some ⟨g7, 0, none⟩))), (3, (.pointer (some ⟨g8, 0, none⟩))), (5, (.int .i64 ((k : Nat) : Int)))] ∧ St w ([bx g8 [(.string b.Rel), u4], bx g7 [(.string a.Rel), u1]]) w') ?_ ?_)))))
  ·refine fun ac w' hf hs => ⟨_, 0, ?_, ?_, ?_, rfl, hf.weak ⟨rfl, rfl, rfl, trivial⟩, hs⟩
   ·first | assumption | omega | simp
   ·first | assumption | omega | simp
   ·intro i hi; omega
  ·rintro m_ ac w' ⟨k, hka, hkb, hi, rfl, hf, hs⟩
   refine D.use ?_ hf hs
   clear hf hs ac w'
   refine Cq (Sr (p1 rfl (q1 rfl (Db f_70_1 rfl rfl (q := 1) rfl) (q1 rfl (lb 1 o_58 rfl rfl rfl rfl) (q1 rfl (Dl s_58 rfl rfl (rd_sl hu2)) (P2 rfl rfl (gs 22 rfl rfl (fun h10 => ?_) (fun h10 => ?_))))))))
   ·have pr10 : (((k : Nat) : Int) : Int) < ((a.Args.length : Nat) : Int) := odT h10
    refine p1 rfl (q1 rfl (Db f_70_1 rfl rfl (q := 1) rfl) (q1 rfl (lb 0 o_58 rfl rfl rfl rfl) (q1 rfl (Dl s_58 rfl rfl (rd_sl hu5)) (P2 rfl rfl (Dx (Ci _ rfl (fun h11 => ?_) (fun h11 => ?_)))))))
    ·have pr11 : (((k : Nat) : Int) : Int) < ((b.Args.length : Nat) : Int) := odT h11
     refine Sk (Cq (Cb (Cq (C_draw mixed [10, 11] (by kernel_rfl) (Tk 0 rfl (by kernel_rfl) rfl (Db f_70_1 rfl rfl (q := 1) rfl) (Tk 1 rfl (by kernel_rfl) rfl (lb 1 o_58 rfl rfl rfl rfl) (Tk 2 rfl (by kernel_rfl) rfl (rp rfl) ?_)))))))
     obtain ⟨x0, x0h⟩ := sL (l := a.Args) (i := k) (by omega)
     obtain ⟨es12, at13, hr14⟩ := rd_elem (n := 1) rfl hu2 x0h
     obtain rfl : es12 = [.string x0] := hr14
     refine Tk 3 rfl (by kernel_rfl) rfl (D_ix (l := a.Args) (j := k) s_58 rfl rfl rfl (fun w' hs => (rA hs hu2)) rfl (lS x0h)) (Tk 4 rfl (by kernel_rfl) rfl (lr0 o_9 rfl rfl at13 rfl) (Tk 5 rfl (by kernel_rfl) rfl (Db f_70_1 rfl rfl (q := 1) rfl) (Tk 6 rfl (by kernel_rfl) rfl (lb 0 o_58 rfl rfl rfl rfl) (Tk 7 rfl (by kernel_rfl) rfl (rp rfl) ?_))))
     obtain ⟨y0, y0h⟩ := sL (l := b.Args) (i := k) (by omega)
     obtain ⟨es15, at16, hr17⟩ := rd_elem (n := 1) rfl hu5 y0h
     obtain rfl : es15 = [.string y0] := hr17
     refine Tk 8 rfl (by kernel_rfl) rfl (D_ix (l := b.Args) (j := k) s_58 rfl rfl rfl (fun w' hs => (rA hs hu5)) rfl (lS y0h)) (Tk 9 rfl (by kernel_rfl) rfl (lr0 o_9 rfl rfl at16 rfl) (ty 10 rfl (by kernel_rfl) rfl (cv b_188 rfl rfl rfl rfl (fun w' hs => (spec_CompareAtoms w' x0 y0)) ?_)))
     refine tZ rfl (ty 11 rfl (by kernel_rfl) rfl (sv rfl rfl (rp rfl) ?_))
     refine tZ rfl (tE (by kernel_rfl) (Xt (Dw [(2, (.pointer (some ⟨g7, 0, none⟩))), (3, (.pointer (some ⟨g8, 0, none⟩))), (5, (.int .i64 ((k : Nat) : Int))), (6, (.int .i64 (cmpA x0 y0)))] ⟨rfl, rfl, rfl, rfl, trivial⟩ (Sr (P2 rfl rfl (Dx (Ci _ rfl (fun h18 => ?_) (fun h18 => ?_))))))))
     ·have pr18 : ((cmpA x0 y0) : Int) ≠ 0 := bne_iff_ne.1 h18
      refine Sr (P2 rfl rfl (Dx (Ct (Xq (Xr (Xr (Xq (Xr (Ri rfl rfl ?_)))))))))
      show ((cmpA x0 y0) : Int) = _
      first | exact cmpF_ne (by assumption) | exact cmpF_arg (by assumption) hi x0h y0h (by omega) | (rw [← cmpF_end (by assumption) (fun i x y hx hy => hi i (by have := lS hx; have := lS hy; omega) x y hx hy)]; unfold cmZ; repeat (split <;> try omega))
     ·have pr18 : ((cmpA x0 y0) : Int) = 0 := eq_of_bne_f h18
      refine Ck (Xb (Xt (Cr (p1 rfl (q1 rfl (D_add rfl rfl rfl (r := ((k + 1 : Nat) : Int)) (by omega) (by omega)) (Pe rfl (fun ac w' hf hs => ⟨_, ?_, k + 1, ?_, ?_, ?_, rfl, hf.weak ⟨rfl, rfl, rfl, trivial⟩, hs⟩)))))))
      ·omega
      ·first | assumption | omega | simp
      ·first | assumption | omega | simp
      ·refine forall_step hi ?_; intro x y hx hy; obtain rfl : x = x0 := Option.some.inj (hx.symm.trans x0h); obtain rfl : y = y0 := Option.some.inj (hy.symm.trans y0h); omega
    ·have pr11 : ¬ (((k : Nat) : Int) : Int) < ((b.Args.length : Nat) : Int) := odF h11
     refine Cx (Xx (Xx (Xe (Xt (Cq (Cb (Sr (q1 rfl (Db f_70_1 rfl rfl (q := 1) rfl) (q1 rfl (lb 1 o_58 rfl rfl rfl rfl) (q1 rfl (Dl s_58 rfl rfl (rd_sl hu2)) (q1 rfl (Db f_70_1 rfl rfl (q := 1) rfl) (q1 rfl (lb 0 o_58 rfl rfl rfl rfl) (q1 rfl (Dl s_58 rfl rfl (rd_sl hu5)) (P2 rfl rfl (Dx (Dw [(2, (.pointer (some ⟨g7, 0, none⟩))), (3, (.pointer (some ⟨g8, 0, none⟩))), (45, (.bool (decide ((((a.Args.length : Nat) : Int) : Int) < ((b.Args.length : Nat) : Int)))))] ⟨rfl, rfl, rfl, trivial⟩ (Ci _ rfl (fun h19 => ?_) (fun h19 => ?_))))))))))))))))))
     ·have pr19 : (((a.Args.length : Nat) : Int) : Int) < ((b.Args.length : Nat) : Int) := odT h19
      refine Sr (Pe rfl (Ct (Xq (Xr (Ri rfl rfl ?_)))))
      show ((-1) : Int) = _
      first | exact cmpF_ne (by assumption) | exact cmpF_arg (by assumption) hi x0h y0h (by omega) | (rw [← cmpF_end (by assumption) (fun i x y hx hy => hi i (by have := lS hx; have := lS hy; omega) x y hx hy)]; unfold cmZ; repeat (split <;> try omega))
     ·have pr19 : ¬ (((a.Args.length : Nat) : Int) : Int) < ((b.Args.length : Nat) : Int) := odF h19
      refine Sr (q1 rfl (Db f_70_1 rfl rfl (q := 1) rfl) (q1 rfl (lb 1 o_58 rfl rfl rfl rfl) (q1 rfl (Dl s_58 rfl rfl (rd_sl hu2)) (q1 rfl (Db f_70_1 rfl rfl (q := 1) rfl) (q1 rfl (lb 0 o_58 rfl rfl rfl rfl) (q1 rfl (Dl s_58 rfl rfl (rd_sl hu5)) (P2 rfl rfl (Dx (Ci _ rfl (fun h20 => ?_) (fun h20 => ?_))))))))))
      ·have pr20 : (((b.Args.length : Nat) : Int) : Int) < ((a.Args.length : Nat) : Int) := odT h20
       refine Sr (Pe rfl (Ct (Xq (Xr (Ri rfl rfl ?_)))))
       show (1 : Int) = _
       first | exact cmpF_ne (by assumption) | exact cmpF_arg (by assumption) hi x0h y0h (by omega) | (rw [← cmpF_end (by assumption) (fun i x y hx hy => hi i (by have := lS hx; have := lS hy; omega) x y hx hy)]; unfold cmZ; repeat (split <;> try omega))
      ·have pr20 : ¬ (((b.Args.length : Nat) : Int) : Int) < ((a.Args.length : Nat) : Int) := odF h20
       refine Ck (Xb (Xt (Sr (Pe rfl (Ct (Ri rfl rfl ?_))))))
       show (0 : Int) = _
       first | exact cmpF_ne (by assumption) | exact cmpF_arg (by assumption) hi x0h y0h (by omega) | (rw [← cmpF_end (by assumption) (fun i x y hx hy => hi i (by have := lS hx; have := lS hy; omega) x y hx hy)]; unfold cmZ; repeat (split <;> try omega))
   ·have pr10 : ¬ (((k : Nat) : Int) : Int) < ((a.Args.length : Nat) : Int) := odF h10
    refine n1 rfl (n1 rfl (n1 rfl (n1 rfl (n1 rfl (Pe rfl (C_f rfl (Cx (Xx (Xx (Xe (Xt (Cq (Cb (Sr (q1 rfl (Db f_70_1 rfl rfl (q := 1) rfl) (q1 rfl (lb 1 o_58 rfl rfl rfl rfl) (q1 rfl (Dl s_58 rfl rfl (rd_sl hu2)) (q1 rfl (Db f_70_1 rfl rfl (q := 1) rfl) (q1 rfl (lb 0 o_58 rfl rfl rfl rfl) (q1 rfl (Dl s_58 rfl rfl (rd_sl hu5)) ?_))))))))))))))))))))
    refine P2 rfl rfl (Dx (Dw [(2, (.pointer (some ⟨g7, 0, none⟩))), (3, (.pointer (some ⟨g8, 0, none⟩))), (45, (.bool (decide ((((a.Args.length : Nat) : Int) : Int) < ((b.Args.length : Nat) : Int)))))] ⟨rfl, rfl, rfl, trivial⟩ (Ci _ rfl (fun h21 => ?_) (fun h21 => ?_))))
    ·have pr21 : (((a.Args.length : Nat) : Int) : Int) < ((b.Args.length : Nat) : Int) := odT h21
     refine Sr (Pe rfl (Ct (Xq (Xr (Ri rfl rfl ?_)))))
     show ((-1) : Int) = _
     first | exact cmpF_ne (by assumption) | exact cmpF_arg (by assumption) hi x0h y0h (by omega) | (rw [← cmpF_end (by assumption) (fun i x y hx hy => hi i (by have := lS hx; have := lS hy; omega) x y hx hy)]; unfold cmZ; repeat (split <;> try omega))
    ·have pr21 : ¬ (((a.Args.length : Nat) : Int) : Int) < ((b.Args.length : Nat) : Int) := odF h21
     refine Sr (q1 rfl (Db f_70_1 rfl rfl (q := 1) rfl) (q1 rfl (lb 1 o_58 rfl rfl rfl rfl) (q1 rfl (Dl s_58 rfl rfl (rd_sl hu2)) (q1 rfl (Db f_70_1 rfl rfl (q := 1) rfl) (q1 rfl (lb 0 o_58 rfl rfl rfl rfl) (q1 rfl (Dl s_58 rfl rfl (rd_sl hu5)) (P2 rfl rfl (Dx (Ci _ rfl (fun h22 => ?_) (fun h22 => ?_))))))))))
     ·have pr22 : (((b.Args.length : Nat) : Int) : Int) < ((a.Args.length : Nat) : Int) := odT h22
      refine Sr (Pe rfl (Ct (Xq (Xr (Ri rfl rfl ?_)))))
      show (1 : Int) = _
      first | exact cmpF_ne (by assumption) | exact cmpF_arg (by assumption) hi x0h y0h (by omega) | (rw [← cmpF_end (by assumption) (fun i x y hx hy => hi i (by have := lS hx; have := lS hy; omega) x y hx hy)]; unfold cmZ; repeat (split <;> try omega))
     ·have pr22 : ¬ (((b.Args.length : Nat) : Int) : Int) < ((a.Args.length : Nat) : Int) := odF h22
      refine Ck (Xb (Xt (Sr (Pe rfl (Ct (Ri rfl rfl ?_))))))
      show (0 : Int) = _
      first | exact cmpF_ne (by assumption) | exact cmpF_arg (by assumption) hi x0h y0h (by omega) | (rw [← cmpF_end (by assumption) (fun i x y hx hy => hi i (by have := lS hx; have := lS hy; omega) x y hx hy)]; unfold cmZ; repeat (split <;> try omega))
end Go.Sy.Num1
