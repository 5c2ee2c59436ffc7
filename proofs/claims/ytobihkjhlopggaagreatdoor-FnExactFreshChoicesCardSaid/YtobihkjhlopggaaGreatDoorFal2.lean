/-
  Contracts of functions of the program, walked (printed by a program of ours).
  Conditions: those that each theorem states.
-/
import Derived.Test.YtobihkjhlopggaaGreatDoorFct
import Derived.Test.YtobihkjhlopggaaGreatDoorFal1
import Derived.Test.YtobihkjhlopggaaGreatDoorPdq
set_option linter.unusedVariables false
set_option maxRecDepth 20000
namespace Go.Sy.Fal2
open Go Go.RowKit Go.Proofs Go.Sy
open Go.Sy.Pdqs Go.Sy.Fal1
theorem rows : mRow Tryz.prog 210 "Len" = some (#[⟨212, 0, true⟩], none) ∧ mRow Tryz.prog 210 "Swap" = some (#[⟨212, 0, true⟩], none) := ⟨by kernel_rfl, by kernel_rfl⟩
theorem rowL : mRow Tryz.prog 210 "Less" = some (#[], some (342, false)) := by kernel_rfl
theorem row1 : mRow Tryz.prog 151 "Len" = some (#[], some (337, false)) := by kernel_rfl
theorem row2 : mRow Tryz.prog 151 "Swap" = some (#[], some (340, false)) := by kernel_rfl
theorem uR : Tryz.prog.underlying 210 = some (.pointer 212) := by kernel_rfl
theorem uT : Tryz.prog.underlying 151 = some (.slice 3) := by kernel_rfl
noncomputable def fR : Field := match Tryz.prog.underlying 212 with | some (.struct fs) => fs.getD 0 default | _ => default
theorem uS : Tryz.prog.underlying 212 = some (.struct #[fR]) := by kernel_rfl
theorem oR : fR.offset = 0 := by kernel_rfl
theorem tR : fR.type = 149 := by kernel_rfl
theorem zI : (Tryz.prog.info? 149).map (fun i => i.size) = some 1 := by kernel_rfl
theorem oI : oneTy Tryz.prog 149 = true := by kernel_rfl
theorem aR : aggTy Tryz.prog 212 = some 1 := by kernel_rfl
theorem bN : hasBody Tryz.prog 337 = true := by kernel_rfl
theorem bS : hasBody Tryz.prog 340 = true := by kernel_rfl
theorem bR : hasBody Tryz.prog 342 = true := by kernel_rfl
theorem ld_one {P : Program} {t : TypeId} {p : Addr} {v : Value} {w : World} (ht : oneTy P t = true) (hc : w.cell? p = some v) : (loadVar t p).run P w = .ok v w := by
 have h := run_load1 (P := P) ht hc;simpa [Instr.loadAt, Instr.sureAddr] using h
theorem ld_agg {P : Program} {t : TypeId} {p : Addr} {es : List Value} {w : World} (ht : aggTy P t = some es.length) (hc : AtE w p es) : (loadVar t p).run P w = .ok (.agg es.toArray) w := by
 have h := run_loadA (P := P) ht hc;simpa [Instr.loadAt, Instr.sureAddr] using h
abbrev CI (g : Nat) (v : Value) (e : List Int) : Chunk := star (bx g [.iface 151 v]) (ov [v] (e : List Int))
theorem dep : Tryz.prog.types.size + Made.depth = (Tryz.prog.types.size + 98) + 1 + 1 := rfl
theorem emb {w0 w : World} {g : Nat} {v : Value} {e : List Int} {Hs : List Chunk} {nm : String} {f : FuncId} (hs : St w0 (CI g v e :: Hs) w) (h1 : mRow Tryz.prog 210 nm = some (#[⟨212, 0, true⟩], none)) (h2 : mRow Tryz.prog 151 nm = some (#[], some (f, false))) :
  (method (Tryz.prog.types.size + Made.depth) 210 (pv g) nm).run Tryz.prog w = .ok (f, v) w := by
 have hc : w.cell? ⟨g, 0, none⟩ = some (.iface 151 v) := bx_cell (k := 0) rfl rfl w hs.split;obtain ⟨i, hi, hz⟩ := Option.map_eq_some_iff.1 zI;rw [dep, run_memb (fl := fR) h1 uS rfl oR ⟨i, by rw [tR]; exact hi, hz⟩ (by rw [tR]; exact ld_one oI hc)];exact run_mval h2 uT
theorem srx_rev (w0 : World) (g : Nat) (v : Value) (l : List Int) (hl : l.length ≤ 12) : Srx Tryz.prog (CI g v) ltD l (.iface 210 (pv g)) w0 where
 len Hs w d hp hs := by
  refine ⟨337, _, bN, run_cm (emb hs rows.1 row1), ?_⟩;have := IntSlice_Len (rO (k := 1) hs.split rfl);exact this.mono fun _ _ h => ⟨by rw [h.1, hp.length_eq], hs.ext h.2⟩
 less Hs w d i j hp hi hj hs := by
  have hc : AtE w ⟨g, 0, none⟩ [.iface 151 v] := bx_at (k := 0) hs.split rfl;have hlen := hp.length_eq;refine ⟨342, _, bR, run_cm (by rw [dep]; exact run_mptr rowL uR (ld_agg (es := [.iface 151 v]) aR hc)), ?_⟩;have := reverse_Less (i := (i : Int)) (j := (j : Int)) (rO (k := 1) hs.split rfl) (by omega) (by omega);exact this.mono fun _ _ h => ⟨by rw [h.1]; simp, hs.ext h.2⟩
 swap Hs w d i j hp hi hj hs := by
  have hlen := hp.length_eq;refine ⟨340, _, bS, run_cm (emb hs rows.2 row2), ?_⟩;have := IntSlice_Swap w0 _ w v d (i : Int) (j : Int) (by omega) (by omega) (hs.split.perm (List.Perm.swap _ _ _));exact this.mono fun _ _ h => ⟨h.1, by have h3 := (h.2.perm (List.Perm.swap _ _ _)).star; simpa using h3⟩
theorem sort_fall (w0 : World) (Hs : List Chunk) (w : World) (g : Nat) (v : Value) (l : List Int) (hl : l.length ≤ 12) (hs : St w0 (CI g v l :: Hs) w) :
  Calls Tryz.prog 100 [(.iface 210 (pv g))].toArray w (fun e w' => e = .returned (.tuple #[]) ∧ ∃ e', e' = fallL l ∧ St w0 (CI g v e' :: Hs) w') :=
 (sort_Sort (srx_rev w0 g v l hl) ordD hl Hs w l (List.Perm.refl l) hs).mono fun _ _ ⟨_, e, h1, h2, h3⟩ => ⟨h2, e, fall_eq h1.1.perm h1.2, h3⟩
theorem impl_copyInts {w : World} {v_l : Value} {l : (List Int)} (h_l : Gd.rd w [v_l] l) (hl : l.length ≤ 1048576) : Cy 99 [v_l] w (Res w (l : List Int)) := by
 have hm1 := rd_max h_l;refine enter 5 Tryz.func99 Y Y Y (Sr (Pe Y (Sr (p1 Y (D_nil (α := Int) (li Y (D_apl (α := Int) (ys := l) s_26 y_3 Y Y Y Y Y Y (fun w' hs => (rA hs h_l)) (by simp; omega) (by simp; omega) fun v2 => ?_)))))));refine Pe Y (Ct (R_1 Y Y fun w' hs => res_of (k := 0) hs Y ?_));show ([]) ++ l = l;simp
theorem spec_l1Ints {w : World} {v_l : Value} {l : (List Int)} (h_l : Gd.rd w [v_l] l) (hl : l.length ≤ 1048576) : Cy 106 [v_l] w (Res w (l : List Int)) := by
 have hm1 := rd_max h_l;refine enter 6 Tryz.func106 Y Y Y (Sr (Pe Y (Sr (li Y (D_bs0 (α := Int) s_26 Y Y Y fun v2 => ?_)))));refine p1 Y (li Y (D_apl (α := Int) (ys := l) s_26 y_3 Y Y Y Y Y Y (fun w' hs => (rA hs h_l)) (by simp; omega) (by simp; omega) fun v3 => ?_));refine Pe Y (Ct (R_1 Y Y fun w' hs => res_of (k := 0) hs Y ?_));show ([]) ++ l = l;simp
theorem sort_Reverse (w0 : World) (Hs : List Chunk) (w : World) (dv : Value) (h1_ : dv.oneCell' = true) (hst : St w0 Hs w) : Cy 101 [dv] w (fun e_ w' => ∃ g : Nat, True ∧ e_ = .returned (.iface 210 (pv g)) ∧ St w0 (bx g [dv] :: Hs) w') := by
 refine enterS 7 Tryz.func101 Y Y Y hst (Sr (Pe Y (Sr (p1 Y (q1 Y (D_built (vs := [(0, dv)]) (xs := [(0, [dv])]) (cs := [dv]) pl_212 Y ⟨Y, (cells_of_one h1_), trivial⟩ Y Y) (li Y (D_box Y Y Y Y Y fun g1 => ?_)))))));refine q1 Y (D_mkP up_210 Y Y) (Pe Y (Ct ?_));exact R_1 rfl rfl fun w' hs => ⟨g1, trivial, rfl, hs⟩
theorem impl_Falling {w : World} {v_l : Value} {l : (List Int)} (h_l : Gd.rd w [v_l] l) (hl : l.length ≤ 12) : Cy 51 [v_l] w (Res w (fallL l : (List Int))) := by
 have hm1 := rd_max h_l;refine enter 11 Tryz.func51 Y Y Y (Sr (Pe Y (Sr (p1 Y (li Y (crl b_99 Y Y Y Y (fun w' hs => (impl_copyInts (rA hs h_l) (by first | assumption | omega | (unfold szm at *; split at * <;> omega)))) fun v2 => ?_))))));refine Pe Y (Dh ([ov [v2] (l : (List Int))]) Y (Sr (p1 Y (q1 Y (D_mkI s_151 Y Y) (li Y (D_call (σ := Nat) (val := fun g => .iface 210 (pv g)) (H' := fun g => bx g [(.iface 151 v2)] :: _) (J := fun _ => True) b_101 Y Y Y Y (fun w' hs => (sort_Reverse _ _ w' (.iface 151 v2) Y hs).mono fun _ _ ⟨g, h1, h2, h3⟩ => ⟨g, h2, h1, h3⟩) fun g3 _ => ?_))))));refine D_stA (li Y (csrt (C := CI g3 v2) b_100 Y Y Y Y (fun w' hs => sort_fall _ _ w' g3 v2 l (by omega) hs) fun e4 he5 => ?_));subst he5;refine D_unA (Dx (Sr (P2 Y Y (Dx (Ct (R_1 Y Y fun w' hs => res_of (k := 1) hs Y ?_))))));show fallL l = fallL l;rfl
end Go.Sy.Fal2
