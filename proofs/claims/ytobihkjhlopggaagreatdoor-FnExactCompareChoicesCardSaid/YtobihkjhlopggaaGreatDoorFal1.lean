/-
  Contracts of functions of the program, walked (printed by a program of ours).
  Conditions: those that each theorem states.
-/
import Derived.Test.YtobihkjhlopggaaGreatDoorFct
import Derived.Test.YtobihkjhlopggaaGreatDoorPdqs
set_option linter.unusedVariables false
set_option maxRecDepth 20000
namespace Go.Sy.Fal1
open Go Go.RowKit Go.Proofs Go.Sy
theorem IntSlice_Len {w : World} {v_x : Value} {x : (List Int)} (h_x : Gd.rd w [v_x] x) : Calls Tryz.prog 337 [v_x].toArray w (Val w (iv ((x.length : Int)))) := by
 have hm1 := rd_max h_x
 refine enter 5 Tryz.func337 Y Y Y (Sr (Pe Y (Sr (p1 Y (q1 Y (Dl s_151 Y Y (rd_sl h_x)) (Pe Y (Ct (Ri Y Y ?_))))))))
 show (((x.length : Nat) : Int) : Int) = _
 rfl
theorem IntSlice_Less {w : World} {v_x : Value} {x : (List Int)} {i : Int} {j : Int} (h_x : Gd.rd w [v_x] x) (hi : 0 ≤ i ∧ i < x.length) (hj : 0 ≤ j ∧ j < x.length) : Calls Tryz.prog 338 [v_x, (iv i), (iv j)].toArray w (Val w (.bool (decide (A x i.toNat < A x j.toNat)))) := by
 have hm1 := rd_max h_x
 refine enter 16 Tryz.func338 Y Y Y (Sr (Pe Y (Cq (C_draw mixed [] (by kernel_rfl) (Tk 0 Y (by kernel_rfl) Y (rp Y) (Tk 1 Y (by kernel_rfl) Y (rp Y) ?_))))))
 obtain ⟨x0, x0h⟩ := sL (l := x) (i := (i.toNat)) (by omega)
 obtain ⟨es2, at3, hr4⟩ := rd_elem (n := 1) rfl h_x x0h
 obtain rfl : es2 = [.int .i64 x0] := hr4
 refine Tk 2 Y (by kernel_rfl) Y (D_ix (l := x) (j := (i.toNat)) s_151 Y Y Y (fun w' hs => (rA hs h_x)) (Int.toNat_of_nonneg (by omega)).symm (lS x0h)) (Tk 3 Y (by kernel_rfl) Y (lr0 o_3 Y Y at3 Y) (Tk 4 Y (by kernel_rfl) Y (rp Y) (Tk 5 Y (by kernel_rfl) Y (rp Y) ?_)))
 obtain ⟨y0, y0h⟩ := sL (l := x) (i := (j.toNat)) (by omega)
 obtain ⟨es5, at6, hr7⟩ := rd_elem (n := 1) rfl h_x y0h
 obtain rfl : es5 = [.int .i64 y0] := hr7
 refine Tk 6 Y (by kernel_rfl) Y (D_ix (l := x) (j := (j.toNat)) s_151 Y Y Y (fun w' hs => (rA hs h_x)) (Int.toNat_of_nonneg (by omega)).symm (lS y0h)) (Tk 7 Y (by kernel_rfl) Y (lr0 o_3 Y Y at6 Y) (Tk 8 Y (by kernel_rfl) Y (rp Y) (Tk 9 Y (by kernel_rfl) Y (rp Y) (tE (by kernel_rfl) (Xt (Ct (Rb Y Y ?_)))))))
 show ((decide ((x0 : Int) < y0)) : Bool) = _
 rw [A_of x0h, A_of y0h]
theorem IntSlice_Swap (w0 : World) (Hs : List Chunk) (w : World) (v_x : Value) (x : (List Int)) (i : Int) (j : Int) (hi : 0 ≤ i ∧ i < x.length) (hj : 0 ≤ j ∧ j < x.length) (hst : St w0 (ov [v_x] (x : (List Int)) :: Hs) w) : Calls Tryz.prog 340 [v_x, (iv i), (iv j)].toArray w (fun e w' => e = .returned (.tuple #[]) ∧ St w0 (ov [v_x] (swp x i.toNat j.toNat : (List Int)) :: Hs) w') := by
 have hm1 := rd_max (rO (k := 0) hst rfl)
 refine enterS 20 Tryz.func340 Y Y Y hst (C_drawW (Hs) mixed [15] (by kernel_rfl) (Tj 0 Y (by kernel_rfl) Y (fun _ hs => hs.fd [] 1 Y) (rp Y) (Tj 1 Y (by kernel_rfl) Y (fun _ hs => hs.fd [] 1 Y) (rp Y) (Tj 2 Y (by kernel_rfl) Y (fun _ hs => hs.fd [] 1 Y) (rp Y) (Tj 3 Y (by kernel_rfl) Y (fun _ hs => hs.fd [] 1 Y) (rp Y) (Tj 4 Y (by kernel_rfl) Y (fun _ hs => hs.fd [] 1 Y) (rp Y) (Tj 5 Y (by kernel_rfl) Y (fun _ hs => hs.fd [] 1 Y) (rp Y) ?_)))))))
 obtain ⟨y0, y0h⟩ := sL (l := x) (i := (j.toNat)) (by omega)
 refine Tj 8 Y (by kernel_rfl) Y (fun _ hs => hs.fd [] 1 Y) (rp Y) (Tj 9 Y (by kernel_rfl) Y (fun _ hs => hs.fd [] 1 Y) (rp Y) ?_)
 obtain ⟨x0, x0h⟩ := sL (l := x) (i := (i.toNat)) (by omega)
 refine tyN [6, 10] Y (by kernel_rfl) ⟨⟨_, Y, Y, ?_⟩, ⟨_, Y, Y, ?_⟩, trivial⟩
 ·refine sv Y Y (D_ix (l := x) (j := (j.toNat)) s_151 Y Y Y (fun w' hs => (rO (k := 0) hs Y)) (Int.toNat_of_nonneg (by omega)).symm (lS y0h)) (tS (fun _ hs => hs.fd [] 1 Y) (tyN [7, 10] Y (by kernel_rfl) ⟨⟨_, Y, Y, ?_⟩, ⟨_, Y, Y, ?_⟩, trivial⟩))
  ·refine sv Y Y (lo (α := Int) 0 o_3 Y Y Y y0h) (tS (fun _ hs => hs.fd [] 1 Y) (ty 10 Y (by kernel_rfl) Y (sv Y Y (D_ix (l := x) (j := (i.toNat)) s_151 Y Y Y (fun w' hs => (rO (k := 0) hs Y)) (Int.toNat_of_nonneg (by omega)).symm (lS x0h)) ?_)))
   refine tS (fun _ hs => hs.fd [] 1 Y) (ty 11 Y (by kernel_rfl) Y (sv Y Y (lo (α := Int) 0 o_3 Y Y Y x0h) ?_))
   refine tS (fun _ hs => hs.fd [] 1 Y) (ty 12 Y (by kernel_rfl) Y (sv Y Y (D_ix (l := x) (j := (i.toNat)) s_151 Y Y Y (fun w' hs => (rO (k := 0) hs Y)) (Int.toNat_of_nonneg (by omega)).symm (lS x0h)) ?_))
   refine tS (fun _ hs => hs.fd [] 1 Y) (ty 13 Y (by kernel_rfl) Y (so (α := Int) (z := y0) 0 z_3 Y Y Y Y Y (lS x0h) ?_))
   refine tS (fun _ hs => hs.fd [] 1 Y) ?_
   obtain ⟨x2, hx3⟩ := sL (l := (x.set (i.toNat) y0)) (i := (j.toNat)) (by simp; omega)
   refine ty 14 Y (by kernel_rfl) Y (sv Y Y (D_ix (l := (x.set (i.toNat) y0)) (j := (j.toNat)) s_151 Y Y Y (fun w' hs => (rO (k := 0) hs Y)) (Int.toNat_of_nonneg (by omega)).symm (lS hx3)) ?_)
   refine tS (fun _ hs => hs.fd [] 1 Y) (ty 15 Y (by kernel_rfl) Y (so (α := Int) (z := x0) 0 z_3 Y Y Y Y Y (lS hx3) ?_))
   refine tZ Y (tE (by kernel_rfl) (D_eq 0 Y (show ((x.set (i.toNat) y0).set (j.toNat) x0 : (List Int)) = swp x i.toNat j.toNat from by unfold swp; rw [A_of x0h, A_of y0h]) ?_))
   exact R_0n rfl fun w' hs => ⟨rfl, hs⟩
  ·refine sv Y Y (D_ix (l := x) (j := (i.toNat)) s_151 Y Y Y (fun w' hs => (rO (k := 0) hs Y)) (Int.toNat_of_nonneg (by omega)).symm (lS x0h)) (tS (fun _ hs => hs.fd [] 1 Y) (tyN [7, 11] Y (by kernel_rfl) ⟨⟨_, Y, Y, ?_⟩, ⟨_, Y, Y, ?_⟩, trivial⟩))
   ·refine sv Y Y (lo (α := Int) 0 o_3 Y Y Y y0h) (tS (fun _ hs => hs.fd [] 1 Y) (ty 11 Y (by kernel_rfl) Y (sv Y Y (lo (α := Int) 0 o_3 Y Y Y x0h) ?_)))
    refine tS (fun _ hs => hs.fd [] 1 Y) (ty 12 Y (by kernel_rfl) Y (sv Y Y (D_ix (l := x) (j := (i.toNat)) s_151 Y Y Y (fun w' hs => (rO (k := 0) hs Y)) (Int.toNat_of_nonneg (by omega)).symm (lS x0h)) ?_))
    refine tS (fun _ hs => hs.fd [] 1 Y) (ty 13 Y (by kernel_rfl) Y (so (α := Int) (z := y0) 0 z_3 Y Y Y Y Y (lS x0h) ?_))
    refine tS (fun _ hs => hs.fd [] 1 Y) ?_
    obtain ⟨x4, hx5⟩ := sL (l := (x.set (i.toNat) y0)) (i := (j.toNat)) (by simp; omega)
    refine ty 14 Y (by kernel_rfl) Y (sv Y Y (D_ix (l := (x.set (i.toNat) y0)) (j := (j.toNat)) s_151 Y Y Y (fun w' hs => (rO (k := 0) hs Y)) (Int.toNat_of_nonneg (by omega)).symm (lS hx5)) ?_)
    refine tS (fun _ hs => hs.fd [] 1 Y) (ty 15 Y (by kernel_rfl) Y (so (α := Int) (z := x0) 0 z_3 Y Y Y Y Y (lS hx5) ?_))
    refine tZ Y (tE (by kernel_rfl) (D_eq 0 Y (show ((x.set (i.toNat) y0).set (j.toNat) x0 : (List Int)) = swp x i.toNat j.toNat from by unfold swp; rw [A_of x0h, A_of y0h]) ?_))
    exact R_0n rfl fun w' hs => ⟨rfl, hs⟩
   ·refine sv Y Y (lo (α := Int) 0 o_3 Y Y Y x0h) (tS (fun _ hs => hs.fd [] 1 Y) (ty 7 Y (by kernel_rfl) Y (sv Y Y (lo (α := Int) 0 o_3 Y Y Y y0h) ?_)))
    refine tS (fun _ hs => hs.fd [] 1 Y) (ty 12 Y (by kernel_rfl) Y (sv Y Y (D_ix (l := x) (j := (i.toNat)) s_151 Y Y Y (fun w' hs => (rO (k := 0) hs Y)) (Int.toNat_of_nonneg (by omega)).symm (lS x0h)) ?_))
    refine tS (fun _ hs => hs.fd [] 1 Y) (ty 13 Y (by kernel_rfl) Y (so (α := Int) (z := y0) 0 z_3 Y Y Y Y Y (lS x0h) ?_))
    refine tS (fun _ hs => hs.fd [] 1 Y) ?_
    obtain ⟨x6, hx7⟩ := sL (l := (x.set (i.toNat) y0)) (i := (j.toNat)) (by simp; omega)
    refine ty 14 Y (by kernel_rfl) Y (sv Y Y (D_ix (l := (x.set (i.toNat) y0)) (j := (j.toNat)) s_151 Y Y Y (fun w' hs => (rO (k := 0) hs Y)) (Int.toNat_of_nonneg (by omega)).symm (lS hx7)) ?_)
    refine tS (fun _ hs => hs.fd [] 1 Y) (ty 15 Y (by kernel_rfl) Y (so (α := Int) (z := x0) 0 z_3 Y Y Y Y Y (lS hx7) ?_))
    refine tZ Y (tE (by kernel_rfl) (D_eq 0 Y (show ((x.set (i.toNat) y0).set (j.toNat) x0 : (List Int)) = swp x i.toNat j.toNat from by unfold swp; rw [A_of x0h, A_of y0h]) ?_))
    exact R_0n rfl fun w' hs => ⟨rfl, hs⟩
 ·refine sv Y Y (D_ix (l := x) (j := (i.toNat)) s_151 Y Y Y (fun w' hs => (rO (k := 0) hs Y)) (Int.toNat_of_nonneg (by omega)).symm (lS x0h)) (tS (fun _ hs => hs.fd [] 1 Y) (tyN [6, 11] Y (by kernel_rfl) ⟨⟨_, Y, Y, ?_⟩, ⟨_, Y, Y, ?_⟩, trivial⟩))
  ·refine sv Y Y (D_ix (l := x) (j := (j.toNat)) s_151 Y Y Y (fun w' hs => (rO (k := 0) hs Y)) (Int.toNat_of_nonneg (by omega)).symm (lS y0h)) (tS (fun _ hs => hs.fd [] 1 Y) (tyN [7, 11] Y (by kernel_rfl) ⟨⟨_, Y, Y, ?_⟩, ⟨_, Y, Y, ?_⟩, trivial⟩))
   ·refine sv Y Y (lo (α := Int) 0 o_3 Y Y Y y0h) (tS (fun _ hs => hs.fd [] 1 Y) (ty 11 Y (by kernel_rfl) Y (sv Y Y (lo (α := Int) 0 o_3 Y Y Y x0h) ?_)))
    refine tS (fun _ hs => hs.fd [] 1 Y) (ty 12 Y (by kernel_rfl) Y (sv Y Y (D_ix (l := x) (j := (i.toNat)) s_151 Y Y Y (fun w' hs => (rO (k := 0) hs Y)) (Int.toNat_of_nonneg (by omega)).symm (lS x0h)) ?_))
    refine tS (fun _ hs => hs.fd [] 1 Y) (ty 13 Y (by kernel_rfl) Y (so (α := Int) (z := y0) 0 z_3 Y Y Y Y Y (lS x0h) ?_))
    refine tS (fun _ hs => hs.fd [] 1 Y) ?_
    obtain ⟨x8, hx9⟩ := sL (l := (x.set (i.toNat) y0)) (i := (j.toNat)) (by simp; omega)
    refine ty 14 Y (by kernel_rfl) Y (sv Y Y (D_ix (l := (x.set (i.toNat) y0)) (j := (j.toNat)) s_151 Y Y Y (fun w' hs => (rO (k := 0) hs Y)) (Int.toNat_of_nonneg (by omega)).symm (lS hx9)) ?_)
    refine tS (fun _ hs => hs.fd [] 1 Y) (ty 15 Y (by kernel_rfl) Y (so (α := Int) (z := x0) 0 z_3 Y Y Y Y Y (lS hx9) ?_))
    refine tZ Y (tE (by kernel_rfl) (D_eq 0 Y (show ((x.set (i.toNat) y0).set (j.toNat) x0 : (List Int)) = swp x i.toNat j.toNat from by unfold swp; rw [A_of x0h, A_of y0h]) ?_))
    exact R_0n rfl fun w' hs => ⟨rfl, hs⟩
   ·refine sv Y Y (lo (α := Int) 0 o_3 Y Y Y x0h) (tS (fun _ hs => hs.fd [] 1 Y) (ty 7 Y (by kernel_rfl) Y (sv Y Y (lo (α := Int) 0 o_3 Y Y Y y0h) ?_)))
    refine tS (fun _ hs => hs.fd [] 1 Y) (ty 12 Y (by kernel_rfl) Y (sv Y Y (D_ix (l := x) (j := (i.toNat)) s_151 Y Y Y (fun w' hs => (rO (k := 0) hs Y)) (Int.toNat_of_nonneg (by omega)).symm (lS x0h)) ?_))
    refine tS (fun _ hs => hs.fd [] 1 Y) (ty 13 Y (by kernel_rfl) Y (so (α := Int) (z := y0) 0 z_3 Y Y Y Y Y (lS x0h) ?_))
    refine tS (fun _ hs => hs.fd [] 1 Y) ?_
    obtain ⟨x10, hx11⟩ := sL (l := (x.set (i.toNat) y0)) (i := (j.toNat)) (by simp; omega)
    refine ty 14 Y (by kernel_rfl) Y (sv Y Y (D_ix (l := (x.set (i.toNat) y0)) (j := (j.toNat)) s_151 Y Y Y (fun w' hs => (rO (k := 0) hs Y)) (Int.toNat_of_nonneg (by omega)).symm (lS hx11)) ?_)
    refine tS (fun _ hs => hs.fd [] 1 Y) (ty 15 Y (by kernel_rfl) Y (so (α := Int) (z := x0) 0 z_3 Y Y Y Y Y (lS hx11) ?_))
    refine tZ Y (tE (by kernel_rfl) (D_eq 0 Y (show ((x.set (i.toNat) y0).set (j.toNat) x0 : (List Int)) = swp x i.toNat j.toNat from by unfold swp; rw [A_of x0h, A_of y0h]) ?_))
    exact R_0n rfl fun w' hs => ⟨rfl, hs⟩
  ·refine sv Y Y (lo (α := Int) 0 o_3 Y Y Y x0h) (tS (fun _ hs => hs.fd [] 1 Y) (ty 6 Y (by kernel_rfl) Y (sv Y Y (D_ix (l := x) (j := (j.toNat)) s_151 Y Y Y (fun w' hs => (rO (k := 0) hs Y)) (Int.toNat_of_nonneg (by omega)).symm (lS y0h)) ?_)))
   refine tS (fun _ hs => hs.fd [] 1 Y) (ty 7 Y (by kernel_rfl) Y (sv Y Y (lo (α := Int) 0 o_3 Y Y Y y0h) ?_))
   refine tS (fun _ hs => hs.fd [] 1 Y) (ty 12 Y (by kernel_rfl) Y (sv Y Y (D_ix (l := x) (j := (i.toNat)) s_151 Y Y Y (fun w' hs => (rO (k := 0) hs Y)) (Int.toNat_of_nonneg (by omega)).symm (lS x0h)) ?_))
   refine tS (fun _ hs => hs.fd [] 1 Y) (ty 13 Y (by kernel_rfl) Y (so (α := Int) (z := y0) 0 z_3 Y Y Y Y Y (lS x0h) ?_))
   refine tS (fun _ hs => hs.fd [] 1 Y) ?_
   obtain ⟨x12, hx13⟩ := sL (l := (x.set (i.toNat) y0)) (i := (j.toNat)) (by simp; omega)
   refine ty 14 Y (by kernel_rfl) Y (sv Y Y (D_ix (l := (x.set (i.toNat) y0)) (j := (j.toNat)) s_151 Y Y Y (fun w' hs => (rO (k := 0) hs Y)) (Int.toNat_of_nonneg (by omega)).symm (lS hx13)) ?_)
   refine tS (fun _ hs => hs.fd [] 1 Y) (ty 15 Y (by kernel_rfl) Y (so (α := Int) (z := x0) 0 z_3 Y Y Y Y Y (lS hx13) ?_))
   refine tZ Y (tE (by kernel_rfl) (D_eq 0 Y (show ((x.set (i.toNat) y0).set (j.toNat) x0 : (List Int)) = swp x i.toNat j.toNat from by unfold swp; rw [A_of x0h, A_of y0h]) ?_))
   exact R_0n rfl fun w' hs => ⟨rfl, hs⟩
theorem reverse_Less {w : World} {v_x : Value} {x : List Int} {i : Int} {j : Int} (h_x : Gd.rd w [v_x] x) (hi : 0 ≤ i ∧ i < x.length) (hj : 0 ≤ j ∧ j < x.length) : Calls Tryz.prog 342 [(.agg #[(.iface 151 v_x)]), (iv i), (iv j)].toArray w (Val w (.bool (decide (A x j.toNat < A x i.toNat)))) := by
 have hm1 := rd_max h_x
 refine enter 12 Tryz.func342 Y Y Y (Sr (li Y (D_box Y Y Y Y Y fun g2 => ?_)))
 refine Pe Y (Dh ([bx g2 [(.iface 151 v_x)]]) Y (Sr (q1 Y (Db f_212_0 Y Y (q := 0) Y) (q1 Y (lb 0 o_149 Y Y Y Y) (P2 Y Y (li Y (D_im Y Y Y Y Y (fun w' hs => ⟨338, _, b_338, run_cm (run_mval (e := 3) (by kernel_rfl) (by kernel_rfl)), (IntSlice_Less (rA hs h_x) (by omega) (by omega)).mono fun _ _ h => ⟨h.1, hs.ext h.2⟩⟩) ?_)))))))
 refine Pe Y (Ct (Rb Y Y ?_))
 show ((decide (A x j.toNat < A x i.toNat)) : Bool) = _
 rfl
end Go.Sy.Fal1
