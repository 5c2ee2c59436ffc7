/-
  Contracts of functions of the program, walked (printed by a program of ours).
  Conditions: those that each theorem states.
-/
import Derived.Test.YtkbiaedfnpbpfaaGreatDoorEng1
import Derived.Test.YtkbiaedfnpbpfaaGreatDoorRul2
import Derived.Test.YtkbiaedfnpbpfaaGreatDoorShelf
set_option linter.unusedVariables false
set_option maxRecDepth 20000
namespace Go.Sy.Eng2
open Go Go.RowKit Go.Proofs Go.Sy
theorem mixed : Tryz.prog.follows .mixedOrders = true := by kernel_rfl
theorem s_58 : sliceTy Tryz.prog 58 = some (9, 1, 16) := by kernel_rfl
theorem y_9 : zeroTy Tryz.prog 9 = some (.string ⟨#[]⟩) := by kernel_rfl
theorem b_204 : hasBody Tryz.prog 204 = true := by kernel_rfl
theorem o_9 : oneTy Tryz.prog 9 = true := by kernel_rfl
theorem b_203 : hasBody Tryz.prog 203 = true := by kernel_rfl
theorem f_145_1 : fieldOff Tryz.prog 145 1 = some 1 := by kernel_rfl
theorem o_58 : oneTy Tryz.prog 58 = true := by kernel_rfl
theorem b_196 : hasBody Tryz.prog 196 = true := by kernel_rfl
theorem b_193 : hasBody Tryz.prog 193 = true := by kernel_rfl
theorem f_147_1 : fieldOff Tryz.prog 147 1 = some 1 := by kernel_rfl
theorem f_147_2 : fieldOff Tryz.prog 147 2 = some 3 := by kernel_rfl
theorem f_147_3 : fieldOff Tryz.prog 147 3 = some 4 := by kernel_rfl
theorem b_184 : hasBody Tryz.prog 184 = true := by kernel_rfl
theorem a_147 : aggTy Tryz.prog 147 = some 5 := by kernel_rfl
theorem b_213 : hasBody Tryz.prog 213 = true := by kernel_rfl
theorem b_167 : hasBody Tryz.prog 167 = true := by kernel_rfl
theorem b_169 : hasBody Tryz.prog 169 = true := by kernel_rfl
theorem a_145 : aggTy Tryz.prog 145 = some 2 := by kernel_rfl
theorem b_159 : hasBody Tryz.prog 159 = true := by kernel_rfl
open Go.Sy.Bel1 Go.Sy.Ev1 Go.Sy.Ev2 Go.Sy.Eng1
theorem sort_Strings_c (w0 : World) (Hs : List Chunk) (w : World) (v_l : Value) (l : List ByteArray) (hsz : l.length ≤ 4294967296) (hst : St w0 (ov [v_l] (l : List ByteArray) :: Hs) w) : Calls Tryz.prog 204 [v_l].toArray w (fun e w' => e = .returned (.tuple #[]) ∧ St w0 (ov [v_l] (srtS l : List ByteArray) :: Hs) w') := by
  obtain ⟨fp, hok, hn, hb, put⟩ := hst.set (k := 0) rfl
  rcases owF hok with ⟨h1, h2, _⟩ | ⟨g, cap, cur, h1, h2, h3, h4, h5, h6, h8⟩
  · subst h1; subst h2
    refine (Tryz.sort_Strings_none none 0 w).mono fun e w' ⟨he, hw⟩ => ⟨he, ?_⟩
    subst hw
    rw [show srtS [] = [] by simp [srtS]]
    exact hst
  · subst h6
    subst h1
    have hH : Go.Sort.Holds Go.Proofs.encStr w g 0 (l.map (·.data.toList)).toArray := fun j hj => by
      have hj2 : j < l.length := by simpa using hj
      obtain ⟨x, hx⟩ := sL hj2
      refine ⟨?_, by simp [World.frozen?, h2]⟩
      rw [Nat.zero_add, cell_of_heap h2, h8 j x hx]
      rw [getElem!_pos _ j hj]
      obtain ⟨b, c⟩ := List.getElem?_eq_some_iff.1 hx
      simp only [List.getElem_toArray, List.getElem_map, c]
      rfl
    have hlen : ((l.map (·.data.toList)).length) = l.length := by simp
    have hcall := Tryz.sort_Strings g 0 cap (l.map (·.data.toList)) w hH (lt_of_heap h2) (by rw [hlen]; omega)
    rw [hlen] at hcall
    refine hcall.mono fun e w' ⟨he, n, os, hw⟩ => ⟨he, ?_⟩
    subst hw
    have hheap : (Go.Sort.grow (Go.Sort.putRow Go.Proofs.encStr (Go.Sort.ahead w n) g 0 ((l.map (·.data.toList)).mergeSort fun x y => decide (x ≤ y)).toArray) os).heap[g]? = some (.cells (Go.Sort.putCells Go.Proofs.encStr 0 ((l.map (·.data.toList)).mergeSort fun x y => decide (x ≤ y)).toArray cur) (Tid.id ByteArray) (0, 0)) := by
      rw [Go.Sort.heap_grow_old _ _ (by simp [Go.Sort.ahead]; exact lt_of_heap h2)]
      simp [Go.Sort.putRow, Go.Sort.mapBlock, Go.Sort.ahead, Array.getElem?_modify, h2, Go.Sort.onCells]
    refine put _ (ov [.slice (some ⟨g, 0, none⟩) l.length cap] (srtS l)) [g] ⟨rfl, rfl, rfl, by simp [Go.Sort.ahead], fun k hk hkn => ?_⟩ ?_ (by simp) (fun q hq => ⟨.inl hq, ?_⟩)
    · have hne : g ≠ k := fun e => hkn (by simp [e])
      rw [Go.Sort.heap_grow_old _ _ (by simpa [Go.Sort.ahead] using hk)]
      simp [Go.Sort.putRow, Go.Sort.mapBlock, Go.Sort.ahead, Array.getElem?_modify, hne]
    · have hl := srtS_len l
      show Gd.ow _ [.slice (some ⟨g, 0, none⟩) l.length cap] (srtS l) [g]
      rw [← hl]
      refine owF_mk hheap (by rw [hl]; exact h3) h4 (by simp [Go.Sort.putCells, h5]) (fun i x hx => ?_)
      have hi := lS hx
      have hi2 : i < ((l.map (·.data.toList)).mergeSort fun x y => decide (x ≤ y)).length := by simpa [srtS] using hi
      simp only [srtS, List.getElem?_map, List.getElem?_eq_getElem hi2, Option.map_some, Option.some.injEq] at hx
      subst hx
      have hic : i < cur.size := by rw [h5]; omega
      simp only [Go.Sort.putCells, Array.getElem?_mapIdx, Array.getElem?_eq_getElem hic, Option.map_some, Option.some.injEq]
      rw [if_pos ⟨Nat.zero_le _, by simpa using hi2⟩, getElem!_pos _ _ (by simpa using hi2)]
      simp
      rfl
    · have := hb q hq
      simp only [Go.Sort.size_grow, Go.Sort.size_putRow]
      show q < w.heap.size + os.size
      omega
theorem impl_SortedTexts (w : World) (v_l : Value) (l : (List ByteArray)) (h_l : Gd.rd w [v_l] l) (hln : l.length ≤ 4294967296) : Calls Tryz.prog 169 [v_l].toArray w (Res w (sortT l : List ByteArray)) := by
 have hm1 := rd_max h_l
 refine enter 35 Tryz.func169 rfl rfl rfl (Sr (Pe rfl (Sr (p1 rfl (D_nil (α := ByteArray) (li rfl (D_apl (α := ByteArray) (ys := l) s_58 y_9 rfl rfl rfl rfl rfl rfl (fun w' hs => (rA hs h_l)) (by first | omega | (simp; omega)) (by first | omega | (simp; omega)) fun v2 => ?_)))))))
 refine Pe rfl (Dh ([ov [v2] (([]) ++ l : (List ByteArray))]) rfl (Sr (p1 rfl (li rfl (cm b_204 rfl rfl rfl rfl (fun w' hs => sort_Strings_c _ _ w' v2 (([]) ++ l) (by first | assumption | omega | (simp only; omega)) hs) ?_)))))
 refine Dx (Dh ([ov [v2] (srtS (([]) ++ l) : (List ByteArray))]) rfl (Cq ?_))
 have hsl : (srtS ([] ++ l)).length = l.length := srtS_len l
 refine Cr (Pe rfl (Cq (Sr (p1 rfl (q1 rfl (D_leno 0 s_58 rfl rfl rfl) (Pe rfl (Cb (Cl (fun m_ ac w' => ∃ (k : Nat), ∃ (v : Value), (k ≤ l.length) ∧ m_ = l.length - k ∧ Fits ac 35 [(3, v2), (4, v), (11, v2), (12, (.int .i64 (((srtS (([]) ++ l)).length : Nat) : Int))), (13, (.int .i64 ((k : Nat) : Int)))] ∧ St w ([ov [v] (onceT (srtS ([] ++ l)) k : (List ByteArray)), ov [v2] (srtS (([]) ++ l) : (List ByteArray))]) w') ?_ ?_))))))))
 ·refine D_nil (α := ByteArray) (D_eq 0 rfl (show ([] : (List ByteArray)) = onceT (srtS ([] ++ l)) 0 from by rfl) (fun ac w' hf hs => ⟨_, 0, (.slice none 0 0), ?_, rfl, hf.weak ⟨rfl, rfl, rfl, rfl, rfl, trivial⟩, hs⟩))
  ·first | assumption | omega | simp
 ·rintro m_ ac w' ⟨k, v, hk, rfl, hf, hs⟩
  refine D.use ?_ hf hs
  clear hf hs ac w'
  have hcl := onceT_len (srtS ([] ++ l)) k
  refine Sr (Pe rfl (Dh ([ov [v] (onceT (srtS ([] ++ l)) k : (List ByteArray)), ov [v2] (srtS (([]) ++ l) : (List ByteArray))]) rfl (Cq (Ci _ rfl (fun h3 => ?_) (fun h3 => ?_)))))
  ·have pr3 : (((k : Nat) : Int) : Int) < (((srtS (([]) ++ l)).length : Nat) : Int) := odT h3
   refine Sk (Cq (Cb (Sr (p1 rfl ?_))))
   obtain ⟨x0, x0h⟩ := sL (l := (srtS (([]) ++ l))) (i := k) (by omega)
   refine q1 rfl (D_ix (l := (srtS (([]) ++ l))) (j := k) s_58 rfl rfl rfl (fun w' hs => (rO (k := 1) hs rfl)) rfl (lS x0h)) (q1 rfl (lo (α := ByteArray) 1 o_9 rfl rfl rfl x0h) (P2 rfl rfl (Dx (Sr (P3 rfl rfl rfl (gs 20 rfl rfl (fun h4 => ?_) (fun h4 => ?_)))))))
   ·have pr4 : (((k : Nat) : Int) : Int) = 0 := eq_of_beq h4
    refine n1 rfl (n1 rfl (n1 rfl (n1 rfl (n1 rfl (n1 rfl (n1 rfl (Pe rfl (Dw [(3, v2), (4, v), (6, (.string x0)), (11, v2), (12, (.int .i64 (((srtS (([]) ++ l)).length : Nat) : Int))), (13, (.int .i64 ((k : Nat) : Int))), (28, (.bool true))] ⟨rfl, rfl, rfl, rfl, rfl, rfl, rfl, trivial⟩ (C_t rfl (Cr (P2 rfl rfl (li rfl (D_bs s_58 y_9 rfl (by decide) (by decide) rfl rfl rfl rfl rfl rfl fun g5 => ?_)))))))))))))
    refine D_fs x0 (D_pk (H' := [ov [v] (onceT (srtS ([] ++ l)) k : (List ByteArray)), ov [(.string x0)] (x0 : ByteArray), bx g5 [(.string x0)], ov [v2] (srtS (([]) ++ l) : (List ByteArray))]) [2, 0, 1, 3] rfl rfl (li rfl (D_ap s_58 y_9 rfl (by decide) rfl rfl rfl rfl rfl rfl (by first | omega | (simp; omega)) (by first | omega | (simp; omega)) fun v6 => ?_)))
    refine p1 rfl (De (Xb (Xt (Dh ([ov [v6] ((onceT (srtS ([] ++ l)) k) ++ [x0] : (List ByteArray)), ov [v2] (srtS (([]) ++ l) : (List ByteArray))]) rfl (Cr (q1 rfl (D_add rfl rfl rfl (r := ((k + 1 : Nat) : Int)) (by omega) (by omega)) (Pe rfl (D_eq 0 rfl (show ((onceT (srtS ([] ++ l)) k) ++ [x0] : (List ByteArray)) = onceT (srtS ([] ++ l)) (k + 1) from by first | exact onceT_t x0h (.inl (by omega)) | exact onceT_t x0h (.inr (by simp_all)) | exact onceT_f x0h (by omega) (by simp_all)) (fun ac w' hf hs => ⟨_, ?_, k + 1, v6, ?_, rfl, hf.weak ⟨rfl, rfl, rfl, rfl, rfl, trivial⟩, hs⟩)))))))))
    ·omega
    ·first | assumption | omega | simp
   ·have pr4 : (((k : Nat) : Int) : Int) ≠ 0 := ne_of_beq_false h4
    refine P2 rfl rfl (q1 rfl (D_sub rfl rfl rfl (r := ((k - 1 : Nat) : Int)) (by omega) (by omega)) ?_)
    obtain ⟨y0, y0h⟩ := sL (l := (srtS (([]) ++ l))) (i := (k - 1)) (by omega)
    refine q1 rfl (D_ix (l := (srtS (([]) ++ l))) (j := (k - 1)) s_58 rfl rfl rfl (fun w' hs => (rO (k := 1) hs rfl)) rfl (lS y0h)) (q1 rfl (lo (α := ByteArray) 1 o_9 rfl rfl rfl y0h) (p1 rfl (q1 rfl (D_neS rfl rfl rfl) (Pe rfl (Dw [(3, v2), (4, v), (6, (.string x0)), (11, v2), (12, (.int .i64 (((srtS (([]) ++ l)).length : Nat) : Int))), (13, (.int .i64 ((k : Nat) : Int))), (28, (.bool (!(decide ((y0 : ByteArray) = x0)))))] ⟨rfl, rfl, rfl, rfl, rfl, rfl, rfl, trivial⟩ (Ci _ rfl (fun h7 => ?_) (fun h7 => ?_)))))))
    ·have pr7 : ¬ (y0 : ByteArray) = x0 := of_decide_eq_false (not_t h7)
     refine Cr (P2 rfl rfl (li rfl (D_bs s_58 y_9 rfl (by decide) (by decide) rfl rfl rfl rfl rfl rfl fun g8 => ?_)))
     refine D_fs x0 (D_pk (H' := [ov [v] (onceT (srtS ([] ++ l)) k : (List ByteArray)), ov [(.string x0)] (x0 : ByteArray), bx g8 [(.string x0)], ov [v2] (srtS (([]) ++ l) : (List ByteArray))]) [2, 0, 1, 3] rfl rfl (li rfl (D_ap s_58 y_9 rfl (by decide) rfl rfl rfl rfl rfl rfl (by first | omega | (simp; omega)) (by first | omega | (simp; omega)) fun v9 => ?_)))
     refine p1 rfl (De (Xb (Xt (Dh ([ov [v9] ((onceT (srtS ([] ++ l)) k) ++ [x0] : (List ByteArray)), ov [v2] (srtS (([]) ++ l) : (List ByteArray))]) rfl (Cr (q1 rfl (D_add rfl rfl rfl (r := ((k + 1 : Nat) : Int)) (by omega) (by omega)) (Pe rfl (D_eq 0 rfl (show ((onceT (srtS ([] ++ l)) k) ++ [x0] : (List ByteArray)) = onceT (srtS ([] ++ l)) (k + 1) from by first | exact onceT_t x0h (.inl (by omega)) | exact onceT_t x0h (.inr (by simp_all)) | exact onceT_f x0h (by omega) (by simp_all)) (fun ac w' hf hs => ⟨_, ?_, k + 1, v9, ?_, rfl, hf.weak ⟨rfl, rfl, rfl, rfl, rfl, trivial⟩, hs⟩)))))))))
     ·omega
     ·first | assumption | omega | simp
    ·have pr7 : (y0 : ByteArray) = x0 := of_decide_eq_true (not_f h7)
     refine Ck (Xb (Xt (Cr (q1 rfl (D_add rfl rfl rfl (r := ((k + 1 : Nat) : Int)) (by omega) (by omega)) (Pe rfl (D_eq 0 rfl (show (onceT (srtS ([] ++ l)) k : (List ByteArray)) = onceT (srtS ([] ++ l)) (k + 1) from by first | exact onceT_t x0h (.inl (by omega)) | exact onceT_t x0h (.inr (by simp_all)) | exact onceT_f x0h (by omega) (by simp_all)) (fun ac w' hf hs => ⟨_, ?_, k + 1, v, ?_, rfl, hf.weak ⟨rfl, rfl, rfl, rfl, rfl, trivial⟩, hs⟩)))))))
     ·omega
     ·first | assumption | omega | simp
  ·have pr3 : ¬ (((k : Nat) : Int) : Int) < (((srtS (([]) ++ l)).length : Nat) : Int) := odF h3
   refine Cx (Xx (Xx (Xe (Xt (Sr (P2 rfl rfl (Dx (Ct (R_1 rfl rfl fun w' hs => res_of (k := 0) hs rfl ?_)))))))))
   show onceT (srtS ([] ++ l)) k = sortT l
   exact once_done (l := l) (by omega) (by omega)
theorem impl_varsAmong (w : World) (v_l : Value) (l : (List ByteArray)) (h_l : Gd.rd w [v_l] l) (hln : l.length ≤ 4294967296) : Calls Tryz.prog 167 [v_l].toArray w (Res w (varsL l : List ByteArray)) := by
 have hm1 := rd_max h_l
 refine enter 20 Tryz.func167 rfl rfl rfl (Sr (Pe rfl (Sr (Pe rfl (Cq (Sr (p1 rfl (q1 rfl (Dl s_58 rfl rfl (rd_sl h_l)) (Pe rfl (Cb (Cl (fun m_ ac w' => ∃ (k : Nat), ∃ (v : Value), (k ≤ l.length) ∧ m_ = l.length - k ∧ Fits ac 20 [(3, v), (6, v_l), (7, (.int .i64 ((l.length : Nat) : Int))), (8, (.int .i64 ((k : Nat) : Int)))] ∧ St w ([ov [v] (varsL (l.take k) : (List ByteArray))]) w') ?_ ?_)))))))))))
 ·refine D_nil (α := ByteArray) (D_eq 0 rfl (show ([] : (List ByteArray)) = varsL (l.take 0) from by rfl) (fun ac w' hf hs => ⟨_, 0, (.slice none 0 0), ?_, rfl, hf.weak ⟨rfl, rfl, rfl, rfl, trivial⟩, hs⟩))
  ·first | assumption | omega | simp
 ·rintro m_ ac w' ⟨k, v, hk, rfl, hf, hs⟩
  refine D.use ?_ hf hs
  clear hf hs ac w'
  have hcl := varsL_len (l.take k)
  have htl : (l.take k).length ≤ k := by rw [List.length_take]; omega
  refine Sr (Pe rfl (Dh ([ov [v] (varsL (l.take k) : (List ByteArray))]) rfl (Cq (Ci _ rfl (fun h2 => ?_) (fun h2 => ?_)))))
  ·have pr2 : (((k : Nat) : Int) : Int) < ((l.length : Nat) : Int) := odT h2
   refine Sk (Cq (Cb (Sr ?_)))
   obtain ⟨x0, x0h⟩ := sL (l := l) (i := k) (by omega)
   obtain ⟨es3, at4, hr5⟩ := rd_elem (n := 1) rfl h_l x0h
   obtain rfl : es3 = [.string x0] := hr5
   refine q1 rfl (D_ix (l := l) (j := k) s_58 rfl rfl rfl (fun w' hs => (rA hs h_l)) rfl (lS x0h)) (q1 rfl (lr0 o_9 rfl rfl at4 rfl) (Pe rfl (Sr (p1 rfl (li rfl (cv b_203 rfl rfl rfl rfl (fun w' hs => (impl_IsVar w' x0)) ?_))))))
   refine Dx (Ci _ rfl (fun h6 => ?_) (fun h6 => ?_))
   ·refine Cr (P2 rfl rfl (li rfl (D_bs s_58 y_9 rfl (by decide) (by decide) rfl rfl rfl rfl rfl rfl fun g7 => ?_)))
    refine D_fs x0 (D_pk (H' := [ov [v] (varsL (l.take k) : (List ByteArray)), ov [(.string x0)] (x0 : ByteArray), bx g7 [(.string x0)]]) [2, 0, 1] rfl rfl (li rfl (D_ap s_58 y_9 rfl (by decide) rfl rfl rfl rfl rfl rfl (by first | omega | (simp; omega)) (by first | omega | (simp; omega)) fun v8 => ?_)))
    refine p1 rfl (De (Xb (Xt (Dh ([ov [v8] ((varsL (l.take k)) ++ [x0] : (List ByteArray))]) rfl (Cr (q1 rfl (D_add rfl rfl rfl (r := ((k + 1 : Nat) : Int)) (by omega) (by omega)) (Pe rfl (D_eq 0 rfl (show ((varsL (l.take k)) ++ [x0] : (List ByteArray)) = varsL (l.take (k + 1)) from by first | exact varsL_t x0h (by simp_all) | exact varsL_f x0h (by simp_all)) (fun ac w' hf hs => ⟨_, ?_, k + 1, v8, ?_, rfl, hf.weak ⟨rfl, rfl, rfl, rfl, trivial⟩, hs⟩)))))))))
    ·omega
    ·first | assumption | omega | simp
   ·refine Ck (Xb (Xt (Cr (q1 rfl (D_add rfl rfl rfl (r := ((k + 1 : Nat) : Int)) (by omega) (by omega)) (Pe rfl (D_eq 0 rfl (show (varsL (l.take k) : (List ByteArray)) = varsL (l.take (k + 1)) from by first | exact varsL_t x0h (by simp_all) | exact varsL_f x0h (by simp_all)) (fun ac w' hf hs => ⟨_, ?_, k + 1, v, ?_, rfl, hf.weak ⟨rfl, rfl, rfl, rfl, trivial⟩, hs⟩)))))))
    ·omega
    ·first | assumption | omega | simp
  ·have pr2 : ¬ (((k : Nat) : Int) : Int) < ((l.length : Nat) : Int) := odF h2
   refine Cx (Xx (Xx (Xe (Xt (Sr (P2 rfl rfl (Dx (Ct (R_1 rfl rfl fun w' hs => res_of (k := 0) hs rfl ?_)))))))))
   show varsL (l.take k) = varsL l
   rw [List.take_of_length_le (by omega)]
theorem spec_VarsOf (w : World) (c_p : List Value) (p : Pattern) (h_p : Gd.rd w c_p p) (hln : p.Args.length ≤ 1048576) (ho : okPattern p) : Calls Tryz.prog 159 [(.agg c_p.toArray)].toArray w (Res w (sortT (varsL p.Args) : List ByteArray)) := by
 obtain ⟨u1, rfl, hu2⟩ := open_Pattern h_p
 have hm3 := rd_max hu2
 refine enter 27 Tryz.func159 rfl rfl rfl (Sr (li rfl (D_box rfl rfl rfl rfl rfl fun g4 => ?_)))
 refine Pe rfl (Dh ([bx g4 [(.string p.Rel), u1]]) rfl (Sr (li rfl (D_bs0 (α := ByteArray) s_58 rfl rfl rfl fun v5 => ?_))))
 refine Pe rfl (Dh ([ov [v5] ([] : (List ByteArray)), bx g4 [(.string p.Rel), u1]]) rfl (Cq (Sr (Pe rfl (Cb (Cl (fun m_ ac w' => ∃ (k : Nat), ∃ (v : Value), (k ≤ p.Args.length) ∧ m_ = p.Args.length - k ∧ Fits ac 27 [(1, (.pointer (some ⟨g4, 0, none⟩))), (3, v), (4, (.int .i64 ((k : Nat) : Int)))] ∧ St w ([ov [v] (sortT (varsL (p.Args.take k)) : (List ByteArray)), bx g4 [(.string p.Rel), u1]]) w') ?_ ?_))))))
 ·refine D_eq 0 rfl (show ([] : (List ByteArray)) = sortT (varsL (p.Args.take 0)) from by rfl) (fun ac w' hf hs => ⟨_, 0, v5, ?_, rfl, hf.weak ⟨rfl, rfl, rfl, trivial⟩, hs⟩)
  ·first | assumption | omega | simp
 ·rintro m_ ac w' ⟨k, v, hk, rfl, hf, hs⟩
  refine D.use ?_ hf hs
  clear hf hs ac w'
  have hcs := sortT_len (varsL (p.Args.take k))
  have hcl := varsL_len (p.Args.take k)
  have htl : (p.Args.take k).length ≤ k := by rw [List.length_take]; omega
  refine Cq (Sr (p1 rfl (q1 rfl (Db f_145_1 rfl rfl (q := 1) rfl) (q1 rfl (lb 1 o_58 rfl rfl rfl rfl) (q1 rfl (Dl s_58 rfl rfl (rd_sl hu2)) (Pe rfl (Dh ([ov [v] (sortT (varsL (p.Args.take k)) : (List ByteArray)), bx g4 [(.string p.Rel), u1]]) rfl (Ci _ rfl (fun h6 => ?_) (fun h6 => ?_)))))))))
  ·have pr6 : (((k : Nat) : Int) : Int) < ((p.Args.length : Nat) : Int) := odT h6
   refine Sk (Cq (Cb (Sr (q1 rfl (Db f_145_1 rfl rfl (q := 1) rfl) (q1 rfl (lb 1 o_58 rfl rfl rfl rfl) (p1 rfl ?_))))))
   obtain ⟨x0, x0h⟩ := sL (l := p.Args) (i := k) (by omega)
   have hs1 : x0.size ≤ 9223372036854775807 := ho.2 _ (List.mem_of_getElem? x0h)
   obtain ⟨es7, at8, hr9⟩ := rd_elem (n := 1) rfl hu2 x0h
   obtain rfl : es7 = [.string x0] := hr9
   refine q1 rfl (D_ix (l := p.Args) (j := k) s_58 rfl rfl rfl (fun w' hs => (rA hs hu2)) rfl (lS x0h)) (q1 rfl (lr0 o_9 rfl rfl at8 rfl) (li rfl (cv b_196 rfl rfl rfl rfl (fun w' hs => (spec_IsVar w' x0 hs1)) ?_)))
   refine Dx (Ci _ rfl (fun h10 => ?_) (fun h10 => ?_))
   ·refine Cr (p1 rfl (q1 rfl (Db f_145_1 rfl rfl (q := 1) rfl) (q1 rfl (lb 1 o_58 rfl rfl rfl rfl) (p1 rfl (q1 rfl (D_ix (l := p.Args) (j := k) s_58 rfl rfl rfl (fun w' hs => (rA hs hu2)) rfl (lS x0h)) (q1 rfl (lr0 o_9 rfl rfl at8 rfl) (li rfl (crl b_193 rfl rfl rfl rfl (fun w' hs => (spec_l1Put w' v (sortT (varsL (p.Args.take k))) x0 (rO (k := 0) hs rfl) (by first | assumption | omega | (unfold szm at *; split at * <;> omega)))) fun v11 => ?_))))))))
    refine p1 rfl (De (Xb (Xt (Dw [(1, (.pointer (some ⟨g4, 0, none⟩))), (3, v11), (4, (.int .i64 ((k : Nat) : Int)))] ⟨rfl, rfl, rfl, trivial⟩ (Dh ([ov [v11] (putS (sortT (varsL (p.Args.take k))) x0 : (List ByteArray)), ov [v] (sortT (varsL (p.Args.take k)) : (List ByteArray)), bx g4 [(.string p.Rel), u1]]) rfl (Cr (p1 rfl (q1 rfl (D_add rfl rfl rfl (r := ((k + 1 : Nat) : Int)) (by omega) (by omega)) (Pe rfl (D_eq 0 rfl (show (putS (sortT (varsL (p.Args.take k))) x0 : (List ByteArray)) = sortT (varsL (p.Args.take (k + 1))) from by first | exact varsP_t x0h (by simp_all) | exact varsP_f x0h (by simp_all)) (fun ac w' hf hs => ⟨_, ?_, k + 1, v11, ?_, rfl, hf.weak ⟨rfl, rfl, rfl, trivial⟩, hs.pk [0, 2] rfl rfl⟩)))))))))))
    ·omega
    ·first | assumption | omega | simp
   ·refine Ck (Xb (Xt (Cr (p1 rfl (q1 rfl (D_add rfl rfl rfl (r := ((k + 1 : Nat) : Int)) (by omega) (by omega)) (Pe rfl (D_eq 0 rfl (show (sortT (varsL (p.Args.take k)) : (List ByteArray)) = sortT (varsL (p.Args.take (k + 1))) from by first | exact varsP_t x0h (by simp_all) | exact varsP_f x0h (by simp_all)) (fun ac w' hf hs => ⟨_, ?_, k + 1, v, ?_, rfl, hf.weak ⟨rfl, rfl, rfl, trivial⟩, hs⟩))))))))
    ·omega
    ·first | assumption | omega | simp
  ·have pr6 : ¬ (((k : Nat) : Int) : Int) < ((p.Args.length : Nat) : Int) := odF h6
   refine Cx (Xx (Xx (Xe (Xt (Sr (P2 rfl rfl (Dx (Ct (R_1 rfl rfl fun w' hs => res_of (k := 0) hs rfl ?_)))))))))
   show sortT (varsL (p.Args.take k)) = sortT (varsL p.Args)
   rw [List.take_of_length_le (by omega)]
theorem impl_copyTexts (w : World) (v_l : Value) (l : (List ByteArray)) (h_l : Gd.rd w [v_l] l) (hln : l.length ≤ 4294967296) : Calls Tryz.prog 184 [v_l].toArray w (Res w (l : List ByteArray)) := by
 have hm1 := rd_max h_l
 refine enter 5 Tryz.func184 rfl rfl rfl (Sr (Pe rfl (Sr (p1 rfl (D_nil (α := ByteArray) (li rfl (D_apl (α := ByteArray) (ys := l) s_58 y_9 rfl rfl rfl rfl rfl rfl (fun w' hs => (rA hs h_l)) (by first | omega | (simp; omega)) (by first | omega | (simp; omega)) fun v2 => ?_)))))))
 refine Pe rfl (Ct (R_1 rfl rfl fun w' hs => res_of (k := 0) hs rfl ?_))
 show ([]) ++ l = l
 simp
theorem spec_l1Texts (w : World) (v_l : Value) (l : (List ByteArray)) (h_l : Gd.rd w [v_l] l) (hln : l.length ≤ 4294967296) : Calls Tryz.prog 178 [v_l].toArray w (Res w (l : List ByteArray)) := by
 have hm1 := rd_max h_l
 refine enter 6 Tryz.func178 rfl rfl rfl (Sr (Pe rfl (Sr (li rfl (D_bs0 (α := ByteArray) s_58 rfl rfl rfl fun v2 => ?_)))))
 refine p1 rfl (li rfl (D_apl (α := ByteArray) (ys := l) s_58 y_9 rfl rfl rfl rfl rfl rfl (fun w' hs => (rA hs h_l)) (by first | omega | (simp; omega)) (by first | omega | (simp; omega)) fun v3 => ?_))
 refine Pe rfl (Ct (R_1 rfl rfl fun w' hs => res_of (k := 0) hs rfl ?_))
 show ([]) ++ l = l
 simp
theorem impl_termsOf (w : World) (c_x : List Value) (x : Cond) (h_x : Gd.rd w c_x x) (hx : szCond x ≤ 1048576) : Calls Tryz.prog 213 [(.agg c_x.toArray)].toArray w (Res w (x.Pattern.Args ++ [x.Left, x.Right] : List ByteArray)) := by
 obtain ⟨u1, rfl, hu2⟩ := open_Cond h_x
 have hm3 := rd_max hu2
 have hb4 := sub_Cond_Pattern h_x
 have hca := szCond_args x
 have hcv := cvars_len x
 refine enter 13 Tryz.func213 rfl rfl rfl (Sr (li rfl (D_box rfl rfl rfl rfl rfl fun g5 => ?_)))
 refine Pe rfl (Dh ([bx g5 [(.int .i64 x.Kind), (.string x.Pattern.Rel), u1, (.string x.Left), (.string x.Right)]]) rfl (Cq (C_join (fun ac w' => ∃ (v8 : Value), Fits ac 13 [(2, v8)] ∧ St w ([ov [v8] (x.Pattern.Args ++ ([x.Left, x.Right]) : (List ByteArray)), bx g5 [(.int .i64 x.Kind), (.string x.Pattern.Rel), u1, (.string x.Left), (.string x.Right)]]) w') ?_ ?_)))
 ·refine C_draw mixed [9, 10] (by kernel_rfl) (Tk 0 rfl (by kernel_rfl) rfl (Db f_147_1 rfl rfl (q := 1) rfl) (Tk 1 rfl (by kernel_rfl) rfl (Db f_145_1 rfl rfl (q := 2) rfl) (Tk 2 rfl (by kernel_rfl) rfl (lb 0 o_58 rfl rfl rfl rfl) (Tk 4 rfl (by kernel_rfl) rfl (Db f_147_2 rfl rfl (q := 3) rfl) (Tk 5 rfl (by kernel_rfl) rfl (lb 0 o_9 rfl rfl rfl rfl) (Tk 6 rfl (by kernel_rfl) rfl (Db f_147_3 rfl rfl (q := 4) rfl) (Tk 7 rfl (by kernel_rfl) rfl (lb 0 o_9 rfl rfl rfl rfl) (tyN [3, 8] rfl (by kernel_rfl) ⟨⟨_, rfl, rfl, ?_⟩, ⟨_, rfl, rfl, ?_⟩, trivial⟩))))))))
  ·refine id (crl b_184 rfl rfl rfl rfl (fun w' hs => (impl_copyTexts w' u1 x.Pattern.Args (rA hs hu2) (by first | assumption | omega | (unfold szm at *; split at * <;> omega)))) fun v6 => ?_)
   refine tS (fun _ hs => hs.pk [1] rfl rfl) (ty 8 rfl (by kernel_rfl) rfl (D_bsn (α := ByteArray) (xs := [.tmp 8, .tmp 10]) (ys := [x.Left, x.Right]) s_58 y_9 rfl rfl rfl rfl (by decide) (by decide) rfl rfl fun v7 => ?_))
   refine tS (fun _ hs => hs.pk [2] rfl rfl) (D_pk (H' := [ov [v6] (x.Pattern.Args : (List ByteArray)), ov [v7] ([x.Left, x.Right] : (List ByteArray)), bx g5 [(.int .i64 x.Kind), (.string x.Pattern.Rel), u1, (.string x.Left), (.string x.Right)]]) [1, 0, 2] rfl rfl (ty 9 rfl (by kernel_rfl) rfl (D_apl (α := ByteArray) (ys := ([x.Left, x.Right])) s_58 y_9 rfl rfl rfl rfl rfl rfl (fun w' hs => (rO (k := 1) hs rfl)) (by first | omega | (simp; omega)) (by first | omega | (simp; omega)) fun v8 => ?_)))
   refine tZ rfl (ty 10 rfl (by kernel_rfl) rfl (sv rfl rfl (rp rfl) ?_))
   refine tZ rfl (tE (by kernel_rfl) (Xt (fun ac w' hf hs => ⟨v8, hf.weak ⟨rfl, trivial⟩, hs.pk [0, 2] rfl rfl⟩)))
  ·refine id (D_bsn (α := ByteArray) (xs := [.tmp 8, .tmp 10]) (ys := [x.Left, x.Right]) s_58 y_9 rfl rfl rfl rfl (by decide) (by decide) rfl rfl fun v9 => ?_)
   refine tS (fun _ hs => hs.pk [1] rfl rfl) (ty 3 rfl (by kernel_rfl) rfl (crl b_184 rfl rfl rfl rfl (fun w' hs => (impl_copyTexts w' u1 x.Pattern.Args (rA hs hu2) (by first | assumption | omega | (unfold szm at *; split at * <;> omega)))) fun v10 => ?_))
   refine tS (fun _ hs => hs.pk [2] rfl rfl) (ty 9 rfl (by kernel_rfl) rfl (D_apl (α := ByteArray) (ys := ([x.Left, x.Right])) s_58 y_9 rfl rfl rfl rfl rfl rfl (fun w' hs => (rO (k := 1) hs rfl)) (by first | omega | (simp; omega)) (by first | omega | (simp; omega)) fun v11 => ?_))
   refine tZ rfl (ty 10 rfl (by kernel_rfl) rfl (sv rfl rfl (rp rfl) ?_))
   refine tZ rfl (tE (by kernel_rfl) (Xt (fun ac w' hf hs => ⟨v11, hf.weak ⟨rfl, trivial⟩, hs.pk [0, 2] rfl rfl⟩)))
 rintro ac w' ⟨v8, hf, hs⟩
 refine D.use ?_ hf hs
 clear hf hs ac w'
 refine Xt (Ct (R_1 rfl rfl fun w' hs => res_of (k := 0) hs rfl ?_))
 show x.Pattern.Args ++ ([x.Left, x.Right]) = x.Pattern.Args ++ [x.Left, x.Right]
 rfl
theorem impl_CondVars (w : World) (c_x : List Value) (x : Cond) (h_x : Gd.rd w c_x x) (hx : szCond x ≤ 1048576) : Calls Tryz.prog 201 [(.agg c_x.toArray)].toArray w (Res w (sortT (cvars x) : List ByteArray)) := by
 obtain ⟨u1, rfl, hu2⟩ := open_Cond h_x
 have hm3 := rd_max hu2
 have hb4 := sub_Cond_Pattern h_x
 have hca := szCond_args x
 have hcv := cvars_len x
 have hal : (x.Pattern.Args ++ [x.Left, x.Right]).length = x.Pattern.Args.length + 2 := by simp
 have hvl := varsL_len (x.Pattern.Args ++ [x.Left, x.Right])
 refine enter 7 Tryz.func201 rfl rfl rfl (Sr (li rfl (D_box rfl rfl rfl rfl rfl fun g5 => ?_)))
 refine Pe rfl (Dh ([bx g5 [(.int .i64 x.Kind), (.string x.Pattern.Rel), u1, (.string x.Left), (.string x.Right)]]) rfl (Sr (q1 rfl (lbw 0 a_147 rfl rfl rfl) (li rfl (crl b_213 rfl rfl rfl rfl (fun w' hs => (impl_termsOf w' [(.int .i64 x.Kind), (.string x.Pattern.Rel), u1, (.string x.Left), (.string x.Right)] x (rA hs h_x) (by first | assumption | omega | (unfold szm at *; split at * <;> omega)))) fun v6 => ?_)))))
 refine li rfl (crl b_167 rfl rfl rfl rfl (fun w' hs => (impl_varsAmong w' v6 (x.Pattern.Args ++ [x.Left, x.Right]) (rO (k := 0) hs rfl) (by first | assumption | omega | (unfold szm at *; split at * <;> omega)))) fun v7 => ?_)
 refine li rfl (crl b_169 rfl rfl rfl rfl (fun w' hs => (impl_SortedTexts w' v7 (varsL (x.Pattern.Args ++ [x.Left, x.Right])) (rO (k := 0) hs rfl) (by first | assumption | omega | (unfold szm at *; split at * <;> omega)))) fun v8 => ?_)
 refine Pe rfl (Ct (R_1 rfl rfl fun w' hs => res_of (k := 0) hs rfl ?_))
 show sortT (varsL (x.Pattern.Args ++ [x.Left, x.Right])) = sortT (cvars x)
 rfl
theorem spec_CondVars (w : World) (c_x : List Value) (x : Cond) (h_x : Gd.rd w c_x x) (hx : szCond x ≤ 1048576) (ho : okCond x) : Calls Tryz.prog 154 [(.agg c_x.toArray)].toArray w (Res w (sortT (cvars x) : List ByteArray)) := by
 obtain ⟨u1, rfl, hu2⟩ := open_Cond h_x
 have hm3 := rd_max hu2
 have hb4 := sub_Cond_Pattern h_x
 have hca := szCond_args x
 have hcv := cvars_len x
 have hsl := sortT_len (varsL x.Pattern.Args)
 have hvl := varsL_len x.Pattern.Args
 have hpl := putS_len (sortT (varsL x.Pattern.Args)) x.Left
 refine enter 22 Tryz.func154 rfl rfl rfl (Sr (li rfl (D_box rfl rfl rfl rfl rfl fun g5 => ?_)))
 refine Pe rfl (Dh ([bx g5 [(.int .i64 x.Kind), (.string x.Pattern.Rel), u1, (.string x.Left), (.string x.Right)]]) rfl (Sr (q1 rfl (Db f_147_1 rfl rfl (q := 1) rfl) (q1 rfl (lba (es := [(.string x.Pattern.Rel), u1]) 0 a_145 rfl rfl rfl rfl) (li rfl (crl b_159 rfl rfl rfl rfl (fun w' hs => (spec_VarsOf w' [(.string x.Pattern.Rel), u1] x.Pattern (rA hs hb4) (by first | assumption | omega | (unfold szm at *; split at * <;> omega)) ho.2.1)) fun v6 => ?_))))))
 refine Pe rfl (Dh ([ov [v6] (sortT (varsL x.Pattern.Args) : (List ByteArray)), bx g5 [(.int .i64 x.Kind), (.string x.Pattern.Rel), u1, (.string x.Left), (.string x.Right)]]) rfl (Cq (Sr (q1 rfl (Db f_147_2 rfl rfl (q := 3) rfl) (q1 rfl (lb 1 o_9 rfl rfl rfl rfl) (li rfl (cv b_196 rfl rfl rfl rfl (fun w' hs => (spec_IsVar w' x.Left (by first | exact ho.2.2.1 | exact ho.2.2.2))) ?_)))))))
 refine Dx (Ci _ rfl (fun h7 => ?_) (fun h7 => ?_))
 ·refine Cr (p1 rfl (q1 rfl (Db f_147_2 rfl rfl (q := 3) rfl) (q1 rfl (lb 1 o_9 rfl rfl rfl rfl) (li rfl (crl b_193 rfl rfl rfl rfl (fun w' hs => (spec_l1Put w' v6 (sortT (varsL x.Pattern.Args)) x.Left (rO (k := 0) hs rfl) (by first | assumption | omega | (unfold szm at *; split at * <;> omega)))) fun v8 => ?_)))))
  refine Pe rfl (Dh ([ov [v8] (putS (sortT (varsL x.Pattern.Args)) x.Left : (List ByteArray)), ov [v6] (sortT (varsL x.Pattern.Args) : (List ByteArray)), bx g5 [(.int .i64 x.Kind), (.string x.Pattern.Rel), u1, (.string x.Left), (.string x.Right)]]) rfl (Cq (Sr (q1 rfl (Db f_147_3 rfl rfl (q := 4) rfl) (q1 rfl (lb 2 o_9 rfl rfl rfl rfl) (li rfl (cv b_196 rfl rfl rfl rfl (fun w' hs => (spec_IsVar w' x.Right (by first | exact ho.2.2.1 | exact ho.2.2.2))) ?_)))))))
  refine Dx (Ci _ rfl (fun h9 => ?_) (fun h9 => ?_))
  ·refine Cr (p1 rfl (q1 rfl (Db f_147_3 rfl rfl (q := 4) rfl) (q1 rfl (lb 2 o_9 rfl rfl rfl rfl) (li rfl (crl b_193 rfl rfl rfl rfl (fun w' hs => (spec_l1Put w' v8 (putS (sortT (varsL x.Pattern.Args)) x.Left) x.Right (rO (k := 0) hs rfl) (by first | assumption | omega | (unfold szm at *; split at * <;> omega)))) fun v10 => ?_)))))
   refine Pe rfl (Sr (P2 rfl rfl (Dx (Ct (R_1 rfl rfl fun w' hs => res_of (k := 0) hs rfl ?_)))))
   show putS (putS (sortT (varsL x.Pattern.Args)) x.Left) x.Right = sortT (cvars x)
   first | exact cv_b (by assumption) (by assumption) | exact cv_l (by assumption) (by assumption) | exact cv_r (by assumption) (by assumption) | exact cv_0 (by assumption) (by assumption)
  ·refine Sk (Sr (P2 rfl rfl (Dx (Ct (R_1 rfl rfl fun w' hs => res_of (k := 0) hs rfl ?_)))))
   show putS (sortT (varsL x.Pattern.Args)) x.Left = sortT (cvars x)
   first | exact cv_b (by assumption) (by assumption) | exact cv_l (by assumption) (by assumption) | exact cv_r (by assumption) (by assumption) | exact cv_0 (by assumption) (by assumption)
 ·refine Sk (Cq (Sr (q1 rfl (Db f_147_3 rfl rfl (q := 4) rfl) (q1 rfl (lb 1 o_9 rfl rfl rfl rfl) (li rfl (cv b_196 rfl rfl rfl rfl (fun w' hs => (spec_IsVar w' x.Right (by first | exact ho.2.2.1 | exact ho.2.2.2))) ?_))))))
  refine Dx (Ci _ rfl (fun h11 => ?_) (fun h11 => ?_))
  ·refine Cr (p1 rfl (q1 rfl (Db f_147_3 rfl rfl (q := 4) rfl) (q1 rfl (lb 1 o_9 rfl rfl rfl rfl) (li rfl (crl b_193 rfl rfl rfl rfl (fun w' hs => (spec_l1Put w' v6 (sortT (varsL x.Pattern.Args)) x.Right (rO (k := 0) hs rfl) (by first | assumption | omega | (unfold szm at *; split at * <;> omega)))) fun v12 => ?_)))))
   refine Pe rfl (Sr (P2 rfl rfl (Dx (Ct (R_1 rfl rfl fun w' hs => res_of (k := 0) hs rfl ?_)))))
   show putS (sortT (varsL x.Pattern.Args)) x.Right = sortT (cvars x)
   first | exact cv_b (by assumption) (by assumption) | exact cv_l (by assumption) (by assumption) | exact cv_r (by assumption) (by assumption) | exact cv_0 (by assumption) (by assumption)
  ·refine Sk (Sr (P2 rfl rfl (Dx (Ct (R_1 rfl rfl fun w' hs => res_of (k := 0) hs rfl ?_)))))
   show sortT (varsL x.Pattern.Args) = sortT (cvars x)
   first | exact cv_b (by assumption) (by assumption) | exact cv_l (by assumption) (by assumption) | exact cv_r (by assumption) (by assumption) | exact cv_0 (by assumption) (by assumption)
end Go.Sy.Eng2
