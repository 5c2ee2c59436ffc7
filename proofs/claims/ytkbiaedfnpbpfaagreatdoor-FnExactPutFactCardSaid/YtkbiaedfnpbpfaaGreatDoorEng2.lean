/-
  Contracts of functions of the program, walked (printed by a program of ours).
  Conditions: those that each theorem states.
-/
import Derived.Test.YtkbiaedfnpbpfaaGreatDoorEng1
import Derived.Test.YtkbiaedfnpbpfaaGreatDoorRul2
import Derived.Test.YtkbiaedfnpbpfaaGreatDoorShelf
set_option linter.unusedVariables false
set_option maxRecDepth 20000
namespace Go.Sy.Eng2
open Go Go.RowKit Go.Proofs Go.Sy
theorem mixed : Tryz.prog.follows .mixedOrders = true := by kernel_rfl
theorem s_58 : sliceTy Tryz.prog 58 = some (9, 1, 16) := by kernel_rfl
theorem y_9 : zeroTy Tryz.prog 9 = some (.string ⟨#[]⟩) := by kernel_rfl
theorem b_204 : hasBody Tryz.prog 204 = true := by kernel_rfl
theorem o_9 : oneTy Tryz.prog 9 = true := by kernel_rfl
theorem b_203 : hasBody Tryz.prog 203 = true := by kernel_rfl
theorem f_145_1 : fieldOff Tryz.prog 145 1 = some 1 := by kernel_rfl
theorem o_58 : oneTy Tryz.prog 58 = true := by kernel_rfl
theorem b_196 : hasBody Tryz.prog 196 = true := by kernel_rfl
theorem b_193 : hasBody Tryz.prog 193 = true := by kernel_rfl
theorem f_147_1 : fieldOff Tryz.prog 147 1 = some 1 := by kernel_rfl
theorem f_147_2 : fieldOff Tryz.prog 147 2 = some 3 := by kernel_rfl
theorem f_147_3 : fieldOff Tryz.prog 147 3 = some 4 := by kernel_rfl
theorem b_184 : hasBody Tryz.prog 184 = true := by kernel_rfl
theorem a_147 : aggTy Tryz.prog 147 = some 5 := by kernel_rfl
theorem b_213 : hasBody Tryz.prog 213 = true := by kernel_rfl
theorem b_167 : hasBody Tryz.prog 167 = true := by kernel_rfl
theorem b_169 : hasBody Tryz.prog 169 = true := by kernel_rfl
theorem a_145 : aggTy Tryz.prog 145 = some 2 := by kernel_rfl
theorem b_159 : hasBody Tryz.prog 159 = true := by kernel_rfl
open Go.Sy.Bel1 Go.Sy.Ev1 Go.Sy.Ev2 Go.Sy.Eng1
theorem sort_Strings_c (w0 : World) (Hs : List Chunk) (w : World) (v_l : Value) (l : List ByteArray) (hsz : l.length ≤ 4294967296) (hst : St w0 (ov [v_l] (l : List ByteArray) :: Hs) w) : Calls Tryz.prog 204 [v_l].toArray w (fun e w' => e = .returned (.tuple #[]) ∧ St w0 (ov [v_l] (srtS l : List ByteArray) :: Hs) w') := by
  obtain ⟨fp, hok, hn, hb, put⟩ := hst.set (k := 0) rfl
  rcases owF hok with ⟨h1, h2, _⟩ | ⟨g, cap, cur, h1, h2, h3, h4, h5, h6, h8⟩
  · subst h1; subst h2
    refine (Tryz.sort_Strings_none none 0 w).mono fun e w' ⟨he, hw⟩ => ⟨he, ?_⟩
    subst hw
    rw [show srtS [] = [] by simp [srtS]]
    exact hst
  · subst h6
    subst h1
    have hH : Go.Sort.Holds Go.Proofs.encStr w g 0 (l.map (·.data.toList)).toArray := fun j hj => by
      have hj2 : j < l.length := by simpa using hj
      obtain ⟨x, hx⟩ := sL hj2
      refine ⟨?_, by simp [World.frozen?, h2]⟩
      rw [Nat.zero_add, cell_of_heap h2, h8 j x hx]
      rw [getElem!_pos _ j hj]
      obtain ⟨b, c⟩ := List.getElem?_eq_some_iff.1 hx
      simp only [List.getElem_toArray, List.getElem_map, c]
      rfl
    have hlen : ((l.map (·.data.toList)).length) = l.length := by simp
    have hcall := Tryz.sort_Strings g 0 cap (l.map (·.data.toList)) w hH (lt_of_heap h2) (by rw [hlen]; omega)
    rw [hlen] at hcall
    refine hcall.mono fun e w' ⟨he, n, os, hw⟩ => ⟨he, ?_⟩
    subst hw
    have hheap : (Go.Sort.grow (Go.Sort.putRow Go.Proofs.encStr (Go.Sort.ahead w n) g 0 ((l.map (·.data.toList)).mergeSort fun x y => decide (x ≤ y)).toArray) os).heap[g]? = some (.cells (Go.Sort.putCells Go.Proofs.encStr 0 ((l.map (·.data.toList)).mergeSort fun x y => decide (x ≤ y)).toArray cur) (Tid.id ByteArray) (0, 0)) := by
      rw [Go.Sort.heap_grow_old _ _ (by simp [Go.Sort.ahead]; exact lt_of_heap h2)]
      simp [Go.Sort.putRow, Go.Sort.mapBlock, Go.Sort.ahead, Array.getElem?_modify, h2, Go.Sort.onCells]
    refine put _ (ov [.slice (some ⟨g, 0, none⟩) l.length cap] (srtS l)) [g] ⟨Y, Y, Y, by simp [Go.Sort.ahead], fun k hk hkn => ?_⟩ ?_ (by simp) (fun q hq => ⟨.inl hq, ?_⟩)
    · have hne : g ≠ k := fun e => hkn (by simp [e])
      rw [Go.Sort.heap_grow_old _ _ (by simpa [Go.Sort.ahead] using hk)]
      simp [Go.Sort.putRow, Go.Sort.mapBlock, Go.Sort.ahead, Array.getElem?_modify, hne]
    · have hl := srtS_len l
      show Gd.ow _ [.slice (some ⟨g, 0, none⟩) l.length cap] (srtS l) [g]
      rw [← hl]
      refine owF_mk hheap (by rw [hl]; exact h3) h4 (by simp [Go.Sort.putCells, h5]) (fun i x hx => ?_)
      have hi := lS hx
      have hi2 : i < ((l.map (·.data.toList)).mergeSort fun x y => decide (x ≤ y)).length := by simpa [srtS] using hi
      simp only [srtS, List.getElem?_map, List.getElem?_eq_getElem hi2, Option.map_some, Option.some.injEq] at hx
      subst hx
      have hic : i < cur.size := by rw [h5]; omega
      simp only [Go.Sort.putCells, Array.getElem?_mapIdx, Array.getElem?_eq_getElem hic, Option.map_some, Option.some.injEq]
      rw [if_pos ⟨Nat.zero_le _, by simpa using hi2⟩, getElem!_pos _ _ (by simpa using hi2)]
      simp
      rfl
    · have := hb q hq
      simp only [Go.Sort.size_grow, Go.Sort.size_putRow]
      show q < w.heap.size + os.size
      omega
theorem impl_SortedTexts {w : World} {v_l : Value} {l : (List ByteArray)} (h_l : Gd.rd w [v_l] l) (hln : l.length ≤ 4294967296) : Calls Tryz.prog 169 [v_l].toArray w (Res w (sortT l : List ByteArray)) := by
 have hm1 := rd_max h_l
 refine enter 35 Tryz.func169 Y Y Y (Sr (Pe Y (Sr (p1 Y (D_nil (α := ByteArray) (li Y (D_apl (α := ByteArray) (ys := l) s_58 y_9 Y Y Y Y Y Y (fun w' hs => (rA hs h_l)) (by first | omega | (simp; omega)) (by first | omega | (simp; omega)) fun v2 => ?_)))))))
 refine Pe Y (Dh ([ov [v2] (([]) ++ l : (List ByteArray))]) Y (Sr (p1 Y (li Y (cm b_204 Y Y Y Y (fun w' hs => sort_Strings_c _ _ w' v2 (([]) ++ l) (by first | assumption | omega | (simp only; omega)) hs) ?_)))))
 refine Dx (Dh ([ov [v2] (srtS (([]) ++ l) : (List ByteArray))]) Y (Cq ?_))
 have hsl : (srtS ([] ++ l)).length = l.length := srtS_len l
 refine Cr (Pe Y (Cq (Sr (p1 Y (q1 Y (D_leno 0 s_58 Y Y Y) (Pe Y (Cb (Cl (fun m_ ac w' => ∃ (k : Nat), ∃ (v : Value), (k ≤ l.length) ∧ m_ = l.length - k ∧ Fits ac 35 [(3, v2), (4, v), (11, v2), (12, (nv ((srtS (([]) ++ l)).length))), (13, (nv k))] ∧ St w ([ov [v] (onceT (srtS ([] ++ l)) k : (List ByteArray)), ov [v2] (srtS (([]) ++ l) : (List ByteArray))]) w') ?_ ?_))))))))
 ·refine D_nil (α := ByteArray) (D_eq 0 Y (show ([] : (List ByteArray)) = onceT (srtS ([] ++ l)) 0 from by rfl) (fun ac w' hf hs => ⟨_, 0, (.slice none 0 0), ?_, Y, hf.wk Y, hs⟩))
  ·first | assumption | omega | simp
 ·rintro m_ ac w' ⟨k, v, hk, rfl, hf, hs⟩
  refine D.use ?_ hf hs
  clear hf hs ac w'
  have hcl := onceT_len (srtS ([] ++ l)) k
  refine Sr (Pe Y (Dh ([_, _]) Y (Cq (Ci _ Y (fun h3 => ?_) (fun h3 => ?_)))))
  ·have pr3 := odT h3
   refine Sk (Cq (Cb (Sr (p1 Y ?_))))
   obtain ⟨x0, x0h⟩ := sL (l := (srtS (([]) ++ l))) (i := k) (by omega)
   refine q1 Y (D_ix (l := (srtS (([]) ++ l))) (j := k) s_58 Y Y Y (fun w' hs => (rO (k := 1) hs Y)) Y (lS x0h)) (q1 Y (lo (α := ByteArray) 1 o_9 Y Y Y x0h) (P2 Y Y (Dx (Sr (P3 Y Y Y (gs 20 Y Y (fun h4 => ?_) (fun h4 => ?_)))))))
   ·have pr4 := eq_of_beq h4
    refine n1 Y (n1 Y (n1 Y (n1 Y (n1 Y (n1 Y (n1 Y (Pe Y (D_wk [3, 4, 6, 11, 12, 13, 28] Y (C_t Y (Cr (P2 Y Y (li Y (D_bs s_58 y_9 Y (by decide) (by decide) Y Y Y Y Y Y fun g5 => ?_)))))))))))))
    refine D_fs x0 (D_pkO [2, 0, 1, 3] Y (li Y (D_ap s_58 y_9 Y (by decide) Y Y Y Y Y Y (by first | omega | (simp; omega)) (by first | omega | (simp; omega)) fun v6 => ?_)))
    refine p1 Y (De (Xb (Xt (Dh ([ov [v6] ((onceT (srtS ([] ++ l)) k) ++ [x0] : (List ByteArray)), _]) Y (Cr (q1 Y (D_add Y Y Y (r := ((k + 1 : Nat) : Int)) (by omega) (by omega)) (Pe Y (D_eq 0 Y (show ((onceT (srtS ([] ++ l)) k) ++ [x0] : (List ByteArray)) = onceT (srtS ([] ++ l)) (k + 1) from by first | exact onceT_t x0h (.inl (by omega)) | exact onceT_t x0h (.inr (by simp_all)) | exact onceT_f x0h (by omega) (by simp_all)) (fun ac w' hf hs => ⟨_, ?_, k + 1, v6, ?_, Y, hf.wk Y, hs⟩)))))))))
    ·omega
    ·first | assumption | omega | simp
   ·have pr4 := ne_of_beq_false h4
    refine P2 Y Y (q1 Y (D_sub Y Y Y (r := ((k - 1 : Nat) : Int)) (by omega) (by omega)) ?_)
    obtain ⟨y0, y0h⟩ := sL (l := (srtS (([]) ++ l))) (i := (k - 1)) (by omega)
    refine q1 Y (D_ix (l := (srtS (([]) ++ l))) (j := (k - 1)) s_58 Y Y Y (fun w' hs => (rO (k := 1) hs Y)) Y (lS y0h)) (q1 Y (lo (α := ByteArray) 1 o_9 Y Y Y y0h) (p1 Y (q1 Y (D_neS Y Y Y) (Pe Y (D_wk [3, 4, 6, 11, 12, 13, 28] Y (Ci _ Y (fun h7 => ?_) (fun h7 => ?_)))))))
    ·have pr7 := odF (not_t h7)
     refine Cr (P2 Y Y (li Y (D_bs s_58 y_9 Y (by decide) (by decide) Y Y Y Y Y Y fun g8 => ?_)))
     refine D_fs x0 (D_pkO [2, 0, 1, 3] Y (li Y (D_ap s_58 y_9 Y (by decide) Y Y Y Y Y Y (by first | omega | (simp; omega)) (by first | omega | (simp; omega)) fun v9 => ?_)))
     refine p1 Y (De (Xb (Xt (Dh ([ov [v9] ((onceT (srtS ([] ++ l)) k) ++ [x0] : (List ByteArray)), _]) Y (Cr (q1 Y (D_add Y Y Y (r := ((k + 1 : Nat) : Int)) (by omega) (by omega)) (Pe Y (D_eq 0 Y (show ((onceT (srtS ([] ++ l)) k) ++ [x0] : (List ByteArray)) = onceT (srtS ([] ++ l)) (k + 1) from by first | exact onceT_t x0h (.inl (by omega)) | exact onceT_t x0h (.inr (by simp_all)) | exact onceT_f x0h (by omega) (by simp_all)) (fun ac w' hf hs => ⟨_, ?_, k + 1, v9, ?_, Y, hf.wk Y, hs⟩)))))))))
     ·omega
     ·first | assumption | omega | simp
    ·have pr7 := odT (not_f h7)
     refine Ck (Xb (Xt (Cr (q1 Y (D_add Y Y Y (r := ((k + 1 : Nat) : Int)) (by omega) (by omega)) (Pe Y (D_eq 0 Y (show (onceT (srtS ([] ++ l)) k : (List ByteArray)) = onceT (srtS ([] ++ l)) (k + 1) from by first | exact onceT_t x0h (.inl (by omega)) | exact onceT_t x0h (.inr (by simp_all)) | exact onceT_f x0h (by omega) (by simp_all)) (fun ac w' hf hs => ⟨_, ?_, k + 1, v, ?_, Y, hf.wk Y, hs⟩)))))))
     ·omega
     ·first | assumption | omega | simp
  ·have pr3 := odF h3
   refine Cx (Xx (Xx (Xe (Xt (Sr (P2 Y Y (Dx (Ct (R_1 Y Y fun w' hs => res_of (k := 0) hs Y ?_)))))))))
   show onceT (srtS ([] ++ l)) k = sortT l
   exact once_done (l := l) (by omega) (by omega)
theorem impl_varsAmong {w : World} {v_l : Value} {l : (List ByteArray)} (h_l : Gd.rd w [v_l] l) (hln : l.length ≤ 4294967296) : Calls Tryz.prog 167 [v_l].toArray w (Res w (varsL l : List ByteArray)) := by
 have hm1 := rd_max h_l
 refine enter 20 Tryz.func167 Y Y Y (Sr (Pe Y (Sr (Pe Y (Cq (Sr (p1 Y (q1 Y (Dl s_58 Y Y (rd_sl h_l)) (Pe Y (Cb (Cl (fun m_ ac w' => ∃ (k : Nat), ∃ (v : Value), (k ≤ l.length) ∧ m_ = l.length - k ∧ Fits ac 20 [(3, v), (6, v_l), (7, (nv l.length)), (8, (nv k))] ∧ St w ([ov [v] (varsL (l.take k) : (List ByteArray))]) w') ?_ ?_)))))))))))
 ·refine D_nil (α := ByteArray) (D_eq 0 Y (show ([] : (List ByteArray)) = varsL (l.take 0) from by rfl) (fun ac w' hf hs => ⟨_, 0, (.slice none 0 0), ?_, Y, hf.wk Y, hs⟩))
  ·first | assumption | omega | simp
 ·rintro m_ ac w' ⟨k, v, hk, rfl, hf, hs⟩
  refine D.use ?_ hf hs
  clear hf hs ac w'
  have hcl := varsL_len (l.take k)
  have htl : (l.take k).length ≤ k := by rw [List.length_take]; omega
  refine Sr (Pe Y (Dh ([_]) Y (Cq (Ci _ Y (fun h2 => ?_) (fun h2 => ?_)))))
  ·have pr2 := odT h2
   refine Sk (Cq (Cb (Sr ?_)))
   obtain ⟨x0, x0h⟩ := sL (l := l) (i := k) (by omega)
   obtain ⟨es3, at4, hr5⟩ := rd_elem (n := 1) rfl h_l x0h
   obtain rfl : es3 = [.string x0] := hr5
   refine q1 Y (D_ix (l := l) (j := k) s_58 Y Y Y (fun w' hs => (rA hs h_l)) Y (lS x0h)) (q1 Y (lr0 o_9 Y Y at4 Y) (Pe Y (Sr (p1 Y (li Y (cv b_203 Y Y Y Y (fun w' hs => impl_IsVar) ?_))))))
   refine Dx (Ci _ Y (fun h6 => ?_) (fun h6 => ?_))
   ·refine Cr (P2 Y Y (li Y (D_bs s_58 y_9 Y (by decide) (by decide) Y Y Y Y Y Y fun g7 => ?_)))
    refine D_fs x0 (D_pkO [2, 0, 1] Y (li Y (D_ap s_58 y_9 Y (by decide) Y Y Y Y Y Y (by first | omega | (simp; omega)) (by first | omega | (simp; omega)) fun v8 => ?_)))
    refine p1 Y (De (Xb (Xt (Dh ([ov [v8] ((varsL (l.take k)) ++ [x0] : (List ByteArray))]) Y (Cr (q1 Y (D_add Y Y Y (r := ((k + 1 : Nat) : Int)) (by omega) (by omega)) (Pe Y (D_eq 0 Y (show ((varsL (l.take k)) ++ [x0] : (List ByteArray)) = varsL (l.take (k + 1)) from by first | exact varsL_t x0h (by simp_all) | exact varsL_f x0h (by simp_all)) (fun ac w' hf hs => ⟨_, ?_, k + 1, v8, ?_, Y, hf.wk Y, hs⟩)))))))))
    ·omega
    ·first | assumption | omega | simp
   ·refine Ck (Xb (Xt (Cr (q1 Y (D_add Y Y Y (r := ((k + 1 : Nat) : Int)) (by omega) (by omega)) (Pe Y (D_eq 0 Y (show (varsL (l.take k) : (List ByteArray)) = varsL (l.take (k + 1)) from by first | exact varsL_t x0h (by simp_all) | exact varsL_f x0h (by simp_all)) (fun ac w' hf hs => ⟨_, ?_, k + 1, v, ?_, Y, hf.wk Y, hs⟩)))))))
    ·omega
    ·first | assumption | omega | simp
  ·have pr2 := odF h2
   refine Cx (Xx (Xx (Xe (Xt (Sr (P2 Y Y (Dx (Ct (R_1 Y Y fun w' hs => res_of (k := 0) hs Y ?_)))))))))
   show varsL (l.take k) = varsL l
   rw [List.take_of_length_le (by omega)]
theorem spec_VarsOf {w : World} {c_p : List Value} {p : Pattern} (h_p : Gd.rd w c_p p) (hln : p.Args.length ≤ 1048576) (ho : okPattern p) : Calls Tryz.prog 159 [(.agg c_p.toArray)].toArray w (Res w (sortT (varsL p.Args) : List ByteArray)) := by
 obtain ⟨u1, rfl, hu2⟩ := open_Pattern h_p
 have hm3 := rd_max hu2
 refine enter 27 Tryz.func159 Y Y Y (Sr (li Y (D_box Y Y Y Y Y fun g4 => ?_)))
 refine Pe Y (Dh ([bx g4 [(.string p.Rel), u1]]) Y (Sr (li Y (D_bs0 (α := ByteArray) s_58 Y Y Y fun v5 => ?_))))
 refine Pe Y (Dh ([ov [v5] ([] : (List ByteArray)), _]) Y (Cq (Sr (Pe Y (Cb (Cl (fun m_ ac w' => ∃ (k : Nat), ∃ (v : Value), (k ≤ p.Args.length) ∧ m_ = p.Args.length - k ∧ Fits ac 27 [(1, (pv g4)), (3, v), (4, (nv k))] ∧ St w ([ov [v] (sortT (varsL (p.Args.take k)) : (List ByteArray)), bx g4 [(.string p.Rel), u1]]) w') ?_ ?_))))))
 ·refine D_eq 0 Y (show ([] : (List ByteArray)) = sortT (varsL (p.Args.take 0)) from by rfl) (fun ac w' hf hs => ⟨_, 0, v5, ?_, Y, hf.wk Y, hs⟩)
  ·first | assumption | omega | simp
 ·rintro m_ ac w' ⟨k, v, hk, rfl, hf, hs⟩
  refine D.use ?_ hf hs
  clear hf hs ac w'
  have hcs := sortT_len (varsL (p.Args.take k))
  have hcl := varsL_len (p.Args.take k)
  have htl : (p.Args.take k).length ≤ k := by rw [List.length_take]; omega
  refine Cq (Sr (p1 Y (q1 Y (Db f_145_1 Y Y (q := 1) Y) (q1 Y (lb 1 o_58 Y Y Y Y) (q1 Y (Dl s_58 Y Y (rd_sl hu2)) (Pe Y (Dh ([_, _]) Y (Ci _ Y (fun h6 => ?_) (fun h6 => ?_)))))))))
  ·have pr6 := odT h6
   refine Sk (Cq (Cb (Sr (q1 Y (Db f_145_1 Y Y (q := 1) Y) (q1 Y (lb 1 o_58 Y Y Y Y) (p1 Y ?_))))))
   obtain ⟨x0, x0h⟩ := sL (l := p.Args) (i := k) (by omega)
   have hs1 : x0.size ≤ 9223372036854775807 := ho.2 _ (List.mem_of_getElem? x0h)
   obtain ⟨es7, at8, hr9⟩ := rd_elem (n := 1) rfl hu2 x0h
   obtain rfl : es7 = [.string x0] := hr9
   refine q1 Y (D_ix (l := p.Args) (j := k) s_58 Y Y Y (fun w' hs => (rA hs hu2)) Y (lS x0h)) (q1 Y (lr0 o_9 Y Y at8 Y) (li Y (cv b_196 Y Y Y Y (fun w' hs => (spec_IsVar hs1)) ?_)))
   refine Dx (Ci _ Y (fun h10 => ?_) (fun h10 => ?_))
   ·refine Cr (p1 Y (q1 Y (Db f_145_1 Y Y (q := 1) Y) (q1 Y (lb 1 o_58 Y Y Y Y) (p1 Y (q1 Y (D_ix (l := p.Args) (j := k) s_58 Y Y Y (fun w' hs => (rA hs hu2)) Y (lS x0h)) (q1 Y (lr0 o_9 Y Y at8 Y) (li Y (crl b_193 Y Y Y Y (fun w' hs => (spec_l1Put (rO (k := 0) hs Y) (by first | assumption | omega | (unfold szm at *; split at * <;> omega)))) fun v11 => ?_))))))))
    refine p1 Y (De (Xb (Xt (D_wk [1, 3, 4] Y (Dh ([ov [v11] (putS (sortT (varsL (p.Args.take k))) x0 : (List ByteArray)), _, _]) Y (Cr (p1 Y (q1 Y (D_add Y Y Y (r := ((k + 1 : Nat) : Int)) (by omega) (by omega)) (Pe Y (D_eq 0 Y (show (putS (sortT (varsL (p.Args.take k))) x0 : (List ByteArray)) = sortT (varsL (p.Args.take (k + 1))) from by first | exact varsP_t x0h (by simp_all) | exact varsP_f x0h (by simp_all)) (fun ac w' hf hs => ⟨_, ?_, k + 1, v11, ?_, Y, hf.wk Y, hs.pk [0, 2] Y Y⟩)))))))))))
    ·omega
    ·first | assumption | omega | simp
   ·refine Ck (Xb (Xt (Cr (p1 Y (q1 Y (D_add Y Y Y (r := ((k + 1 : Nat) : Int)) (by omega) (by omega)) (Pe Y (D_eq 0 Y (show (sortT (varsL (p.Args.take k)) : (List ByteArray)) = sortT (varsL (p.Args.take (k + 1))) from by first | exact varsP_t x0h (by simp_all) | exact varsP_f x0h (by simp_all)) (fun ac w' hf hs => ⟨_, ?_, k + 1, v, ?_, Y, hf.wk Y, hs⟩))))))))
    ·omega
    ·first | assumption | omega | simp
  ·have pr6 := odF h6
   refine Cx (Xx (Xx (Xe (Xt (Sr (P2 Y Y (Dx (Ct (R_1 Y Y fun w' hs => res_of (k := 0) hs Y ?_)))))))))
   show sortT (varsL (p.Args.take k)) = sortT (varsL p.Args)
   rw [List.take_of_length_le (by omega)]
theorem impl_copyTexts {w : World} {v_l : Value} {l : (List ByteArray)} (h_l : Gd.rd w [v_l] l) (hln : l.length ≤ 4294967296) : Calls Tryz.prog 184 [v_l].toArray w (Res w (l : List ByteArray)) := by
 have hm1 := rd_max h_l
 refine enter 5 Tryz.func184 Y Y Y (Sr (Pe Y (Sr (p1 Y (D_nil (α := ByteArray) (li Y (D_apl (α := ByteArray) (ys := l) s_58 y_9 Y Y Y Y Y Y (fun w' hs => (rA hs h_l)) (by first | omega | (simp; omega)) (by first | omega | (simp; omega)) fun v2 => ?_)))))))
 refine Pe Y (Ct (R_1 Y Y fun w' hs => res_of (k := 0) hs Y ?_))
 show ([]) ++ l = l
 simp
theorem spec_l1Texts {w : World} {v_l : Value} {l : (List ByteArray)} (h_l : Gd.rd w [v_l] l) (hln : l.length ≤ 4294967296) : Calls Tryz.prog 178 [v_l].toArray w (Res w (l : List ByteArray)) := by
 have hm1 := rd_max h_l
 refine enter 6 Tryz.func178 Y Y Y (Sr (Pe Y (Sr (li Y (D_bs0 (α := ByteArray) s_58 Y Y Y fun v2 => ?_)))))
 refine p1 Y (li Y (D_apl (α := ByteArray) (ys := l) s_58 y_9 Y Y Y Y Y Y (fun w' hs => (rA hs h_l)) (by first | omega | (simp; omega)) (by first | omega | (simp; omega)) fun v3 => ?_))
 refine Pe Y (Ct (R_1 Y Y fun w' hs => res_of (k := 0) hs Y ?_))
 show ([]) ++ l = l
 simp
theorem impl_termsOf {w : World} {c_x : List Value} {x : Cond} (h_x : Gd.rd w c_x x) (hx : szCond x ≤ 1048576) : Calls Tryz.prog 213 [(.agg c_x.toArray)].toArray w (Res w (x.Pattern.Args ++ [x.Left, x.Right] : List ByteArray)) := by
 obtain ⟨u1, rfl, hu2⟩ := open_Cond h_x
 have hm3 := rd_max hu2
 have hb4 := sub_Cond_Pattern h_x
 have hca := szCond_args x
 have hcv := cvars_len x
 refine enter 13 Tryz.func213 Y Y Y (Sr (li Y (D_box Y Y Y Y Y fun g5 => ?_)))
 refine Pe Y (Dh ([bx g5 [(iv x.Kind), (.string x.Pattern.Rel), u1, (.string x.Left), (.string x.Right)]]) Y (Cq (C_join (fun ac w' => ∃ (v8 : Value), Fits ac 13 [(2, v8)] ∧ St w ([ov [v8] (x.Pattern.Args ++ ([x.Left, x.Right]) : (List ByteArray)), bx g5 [(iv x.Kind), (.string x.Pattern.Rel), u1, (.string x.Left), (.string x.Right)]]) w') ?_ ?_)))
 ·refine C_draw mixed [9, 10] (by kernel_rfl) (Tk 0 Y (by kernel_rfl) Y (Db f_147_1 Y Y (q := 1) Y) (Tk 1 Y (by kernel_rfl) Y (Db f_145_1 Y Y (q := 2) Y) (Tk 2 Y (by kernel_rfl) Y (lb 0 o_58 Y Y Y Y) (Tk 4 Y (by kernel_rfl) Y (Db f_147_2 Y Y (q := 3) Y) (Tk 5 Y (by kernel_rfl) Y (lb 0 o_9 Y Y Y Y) (Tk 6 Y (by kernel_rfl) Y (Db f_147_3 Y Y (q := 4) Y) (Tk 7 Y (by kernel_rfl) Y (lb 0 o_9 Y Y Y Y) (tyN [3, 8] Y (by kernel_rfl) ⟨⟨_, Y, Y, ?_⟩, ⟨_, Y, Y, ?_⟩, trivial⟩))))))))
  ·refine id (crl b_184 Y Y Y Y (fun w' hs => (impl_copyTexts (rA hs hu2) (by first | assumption | omega | (unfold szm at *; split at * <;> omega)))) fun v6 => ?_)
   refine tS (fun _ hs => hs.pk [1] Y Y) (ty 8 Y (by kernel_rfl) Y (D_bsn (α := ByteArray) (xs := [.tmp 8, .tmp 10]) (ys := [x.Left, x.Right]) s_58 y_9 Y Y Y Y (by decide) (by decide) Y Y fun v7 => ?_))
   refine tS (fun _ hs => hs.pk [2] Y Y) (D_pkO [1, 0, 2] Y (ty 9 Y (by kernel_rfl) Y (D_apl (α := ByteArray) (ys := ([x.Left, x.Right])) s_58 y_9 Y Y Y Y Y Y (fun w' hs => (rO (k := 1) hs Y)) (by first | omega | (simp; omega)) (by first | omega | (simp; omega)) fun v8 => ?_)))
   refine tZ Y (ty 10 Y (by kernel_rfl) Y (sv Y Y (rp Y) ?_))
   refine tZ Y (tE (by kernel_rfl) (Xt (fun ac w' hf hs => ⟨v8, hf.wk Y, hs.pk [0, 2] Y Y⟩)))
  ·refine id (D_bsn (α := ByteArray) (xs := [.tmp 8, .tmp 10]) (ys := [x.Left, x.Right]) s_58 y_9 Y Y Y Y (by decide) (by decide) Y Y fun v9 => ?_)
   refine tS (fun _ hs => hs.pk [1] Y Y) (ty 3 Y (by kernel_rfl) Y (crl b_184 Y Y Y Y (fun w' hs => (impl_copyTexts (rA hs hu2) (by first | assumption | omega | (unfold szm at *; split at * <;> omega)))) fun v10 => ?_))
   refine tS (fun _ hs => hs.pk [2] Y Y) (ty 9 Y (by kernel_rfl) Y (D_apl (α := ByteArray) (ys := ([x.Left, x.Right])) s_58 y_9 Y Y Y Y Y Y (fun w' hs => (rO (k := 1) hs Y)) (by first | omega | (simp; omega)) (by first | omega | (simp; omega)) fun v11 => ?_))
   refine tZ Y (ty 10 Y (by kernel_rfl) Y (sv Y Y (rp Y) ?_))
   refine tZ Y (tE (by kernel_rfl) (Xt (fun ac w' hf hs => ⟨v11, hf.wk Y, hs.pk [0, 2] Y Y⟩)))
 rintro ac w' ⟨v8, hf, hs⟩
 refine D.use ?_ hf hs
 clear hf hs ac w'
 refine Xt (Ct (R_1 Y Y fun w' hs => res_of (k := 0) hs Y ?_))
 show x.Pattern.Args ++ ([x.Left, x.Right]) = x.Pattern.Args ++ [x.Left, x.Right]
 rfl
theorem impl_CondVars {w : World} {c_x : List Value} {x : Cond} (h_x : Gd.rd w c_x x) (hx : szCond x ≤ 1048576) : Calls Tryz.prog 201 [(.agg c_x.toArray)].toArray w (Res w (sortT (cvars x) : List ByteArray)) := by
 obtain ⟨u1, rfl, hu2⟩ := open_Cond h_x
 have hm3 := rd_max hu2
 have hb4 := sub_Cond_Pattern h_x
 have hca := szCond_args x
 have hcv := cvars_len x
 have hal : (x.Pattern.Args ++ [x.Left, x.Right]).length = x.Pattern.Args.length + 2 := by simp
 have hvl := varsL_len (x.Pattern.Args ++ [x.Left, x.Right])
 refine enter 7 Tryz.func201 Y Y Y (Sr (li Y (D_box Y Y Y Y Y fun g5 => ?_)))
 refine Pe Y (Dh ([bx g5 [(iv x.Kind), (.string x.Pattern.Rel), u1, (.string x.Left), (.string x.Right)]]) Y (Sr (q1 Y (lbw 0 a_147 Y Y Y) (li Y (crl b_213 Y Y Y Y (fun w' hs => (impl_termsOf (rA hs h_x) (by first | assumption | omega | (unfold szm at *; split at * <;> omega)))) fun v6 => ?_)))))
 refine li Y (crl b_167 Y Y Y Y (fun w' hs => (impl_varsAmong (rO (k := 0) hs Y) (by first | assumption | omega | (unfold szm at *; split at * <;> omega)))) fun v7 => ?_)
 refine li Y (crl b_169 Y Y Y Y (fun w' hs => (impl_SortedTexts (rO (k := 0) hs Y) (by first | assumption | omega | (unfold szm at *; split at * <;> omega)))) fun v8 => ?_)
 refine Pe Y (Ct (R_1 Y Y fun w' hs => res_of (k := 0) hs Y ?_))
 show sortT (varsL (x.Pattern.Args ++ [x.Left, x.Right])) = sortT (cvars x)
 rfl
theorem spec_CondVars {w : World} {c_x : List Value} {x : Cond} (h_x : Gd.rd w c_x x) (hx : szCond x ≤ 1048576) (ho : okCond x) : Calls Tryz.prog 154 [(.agg c_x.toArray)].toArray w (Res w (sortT (cvars x) : List ByteArray)) := by
 obtain ⟨u1, rfl, hu2⟩ := open_Cond h_x
 have hm3 := rd_max hu2
 have hb4 := sub_Cond_Pattern h_x
 have hca := szCond_args x
 have hcv := cvars_len x
 have hsl := sortT_len (varsL x.Pattern.Args)
 have hvl := varsL_len x.Pattern.Args
 have hpl := putS_len (sortT (varsL x.Pattern.Args)) x.Left
 refine enter 22 Tryz.func154 Y Y Y (Sr (li Y (D_box Y Y Y Y Y fun g5 => ?_)))
 refine Pe Y (Dh ([bx g5 [(iv x.Kind), (.string x.Pattern.Rel), u1, (.string x.Left), (.string x.Right)]]) Y (Sr (q1 Y (Db f_147_1 Y Y (q := 1) Y) (q1 Y (lba (es := [(.string x.Pattern.Rel), u1]) 0 a_145 Y Y Y Y) (li Y (crl b_159 Y Y Y Y (fun w' hs => (spec_VarsOf (rA hs hb4) (by first | assumption | omega | (unfold szm at *; split at * <;> omega)) ho.2.1)) fun v6 => ?_))))))
 refine Pe Y (Dh ([ov [v6] (sortT (varsL x.Pattern.Args) : (List ByteArray)), _]) Y (Cq (Sr (q1 Y (Db f_147_2 Y Y (q := 3) Y) (q1 Y (lb 1 o_9 Y Y Y Y) (li Y (cv b_196 Y Y Y Y (fun w' hs => (spec_IsVar (by first | exact ho.2.2.1 | exact ho.2.2.2))) ?_)))))))
 refine Dx (Ci _ Y (fun h7 => ?_) (fun h7 => ?_))
 ·refine Cr (p1 Y (q1 Y (Db f_147_2 Y Y (q := 3) Y) (q1 Y (lb 1 o_9 Y Y Y Y) (li Y (crl b_193 Y Y Y Y (fun w' hs => (spec_l1Put (rO (k := 0) hs Y) (by first | assumption | omega | (unfold szm at *; split at * <;> omega)))) fun v8 => ?_)))))
  refine Pe Y (Dh ([ov [v8] (putS (sortT (varsL x.Pattern.Args)) x.Left : (List ByteArray)), _, _]) Y (Cq (Sr (q1 Y (Db f_147_3 Y Y (q := 4) Y) (q1 Y (lb 2 o_9 Y Y Y Y) (li Y (cv b_196 Y Y Y Y (fun w' hs => (spec_IsVar (by first | exact ho.2.2.1 | exact ho.2.2.2))) ?_)))))))
  refine Dx (Ci _ Y (fun h9 => ?_) (fun h9 => ?_))
  ·refine Cr (p1 Y (q1 Y (Db f_147_3 Y Y (q := 4) Y) (q1 Y (lb 2 o_9 Y Y Y Y) (li Y (crl b_193 Y Y Y Y (fun w' hs => (spec_l1Put (rO (k := 0) hs Y) (by first | assumption | omega | (unfold szm at *; split at * <;> omega)))) fun v10 => ?_)))))
   refine Pe Y (Sr (P2 Y Y (Dx (Ct (R_1 Y Y fun w' hs => res_of (k := 0) hs Y ?_)))))
   show putS (putS (sortT (varsL x.Pattern.Args)) x.Left) x.Right = sortT (cvars x)
   first | exact cv_b (by assumption) (by assumption) | exact cv_l (by assumption) (by assumption) | exact cv_r (by assumption) (by assumption) | exact cv_0 (by assumption) (by assumption)
  ·refine Sk (Sr (P2 Y Y (Dx (Ct (R_1 Y Y fun w' hs => res_of (k := 0) hs Y ?_)))))
   show putS (sortT (varsL x.Pattern.Args)) x.Left = sortT (cvars x)
   first | exact cv_b (by assumption) (by assumption) | exact cv_l (by assumption) (by assumption) | exact cv_r (by assumption) (by assumption) | exact cv_0 (by assumption) (by assumption)
 ·refine Sk (Cq (Sr (q1 Y (Db f_147_3 Y Y (q := 4) Y) (q1 Y (lb 1 o_9 Y Y Y Y) (li Y (cv b_196 Y Y Y Y (fun w' hs => (spec_IsVar (by first | exact ho.2.2.1 | exact ho.2.2.2))) ?_))))))
  refine Dx (Ci _ Y (fun h11 => ?_) (fun h11 => ?_))
  ·refine Cr (p1 Y (q1 Y (Db f_147_3 Y Y (q := 4) Y) (q1 Y (lb 1 o_9 Y Y Y Y) (li Y (crl b_193 Y Y Y Y (fun w' hs => (spec_l1Put (rO (k := 0) hs Y) (by first | assumption | omega | (unfold szm at *; split at * <;> omega)))) fun v12 => ?_)))))
   refine Pe Y (Sr (P2 Y Y (Dx (Ct (R_1 Y Y fun w' hs => res_of (k := 0) hs Y ?_)))))
   show putS (sortT (varsL x.Pattern.Args)) x.Right = sortT (cvars x)
   first | exact cv_b (by assumption) (by assumption) | exact cv_l (by assumption) (by assumption) | exact cv_r (by assumption) (by assumption) | exact cv_0 (by assumption) (by assumption)
  ·refine Sk (Sr (P2 Y Y (Dx (Ct (R_1 Y Y fun w' hs => res_of (k := 0) hs Y ?_)))))
   show sortT (varsL x.Pattern.Args) = sortT (cvars x)
   first | exact cv_b (by assumption) (by assumption) | exact cv_l (by assumption) (by assumption) | exact cv_r (by assumption) (by assumption) | exact cv_0 (by assumption) (by assumption)
end Go.Sy.Eng2
