/-
  Contracts of functions of the program, walked (printed by a program of ours).
  Conditions: those that each theorem states.
-/
import Derived.Test.YteahhonfcloabaaRep3
import Derived.Test.YteahhonfcloabaaRp
set_option linter.unusedVariables false
set_option maxRecDepth 20000
namespace Go.Sy.Rep4
open Go Go.RowKit Go.Proofs Go.Sy
theorem mixed : Try.prog.follows .mixedOrders = true := by kernel_rfl
theorem s_44 : sliceTy Try.prog 44 = some (25, 1, 24) := by kernel_rfl
theorem o_25 : oneTy Try.prog 25 = true := by kernel_rfl
theorem b_73 : hasBody Try.prog 73 = true := by kernel_rfl
theorem y_25 : zeroTy Try.prog 25 = some (.slice none 0 0) := by kernel_rfl
theorem a_30 : aggTy Try.prog 30 = some 2 := by kernel_rfl
theorem b_41 : hasBody Try.prog 41 = true := by kernel_rfl
theorem s_25 : sliceTy Try.prog 25 = some (3, 1, 8) := by kernel_rfl
theorem b_49 : hasBody Try.prog 49 = true := by kernel_rfl
theorem b_45 : hasBody Try.prog 45 = true := by kernel_rfl
theorem b_44 : hasBody Try.prog 44 = true := by kernel_rfl
theorem b_50 : hasBody Try.prog 50 = true := by kernel_rfl
theorem b_43 : hasBody Try.prog 43 = true := by kernel_rfl
open Go.Sy.Bel1 Go.Sy.Bel2 Go.Sy.Bel3 Go.Sy.Bel4 Go.Sy.Bel5 Go.Sy.Bel6 Go.Sy.Bel7 Go.Sy.Bel8 Go.Sy.Bel9 Go.Sy.Belb Go.Sy.Belc Go.Sy.Beld Go.Sy.Sorts Go.Sy.Rep1 Go.Sy.Rep2 Go.Sy.Rep3
theorem spec_l12Put (w wz : World) (hz : Sbw wz w) (v_l : Value) (l : (List (List Int))) (v_x : Value) (x : (List Int)) (h_l : Gd.rd wz [v_l] l) (h_x : Gd.rd wz [v_x] x) (hll : l.length ≤ 1048576) : Calls Try.prog 50 [v_l, v_x].toArray w (RdZ wz w (putL l x : List (List Int))) := by
  have hm1 := rd_max h_l
  have hm2 := rd_max h_x
  refine enterS 43 Try.func50 rfl rfl rfl (fz_start w wz) ?_
  refine C_seq ?_
  refine C_reg ?_
  refine p1 rfl ?_
  refine D_end ?_
  refine x_then ?_
  refine D_H ([fz wz wz]) rfl ?_
  refine C_seq ?_
  refine C_reg ?_
  refine li rfl (D_bs0z (α := (List Int)) wz s_44 rfl rfl rfl fun v3 => ?_)
  refine p1 rfl ?_
  refine D_end ?_
  refine x_then ?_
  refine D_H ([oz wz v3 ([] : List (List Int)), fz wz wz]) rfl ?_
  refine C_seq ?_
  refine C_reg ?_
  refine p1 rfl ?_
  refine D_end ?_
  refine x_then ?_
  refine C_seq ?_
  refine C_seq ?_
  refine C_reg ?_
  refine p1 rfl ?_
  refine D_end ?_
  refine x_then ?_
  refine C_block ?_
  refine C_loop (fun m_ ac w' => ∃ (wb4 : World), ∃ (k : Nat), ∃ (dn : Bool), ∃ (v : Value), (Sbw wz wb4) ∧ (k ≤ l.length) ∧ (dn = putD l x k) ∧ m_ = l.length - k ∧ Fits ac 43 [(0, v_l), (1, v_x), (5, v), (6, (.bool dn)), (7, (.int .i64 ((k : Nat) : Int)))] ∧ St w ([oz wb4 v (putT l x k : List (List Int)), fz wz wb4]) w') ?_ ?_
  · refine D_ozeq 0 rfl (show ([] : (List (List Int))) = putT l x 0 from by rfl) ?_
    refine fun ac w' hf hs => ⟨_, wz, 0, false, v3, (Sbw.refl _), ?_, ?_, rfl, hf.weak ⟨rfl, rfl, rfl, rfl, rfl, trivial⟩, hs⟩
    · first | assumption | omega | simp
    · rfl
  · rintro m_ ac w' ⟨wb4, k, dn, v, hu5, hk, hd, rfl, hf, hs⟩
    refine D.use ?_ hf hs
    clear hf hs ac w'
    have hb6 := Gd.rd_sub hu5 h_l
    have hb7 := Gd.rd_sub hu5 h_x
    have hcl := putT_len l x k
    refine C_seq ?_
    refine C_seq ?_
    refine C_reg ?_
    refine p1 rfl <| p1 rfl ?_
    refine q1 rfl (D_len s_44 rfl rfl (rd_sl hb6)) ?_
    refine p1 rfl ?_
    refine D_end ?_
    refine x_then ?_
    refine D_H ([oz wb4 v (putT l x k : List (List Int)), fz wz wb4]) rfl ?_
    refine C_if _ rfl (fun h8 => ?_) (fun h8 => ?_)
    · have pr8 : (((k : Nat) : Int) : Int) < ((l.length : Nat) : Int) := of_decide_eq_true h8
      refine C_skip ?_
      refine x_then ?_
      refine C_seq ?_
      refine C_block ?_
      refine C_seq ?_
      refine C_seq ?_
      refine C_reg ?_
      refine p1 rfl <| p1 rfl <| p1 rfl ?_
      refine gs 17 rfl rfl (fun h9 => ?_) (fun h9 => ?_)
      · have h9n : dn = false := not_t h9
        refine p1 rfl <| p1 rfl <| p1 rfl ?_
        obtain ⟨y0, hy0⟩ := some_of_lt (l := l) (i := k) (by omega)
        obtain ⟨es10, at11, hr12⟩ := rd_elem (n := 1) rfl hb6 hy0
        obtain ⟨u13, rfl⟩ := rd_cell hr12
        refine q1 rfl (D_ix (l := l) (j := k) s_44 rfl rfl rfl (fun w' hs => (rd_fz 1 hz hs rfl hb6)) rfl (lt_of_some hy0)) ?_
        refine q1 rfl (lrz0 1 hz rfl o_25 rfl rfl at11 rfl) ?_
        refine li rfl (cv b_73 rfl rfl rfl rfl (fun w' hs => (spec_l12Less w' v_x x u13 y0 (rd_fz 1 hz hs rfl hb7) (rd_fz 1 hz hs rfl hr12))) ?_)
        refine p1 rfl ?_
        refine D_end ?_
        refine x_then ?_
        refine C_if _ rfl (fun h14 => ?_) (fun h14 => ?_)
        · refine C_seq ?_
          refine C_reg ?_
          refine p1 rfl <| p1 rfl ?_
          refine li rfl (D_bs (cs := [v_x]) s_44 y_25 rfl (by decide) (by decide) rfl rfl rfl rfl (cells_of_one (one_rd hb7)) rfl fun g15 => ?_)
          refine D_zel (α := (List Int)) hb7 ?_
          refine D_pk (H' := [oz wb4 v (putT l x k : List (List Int)), oe wb4 [v_x] (x : (List Int)), bx g15 [v_x], fz wz wb4]) [2, 0, 1, 3] rfl rfl ?_
          refine li rfl (D_apz (α := (List Int)) s_44 y_25 rfl (by decide) rfl rfl rfl rfl rfl rfl (by first | omega | (simp; omega)) (by first | omega | (simp; omega)) fun v16 => ?_)
          refine p1 rfl ?_
          refine D_end ?_
          refine x_then ?_
          refine D_weak [(0, v_l), (1, v_x), (5, v16), (7, (.int .i64 ((k : Nat) : Int)))] ⟨rfl, rfl, rfl, rfl, trivial⟩ ?_
          refine D_H ([oz wb4 v16 ((putT l x k) ++ [x] : List (List Int)), fz wz wb4]) rfl ?_
          refine C_reg ?_
          refine p1 rfl ?_
          refine D_end ?_
          refine x_then ?_
          refine C_reg ?_
          refine p1 rfl <| p1 rfl <| p1 rfl ?_
          refine q1 rfl (D_ix (l := l) (j := k) s_44 rfl rfl rfl (fun w' hs => (rd_fz 1 hz hs rfl hb6)) rfl (lt_of_some hy0)) ?_
          refine q1 rfl (lrz0 1 hz rfl o_25 rfl rfl at11 rfl) ?_
          refine li rfl (D_bs (cs := [u13]) s_44 y_25 rfl (by decide) (by decide) rfl rfl rfl rfl (cells_of_one (one_rd hr12)) rfl fun g17 => ?_)
          refine D_zel (α := (List Int)) hr12 ?_
          refine D_pk (H' := [oz wb4 v16 ((putT l x k) ++ [x] : List (List Int)), oe wb4 [u13] (y0 : (List Int)), bx g17 [u13], fz wz wb4]) [2, 0, 1, 3] rfl rfl ?_
          refine li rfl (D_apz (α := (List Int)) s_44 y_25 rfl (by decide) rfl rfl rfl rfl rfl rfl (by first | omega | (simp; omega)) (by first | omega | (simp; omega)) fun v18 => ?_)
          refine p1 rfl ?_
          refine D_end ?_
          refine x_blk ?_
          refine x_then ?_
          refine D_H ([oz wb4 v18 (((putT l x k) ++ [x]) ++ [y0] : List (List Int)), fz wz wb4]) rfl ?_
          refine C_reg ?_
          refine p1 rfl ?_
          refine q1 rfl (D_add rfl rfl rfl (r := ((k + 1 : Nat) : Int)) (by omega) (by omega)) ?_
          refine p1 rfl ?_
          refine D_end ?_
          refine x_then ?_
          refine D_ozeq 0 rfl (show (((putT l x k) ++ [x]) ++ [y0] : (List (List Int))) = putT l x (k + 1) from by first | exact putT_put hy0 (by simp_all) (by assumption) | exact putT_keep hy0 (by simp_all)) ?_
          refine fun ac w' hf hs => ⟨_, ?_, wb4, k + 1, true, v18, hu5, ?_, ?_, rfl, hf.weak ⟨rfl, rfl, rfl, rfl, rfl, trivial⟩, hs⟩
          · omega
          · first | assumption | omega | simp
          · exact putD_s hy0 hd (by simp_all)
        · refine C_skip ?_
          refine x_then ?_
          refine C_reg ?_
          refine p1 rfl <| p1 rfl <| p1 rfl ?_
          refine q1 rfl (D_ix (l := l) (j := k) s_44 rfl rfl rfl (fun w' hs => (rd_fz 1 hz hs rfl hb6)) rfl (lt_of_some hy0)) ?_
          refine q1 rfl (lrz0 1 hz rfl o_25 rfl rfl at11 rfl) ?_
          refine li rfl (D_bs (cs := [u13]) s_44 y_25 rfl (by decide) (by decide) rfl rfl rfl rfl (cells_of_one (one_rd hr12)) rfl fun g19 => ?_)
          refine D_zel (α := (List Int)) hr12 ?_
          refine D_pk (H' := [oz wb4 v (putT l x k : List (List Int)), oe wb4 [u13] (y0 : (List Int)), bx g19 [u13], fz wz wb4]) [2, 0, 1, 3] rfl rfl ?_
          refine li rfl (D_apz (α := (List Int)) s_44 y_25 rfl (by decide) rfl rfl rfl rfl rfl rfl (by first | omega | (simp; omega)) (by first | omega | (simp; omega)) fun v20 => ?_)
          refine p1 rfl ?_
          refine D_end ?_
          refine x_blk ?_
          refine x_then ?_
          refine D_weak [(0, v_l), (1, v_x), (5, v20), (6, (.bool dn)), (7, (.int .i64 ((k : Nat) : Int)))] ⟨rfl, rfl, rfl, rfl, rfl, trivial⟩ ?_
          refine D_H ([oz wb4 v20 ((putT l x k) ++ [y0] : List (List Int)), fz wz wb4]) rfl ?_
          refine C_reg ?_
          refine p1 rfl ?_
          refine q1 rfl (D_add rfl rfl rfl (r := ((k + 1 : Nat) : Int)) (by omega) (by omega)) ?_
          refine p1 rfl ?_
          refine D_end ?_
          refine x_then ?_
          refine D_ozeq 0 rfl (show ((putT l x k) ++ [y0] : (List (List Int))) = putT l x (k + 1) from by first | exact putT_put hy0 (by simp_all) (by assumption) | exact putT_keep hy0 (by simp_all)) ?_
          refine fun ac w' hf hs => ⟨_, ?_, wb4, k + 1, dn, v20, hu5, ?_, ?_, rfl, hf.weak ⟨rfl, rfl, rfl, rfl, rfl, trivial⟩, hs⟩
          · omega
          · first | assumption | omega | simp
          · exact putD_s hy0 hd (by simp_all)
      · have h9n : dn = true := not_f h9
        refine n1 rfl ?_
        refine n1 rfl ?_
        refine n1 rfl ?_
        refine n1 rfl ?_
        refine n1 rfl ?_
        refine n1 rfl ?_
        refine p1 rfl ?_
        refine D_end ?_
        refine x_then ?_
        refine C_f rfl ?_
        refine C_skip ?_
        refine x_then ?_
        refine C_reg ?_
        refine p1 rfl <| p1 rfl <| p1 rfl ?_
        obtain ⟨y0, hy0⟩ := some_of_lt (l := l) (i := k) (by omega)
        obtain ⟨es21, at22, hr23⟩ := rd_elem (n := 1) rfl hb6 hy0
        obtain ⟨u24, rfl⟩ := rd_cell hr23
        refine q1 rfl (D_ix (l := l) (j := k) s_44 rfl rfl rfl (fun w' hs => (rd_fz 1 hz hs rfl hb6)) rfl (lt_of_some hy0)) ?_
        refine q1 rfl (lrz0 1 hz rfl o_25 rfl rfl at22 rfl) ?_
        refine li rfl (D_bs (cs := [u24]) s_44 y_25 rfl (by decide) (by decide) rfl rfl rfl rfl (cells_of_one (one_rd hr23)) rfl fun g25 => ?_)
        refine D_zel (α := (List Int)) hr23 ?_
        refine D_pk (H' := [oz wb4 v (putT l x k : List (List Int)), oe wb4 [u24] (y0 : (List Int)), bx g25 [u24], fz wz wb4]) [2, 0, 1, 3] rfl rfl ?_
        refine li rfl (D_apz (α := (List Int)) s_44 y_25 rfl (by decide) rfl rfl rfl rfl rfl rfl (by first | omega | (simp; omega)) (by first | omega | (simp; omega)) fun v26 => ?_)
        refine p1 rfl ?_
        refine D_end ?_
        refine x_blk ?_
        refine x_then ?_
        refine D_weak [(0, v_l), (1, v_x), (5, v26), (6, (.bool dn)), (7, (.int .i64 ((k : Nat) : Int)))] ⟨rfl, rfl, rfl, rfl, rfl, trivial⟩ ?_
        refine D_H ([oz wb4 v26 ((putT l x k) ++ [y0] : List (List Int)), fz wz wb4]) rfl ?_
        refine C_reg ?_
        refine p1 rfl ?_
        refine q1 rfl (D_add rfl rfl rfl (r := ((k + 1 : Nat) : Int)) (by omega) (by omega)) ?_
        refine p1 rfl ?_
        refine D_end ?_
        refine x_then ?_
        refine D_ozeq 0 rfl (show ((putT l x k) ++ [y0] : (List (List Int))) = putT l x (k + 1) from by first | exact putT_put hy0 (by simp_all) (by assumption) | exact putT_keep hy0 (by simp_all)) ?_
        refine fun ac w' hf hs => ⟨_, ?_, wb4, k + 1, dn, v26, hu5, ?_, ?_, rfl, hf.weak ⟨rfl, rfl, rfl, rfl, rfl, trivial⟩, hs⟩
        · omega
        · first | assumption | omega | simp
        · exact putD_s hy0 hd (by simp_all)
    · have pr8 : ¬ (((k : Nat) : Int) : Int) < ((l.length : Nat) : Int) := of_decide_eq_false h8
      refine C_exit ?_
      refine x_then_exit ?_
      refine x_then_exit ?_
      refine x_blk_eq ?_
      refine x_then ?_
      refine C_seq ?_
      refine C_seq ?_
      refine C_reg ?_
      refine p1 rfl <| p1 rfl ?_
      refine D_end ?_
      refine x_then ?_
      refine C_if _ rfl (fun h27 => ?_) (fun h27 => ?_)
      · have h27n : dn = false := not_t h27
        refine C_reg ?_
        refine p1 rfl <| p1 rfl ?_
        refine li rfl (D_bs (cs := [v_x]) s_44 y_25 rfl (by decide) (by decide) rfl rfl rfl rfl (cells_of_one (one_rd hb7)) rfl fun g28 => ?_)
        refine D_zel (α := (List Int)) hb7 ?_
        refine D_pk (H' := [oz wb4 v (putT l x k : List (List Int)), oe wb4 [v_x] (x : (List Int)), bx g28 [v_x], fz wz wb4]) [2, 0, 1, 3] rfl rfl ?_
        refine li rfl (D_apz (α := (List Int)) s_44 y_25 rfl (by decide) rfl rfl rfl rfl rfl rfl (by first | omega | (simp; omega)) (by first | omega | (simp; omega)) fun v29 => ?_)
        refine p1 rfl ?_
        refine D_end ?_
        refine x_then ?_
        refine D_H ([oz wb4 v29 ((putT l x k) ++ [x] : List (List Int)), fz wz wb4]) rfl ?_
        refine C_seq ?_
        refine C_reg ?_
        refine p1 rfl <| p1 rfl ?_
        refine D_end ?_
        refine x_then ?_
        refine D_weak [(4, v29)] ⟨rfl, trivial⟩ ?_
        refine C_ret ?_
        refine D_zfrz (α := (List Int)) hz fun wb30 hu31 hr32 => ?_
        have hm33 := rd_max hr32
        have hf34 : Gd.rd wb30 [v29] (putL l x : List (List Int)) := (show ((putT l x k) ++ [x] : List (List Int)) = putL l x from by exact putT_last (by omega) (by simp_all)) ▸ hr32
        exact R_1 rfl rfl fun w' hs => ⟨[v29], wb30, rfl, zok_of (k := 0) hs rfl (hu5.trans hu31), hf34⟩
      · have h27n : dn = true := not_f h27
        refine C_skip ?_
        refine x_then ?_
        refine C_seq ?_
        refine C_reg ?_
        refine p1 rfl <| p1 rfl ?_
        refine D_end ?_
        refine x_then ?_
        refine C_ret ?_
        refine D_zfrz (α := (List Int)) hz fun wb35 hu36 hr37 => ?_
        have hb38 := Gd.rd_sub hu36 hb6
        have hb39 := Gd.rd_sub hu36 hb7
        have hm40 := rd_max hr37
        have hf41 : Gd.rd wb35 [v] (putL l x : List (List Int)) := (show (putT l x k : List (List Int)) = putL l x from by exact putT_done (by omega) (by simp_all)) ▸ hr37
        exact R_1 rfl rfl fun w' hs => ⟨[v], wb35, rfl, zok_of (k := 0) hs rfl (hu5.trans hu36), hf41⟩

set_option maxHeartbeats 4000000 in
theorem spec_LeastRepairs (w wz : World) (hz : Sbw wz w) (c_b : List Value) (b : Beliefs) (v_bad : Value) (bad : (List Int)) (v_free : Value) (free : (List Int)) (h_b : Gd.rd wz c_b b) (h_bad : Gd.rd wz [v_bad] bad) (h_free : Gd.rd wz [v_free] free) : Calls Try.prog 25 [(.agg c_b.toArray), v_bad, v_free].toArray w (RdZ wz w (leastR b bad free : List (List Int))) := by
  obtain ⟨u1, rfl, hu2⟩ := open_Beliefs h_b
  have hm3 := rd_max hu2
  have hm4 := rd_max h_bad
  have hm5 := rd_max h_free
  refine enterS 76 Try.func25 rfl rfl rfl (fz_start w wz) ?_
  refine C_seq ?_
  refine C_reg ?_
  refine li rfl (D_box rfl rfl rfl rfl rfl fun g6 => ?_)
  refine p1 rfl ?_
  refine D_end ?_
  refine x_then ?_
  refine D_H ([bx g6 [(.int .i64 b.Nodes), u1], fz wz wz]) rfl ?_
  refine C_seq ?_
  refine C_reg ?_
  refine li rfl (D_bs0z (α := (List Int)) wz s_44 rfl rfl rfl fun v7 => ?_)
  refine p1 rfl ?_
  refine D_end ?_
  refine x_then ?_
  refine D_H ([oz wz v7 ([] : List (List Int)), bx g6 [(.int .i64 b.Nodes), u1], fz wz wz]) rfl ?_
  refine C_seq ?_
  refine C_seq ?_
  refine C_reg ?_
  refine q1 rfl (lbw 1 a_30 rfl rfl rfl) ?_
  refine p1 rfl <| p1 rfl ?_
  refine li rfl (cv b_41 rfl rfl rfl rfl (fun w' hs => (spec_IsCase w' [(.int .i64 b.Nodes), u1] b v_bad bad v_free free (rd_fz 2 hz hs rfl h_b) (rd_fz 2 hz hs rfl h_bad) (rd_fz 2 hz hs rfl h_free))) ?_)
  refine p1 rfl ?_
  refine D_end ?_
  refine x_then ?_
  refine C_if _ rfl (fun h8 => ?_) (fun h8 => ?_)
  · have h8n : (isCase b bad free) = false := not_t h8
    refine C_seq ?_
    refine C_reg ?_
    refine p1 rfl <| p1 rfl ?_
    refine D_end ?_
    refine x_then ?_
    refine C_ret ?_
    refine x_then_ret ?_
    refine D_pk (H' := [oz wz v7 ([] : List (List Int)), fz wz wz, bx g6 [(.int .i64 b.Nodes), u1]]) [0, 2, 1] rfl rfl ?_
    refine D_zfrz (α := (List Int)) hz fun wb9 hu10 hr11 => ?_
    have hb12 := Gd.rd_sub hu10 hu2
    have hb13 := Gd.rd_sub hu10 h_bad
    have hb14 := Gd.rd_sub hu10 h_free
    have hb15 := Gd.rd_sub hu10 h_b
    have hm16 := rd_max hr11
    have hf17 : Gd.rd wb9 [v7] (leastR b bad free : List (List Int)) := (show ([] : List (List Int)) = leastR b bad free from by exact leastR_f h8n) ▸ hr11
    exact R_1 rfl rfl fun w' hs => ⟨[v7], wb9, rfl, zok_of (k := 0) hs rfl hu10, hf17⟩
  · have h8n : (isCase b bad free) = true := not_f h8
    refine C_skip ?_
    refine x_then ?_
    refine C_seq ?_
    refine C_seq ?_
    have hcs : isCase b bad free = true := by assumption
    have hst := case_s hcs
    have hsz := szB_small (strat_b hst)
    have hbl := case_bl hcs
    have hfl := case_fl hcs
    have hsh := shl_rng hfl
    refine C_reg ?_
    refine p1 rfl ?_
    refine D_end ?_
    refine x_then ?_
    refine C_block ?_
    refine D_pk (H' := [oz wz v7 ([] : List (List Int)), fz wz wz, bx g6 [(.int .i64 b.Nodes), u1]]) [0, 2, 1] rfl rfl ?_
    refine D_zfrz (α := (List Int)) hz fun wb18 hu19 hr20 => ?_
    have hb21 := Gd.rd_sub hu19 hu2
    have hb22 := Gd.rd_sub hu19 h_bad
    have hb23 := Gd.rd_sub hu19 h_free
    have hb24 := Gd.rd_sub hu19 h_b
    have hm25 := rd_max hr20
    refine C_loop (fun m_ ac w' => ∃ (wb26 : World), ∃ (k : Nat), ∃ (va : Value), (Sbw wb18 wb26) ∧ (Gd.rd wb26 [va] (allT b bad free k : (List (List Int)))) ∧ ((k : Int) ≤ shlZ 1 free.length) ∧ m_ = (shlZ 1 free.length - k).toNat ∧ Fits ac 76 [(1, v_bad), (2, v_free), (3, (.pointer (some ⟨g6, 0, none⟩))), (7, va), (8, (.int .i64 ((k : Nat) : Int)))] ∧ St w ([fz wz wb26, bx g6 [(.int .i64 b.Nodes), u1]]) w') ?_ ?_
    · have hr29 : Gd.rd wb18 [v7] (allT b bad free 0 : (List (List Int))) := (show ([] : (List (List Int))) = allT b bad free 0 from by rfl) ▸ hr20
      refine fun ac w' hf hs => ⟨_, wb18, 0, v7, (Sbw.refl _), hr29, ?_, rfl, hf.weak ⟨rfl, rfl, rfl, rfl, rfl, trivial⟩, hs⟩
      · first | assumption | omega | simp
    · rintro m_ ac w' ⟨wb26, k, va, hu27, hr28, hk, rfl, hf, hs⟩
      refine D.use ?_ hf hs
      clear hf hs ac w'
      have hb30 := Gd.rd_sub hu27 hb21
      have hb31 := Gd.rd_sub hu27 hb22
      have hb32 := Gd.rd_sub hu27 hb23
      have hb33 := Gd.rd_sub hu27 hb24
      have hm34 := rd_max hr28
      have hal := allT_len b bad free k
      refine C_seq ?_
      refine C_seq ?_
      refine C_reg ?_
      refine p1 rfl <| p1 rfl ?_
      refine q1 rfl (D_len s_25 rfl rfl (rd_sl hb32)) ?_
      refine q1 rfl (D_shl (k := free.length) rfl rfl rfl) ?_
      refine p1 rfl ?_
      refine D_end ?_
      refine x_then ?_
      refine D_H ([fz wz wb26, bx g6 [(.int .i64 b.Nodes), u1]]) rfl ?_
      refine C_if _ rfl (fun h35 => ?_) (fun h35 => ?_)
      · have pr35 : (((k : Nat) : Int) : Int) < (shlZ 1 free.length) := of_decide_eq_true h35
        refine C_skip ?_
        refine x_then ?_
        refine C_seq ?_
        refine C_block ?_
        refine C_seq ?_
        refine C_reg ?_
        refine p1 rfl <| p1 rfl ?_
        refine li rfl (crl b_49 rfl rfl rfl rfl (fun w' hs => (spec_l12Pick w' v_free free ((k : Nat) : Int) (rd_fz 0 hz hs rfl hb32) (by first | assumption | omega | (unfold szm at *; split at * <;> omega)))) fun v36 => ?_)
        refine p1 rfl ?_
        refine D_end ?_
        refine x_then ?_
        refine D_H ([ov [v36] (chs free ((k : Nat) : Int) : (List Int)), fz wz wb26, bx g6 [(.int .i64 b.Nodes), u1]]) rfl ?_
        refine C_seq ?_
        refine C_reg ?_
        refine q1 rfl (lbw 2 a_30 rfl rfl rfl) ?_
        refine p1 rfl ?_
        refine li rfl (crs rfl b_45 rfl rfl rfl rfl (fun w' hs => (spec_l11Without w' [(.int .i64 b.Nodes), u1] b v36 (chs free ((k : Nat) : Int)) (rd_fz 1 hz hs rfl hb33) (rd_own (k := 0) hs rfl) (by first | assumption | omega | (unfold szm at *; split at * <;> omega)))) fun cs37 => ?_)
        refine D_pre (fun w' hs => shape_Beliefs (rd_own (k := 0) hs rfl)) ?_
        rintro ⟨v38, rfl, ho39⟩
        refine p1 rfl ?_
        refine li rfl (crl b_44 rfl rfl rfl rfl (fun w' hs => (spec_l12Bad w' [(.int .i64 ((dropR b (chs free ((k : Nat) : Int))).Nodes)), v38] (dropR b (chs free ((k : Nat) : Int))) v_bad bad (rd_own (k := 0) hs rfl) (rd_fz 2 hz hs rfl hb31) (by omega))) fun v40 => ?_)
        refine q1 rfl (D_leno 0 s_25 rfl rfl rfl) ?_
        refine p1 rfl ?_
        refine D_end ?_
        refine x_then ?_
        refine D_H ([ov [v40] (bad.filter (inL (labelsOf (dropR b (chs free ((k : Nat) : Int))))) : (List Int)), ov [(.int .i64 ((dropR b (chs free ((k : Nat) : Int))).Nodes)), v38] (dropR b (chs free ((k : Nat) : Int)) : Beliefs), ov [v36] (chs free ((k : Nat) : Int) : (List Int)), fz wz wb26, bx g6 [(.int .i64 b.Nodes), u1]]) rfl ?_
        refine C_if _ rfl (fun h41 => ?_) (fun h41 => ?_)
        · have pr41 : ((((bad.filter (inL (labelsOf (dropR b (chs free ((k : Nat) : Int)))))).length : Nat) : Int) : Int) = 0 := eq_of_beq h41
          refine C_reg ?_
          refine p1 rfl <| p1 rfl ?_
          refine D_pk (H' := [ov [v36] (chs free ((k : Nat) : Int) : (List Int)), fz wz wb26, ov [v40] (bad.filter (inL (labelsOf (dropR b (chs free ((k : Nat) : Int))))) : (List Int)), ov [(.int .i64 ((dropR b (chs free ((k : Nat) : Int))).Nodes)), v38] (dropR b (chs free ((k : Nat) : Int)) : Beliefs), bx g6 [(.int .i64 b.Nodes), u1]]) [2, 3, 0, 1, 4] rfl rfl ?_
          refine D_frz hz fun wb42 hu43 hr44 => ?_
          have hb45 := Gd.rd_sub hu43 hb30
          have hb46 := Gd.rd_sub hu43 hb31
          have hb47 := Gd.rd_sub hu43 hb32
          have hb48 := Gd.rd_sub hu43 hr28
          have hb49 := Gd.rd_sub hu43 hb33
          have hm50 := rd_max hr44
          refine li rfl (cz (α := List (List Int)) b_50 rfl rfl rfl rfl hz (fun w' hsb => spec_l12Put w' _ hsb va (allT b bad free k) v36 (chs free ((k : Nat) : Int)) hb48 hr44 (by first | assumption | omega)) fun cs51 wb53 hu54 hr52 => ?_)
          have hb55 := Gd.rd_sub hu54 hb45
          have hb56 := Gd.rd_sub hu54 hb46
          have hb57 := Gd.rd_sub hu54 hb47
          have hb58 := Gd.rd_sub hu54 hb48
          have hb59 := Gd.rd_sub hu54 hr44
          have hb60 := Gd.rd_sub hu54 hb49
          obtain ⟨v61, rfl⟩ := rd_cell hr52
          have hm62 := rd_max hr52
          refine D_re 40 (v' := v61) rfl rfl rfl ?_
          refine p1 rfl ?_
          refine D_end ?_
          refine x_blk ?_
          refine x_then ?_
          refine D_weak [(1, v_bad), (2, v_free), (3, (.pointer (some ⟨g6, 0, none⟩))), (7, v61), (8, (.int .i64 ((k : Nat) : Int)))] ⟨rfl, rfl, rfl, rfl, rfl, trivial⟩ ?_
          refine D_sel (H' := [fz wz wb53, bx g6 [(.int .i64 b.Nodes), u1]]) [true, false, false, true] rfl ?_
          refine C_reg ?_
          refine p1 rfl ?_
          refine q1 rfl (D_add rfl rfl rfl (r := ((k + 1 : Nat) : Int)) (by omega) (by omega)) ?_
          refine p1 rfl ?_
          refine D_end ?_
          refine x_then ?_
          have hr63 : Gd.rd wb53 [v61] (allT b bad free (k + 1) : (List (List Int))) := (show (putL (allT b bad free k) (chs free ((k : Nat) : Int)) : (List (List Int))) = allT b bad free (k + 1) from by first | exact allT_t (okS_w hcs h41) | exact allT_f (okS_w hcs h41)) ▸ hr52
          refine fun ac w' hf hs => ⟨_, ?_, wb53, k + 1, v61, ((hu27.trans hu43).trans hu54), hr63, ?_, rfl, hf.weak ⟨rfl, rfl, rfl, rfl, rfl, trivial⟩, hs⟩
          · omega
          · first | assumption | omega | simp
        · have pr41 : ((((bad.filter (inL (labelsOf (dropR b (chs free ((k : Nat) : Int)))))).length : Nat) : Int) : Int) ≠ 0 := ne_of_beq_false h41
          refine C_skip ?_
          refine x_blk ?_
          refine x_then ?_
          refine D_weak [(1, v_bad), (2, v_free), (3, (.pointer (some ⟨g6, 0, none⟩))), (7, va), (8, (.int .i64 ((k : Nat) : Int)))] ⟨rfl, rfl, rfl, rfl, rfl, trivial⟩ ?_
          refine D_sel (H' := [fz wz wb26, bx g6 [(.int .i64 b.Nodes), u1]]) [false, false, false, true, true] rfl ?_
          refine C_reg ?_
          refine p1 rfl ?_
          refine q1 rfl (D_add rfl rfl rfl (r := ((k + 1 : Nat) : Int)) (by omega) (by omega)) ?_
          refine p1 rfl ?_
          refine D_end ?_
          refine x_then ?_
          have hr64 : Gd.rd wb26 [va] (allT b bad free (k + 1) : (List (List Int))) := (show (allT b bad free k : (List (List Int))) = allT b bad free (k + 1) from by first | exact allT_t (okS_w hcs h41) | exact allT_f (okS_w hcs h41)) ▸ hr28
          refine fun ac w' hf hs => ⟨_, ?_, wb26, k + 1, va, hu27, hr64, ?_, rfl, hf.weak ⟨rfl, rfl, rfl, rfl, rfl, trivial⟩, hs⟩
          · omega
          · first | assumption | omega | simp
      · have pr35 : ¬ (((k : Nat) : Int) : Int) < (shlZ 1 free.length) := of_decide_eq_false h35
        refine C_exit ?_
        refine x_then_exit ?_
        refine x_then_exit ?_
        refine x_blk_eq ?_
        refine x_then ?_
        refine C_seq ?_
        refine C_reg ?_
        refine li rfl (D_bs0z (α := (List Int)) wb26 s_44 rfl rfl rfl fun v65 => ?_)
        refine p1 rfl ?_
        refine D_end ?_
        refine x_then ?_
        refine D_H ([oz wb26 v65 ([] : List (List Int)), fz wz wb26, bx g6 [(.int .i64 b.Nodes), u1]]) rfl ?_
        refine C_seq ?_
        refine C_seq ?_
        refine C_reg ?_
        refine p1 rfl ?_
        refine D_end ?_
        refine x_then ?_
        refine C_block ?_
        have haz : k = (shlZ 1 free.length).toNat := by omega
        refine C_loop (fun m_ ac w' => ∃ (wb66 : World), ∃ (i : Nat), ∃ (v : Value), (Sbw wb26 wb66) ∧ (i ≤ (allT b bad free k).length) ∧ m_ = (allT b bad free k).length - i ∧ Fits ac 76 [(7, va), (10, v), (11, (.int .i64 ((i : Nat) : Int)))] ∧ St w ([oz wb66 v (kepT (allT b bad free k) i : List (List Int)), fz wz wb66, bx g6 [(.int .i64 b.Nodes), u1]]) w') ?_ ?_
        · refine D_ozeq 0 rfl (show ([] : (List (List Int))) = kepT (allT b bad free k) 0 from by rfl) ?_
          refine fun ac w' hf hs => ⟨_, wb26, 0, v65, (Sbw.refl _), ?_, rfl, hf.weak ⟨rfl, rfl, rfl, trivial⟩, hs⟩
          · first | assumption | omega | simp
        · rintro m_ ac w' ⟨wb66, i, v, hu67, hi, rfl, hf, hs⟩
          refine D.use ?_ hf hs
          clear hf hs ac w'
          have hb68 := Gd.rd_sub hu67 hb30
          have hb69 := Gd.rd_sub hu67 hr28
          have hb70 := Gd.rd_sub hu67 hb33
          have hkl := kepT_len (allT b bad free k) i
          refine C_seq ?_
          refine C_seq ?_
          refine C_reg ?_
          refine p1 rfl <| p1 rfl ?_
          refine q1 rfl (D_len s_44 rfl rfl (rd_sl hb69)) ?_
          refine p1 rfl ?_
          refine D_end ?_
          refine x_then ?_
          refine D_H ([oz wb66 v (kepT (allT b bad free k) i : List (List Int)), fz wz wb66, bx g6 [(.int .i64 b.Nodes), u1]]) rfl ?_
          refine C_if _ rfl (fun h71 => ?_) (fun h71 => ?_)
          · have pr71 : (((i : Nat) : Int) : Int) < (((allT b bad free k).length : Nat) : Int) := of_decide_eq_true h71
            refine C_skip ?_
            refine x_then ?_
            refine C_seq ?_
            refine C_block ?_
            refine C_seq ?_
            obtain ⟨x0, hx0⟩ := some_of_lt (l := (allT b bad free k)) (i := i) (by omega)
            obtain ⟨es72, at73, hr74⟩ := rd_elem (n := 1) rfl hb69 hx0
            obtain ⟨u75, rfl⟩ := rd_cell hr74
            refine C_reg ?_
            refine p1 rfl ?_
            refine D_end ?_
            refine x_then ?_
            refine C_seq ?_
            refine C_seq ?_
            refine C_reg ?_
            refine p1 rfl ?_
            refine D_end ?_
            refine x_then ?_
            refine C_block ?_
            refine C_loop (fun m_ ac w' => ∃ (wb76 : World), ∃ (q : Nat), ∃ (le : Bool), (Sbw wb66 wb76) ∧ (q ≤ (kepT (allT b bad free k) i).length) ∧ (le = ((kepT (allT b bad free k) i).take q).all (fun y => !(prt y x0))) ∧ m_ = (kepT (allT b bad free k) i).length - q ∧ Fits ac 76 [(7, va), (10, v), (11, (.int .i64 ((i : Nat) : Int))), (12, (.bool le)), (13, (.int .i64 ((q : Nat) : Int)))] ∧ St w ([oz wb76 v (kepT (allT b bad free k) i : List (List Int)), fz wz wb76, bx g6 [(.int .i64 b.Nodes), u1]]) w') ?_ ?_
            · refine fun ac w' hf hs => ⟨_, wb66, 0, true, (Sbw.refl _), ?_, ?_, rfl, hf.weak ⟨rfl, rfl, rfl, rfl, rfl, trivial⟩, hs⟩
              · first | assumption | omega | simp
              · simp
            · rintro m_ ac w' ⟨wb76, q, le, hu77, hq, hle, rfl, hf, hs⟩
              refine D.use ?_ hf hs
              clear hf hs ac w'
              have hb78 := Gd.rd_sub hu77 hb68
              have hb79 := Gd.rd_sub hu77 hb69
              have hb80 := Gd.rd_sub hu77 hr74
              have hb81 := Gd.rd_sub hu77 hb70
              have at82 := AtE.sub at73 hu77
              refine C_seq ?_
              refine C_seq ?_
              refine C_reg ?_
              refine p1 rfl <| p1 rfl ?_
              refine q1 rfl (D_lenz 0 s_44 rfl rfl rfl) ?_
              refine p1 rfl ?_
              refine D_end ?_
              refine x_then ?_
              refine D_H ([oz wb76 v (kepT (allT b bad free k) i : List (List Int)), fz wz wb76, bx g6 [(.int .i64 b.Nodes), u1]]) rfl ?_
              refine C_if _ rfl (fun h83 => ?_) (fun h83 => ?_)
              · have pr83 : (((q : Nat) : Int) : Int) < (((kepT (allT b bad free k) i).length : Nat) : Int) := of_decide_eq_true h83
                refine C_skip ?_
                refine x_then ?_
                refine C_seq ?_
                refine C_block ?_
                obtain ⟨y0, hy0⟩ := some_of_lt (l := (kepT (allT b bad free k) i)) (i := q) (by omega)
                refine D_takez hy0 fun es84 hr85 => ?_
                obtain ⟨u86, rfl⟩ := rd_cell hr85
                refine C_draw mixed [10, 11, 12, 13] (by kernel_rfl) ?_
                refine tk 0 rfl (by kernel_rfl) (by kernel_rfl) (by kernel_rfl) rfl (fun _ hs => hs) (rp rfl) ?_
                refine tk 1 rfl (by kernel_rfl) (by kernel_rfl) (by kernel_rfl) rfl (fun _ hs => hs) (rp rfl) ?_
                refine gs 55 rfl rfl (fun h87 => ?_) (fun h87 => ?_)
                · refine tk 2 rfl (by kernel_rfl) (by kernel_rfl) (by kernel_rfl) rfl (fun _ hs => hs) (rp rfl) ?_
                  refine tk 3 rfl (by kernel_rfl) (by kernel_rfl) (by kernel_rfl) rfl (fun _ hs => hs) (rp rfl) ?_
                  refine tk 4 rfl (by kernel_rfl) (by kernel_rfl) (by kernel_rfl) rfl (fun _ hs => hs) (D_ixz 0 s_44 rfl rfl rfl rfl rfl) ?_
                  refine tk 5 rfl (by kernel_rfl) (by kernel_rfl) (by kernel_rfl) rfl (fun _ hs => hs) (lz0 (n := 1) 0 rfl o_25 rfl rfl rfl rfl) ?_
                  refine tk 6 rfl (by kernel_rfl) (by kernel_rfl) (by kernel_rfl) rfl (fun _ hs => hs) (rp rfl) ?_
                  refine tk 7 rfl (by kernel_rfl) (by kernel_rfl) (by kernel_rfl) rfl (fun _ hs => hs) (rp rfl) ?_
                  refine tk 8 rfl (by kernel_rfl) (by kernel_rfl) (by kernel_rfl) rfl (fun _ hs => hs) (D_ix (l := (allT b bad free k)) (j := i) s_44 rfl rfl rfl (fun w' hs => (rd_fz 1 hz hs rfl hb79)) rfl (lt_of_some hx0)) ?_
                  refine tk 9 rfl (by kernel_rfl) (by kernel_rfl) (by kernel_rfl) rfl (fun _ hs => hs) (lrz0 1 hz rfl o_25 rfl rfl at82 rfl) ?_
                  refine ty 10 rfl (by kernel_rfl) rfl (cv b_43 rfl rfl rfl rfl (fun w' hs => (spec_l12Part w' u86 y0 u75 x0 (rd_fz 1 hz hs rfl hr85) (rd_fz 1 hz hs rfl hb80))) ?_)
                  refine tZ rfl ?_
                  refine ty 11 rfl (by kernel_rfl) rfl (sv rfl rfl (rp rfl) ?_)
                  refine tZ rfl ?_
                  refine ty 12 rfl (by kernel_rfl) rfl (sv rfl rfl (rp rfl) ?_)
                  refine tZ rfl ?_
                  refine ty 13 rfl (by kernel_rfl) rfl (sv rfl rfl (rp rfl) ?_)
                  refine tZ rfl ?_
                  refine tE (by kernel_rfl) ?_
                  refine x_blk ?_
                  refine x_then ?_
                  refine D_weak [(7, va), (10, v), (11, (.int .i64 ((i : Nat) : Int))), (12, (.bool (!(y0.all (fun x => x0.contains x))))), (13, (.int .i64 ((q : Nat) : Int)))] ⟨rfl, rfl, rfl, rfl, rfl, trivial⟩ ?_
                  refine C_reg ?_
                  refine p1 rfl ?_
                  refine q1 rfl (D_add rfl rfl rfl (r := ((q + 1 : Nat) : Int)) (by omega) (by omega)) ?_
                  refine p1 rfl ?_
                  refine D_end ?_
                  refine x_then ?_
                  refine D_putz' hy0 hr85 ?_
                  refine fun ac w' hf hs => ⟨_, ?_, wb76, q + 1, (!(y0.all (fun x => x0.contains x))), hu77, ?_, ?_, rfl, hf.weak ⟨rfl, rfl, rfl, rfl, rfl, trivial⟩, hs⟩
                  · omega
                  · first | assumption | omega | simp
                  · first | exact allR_snoc hy0 hle (by simp_all [prt]) | (obtain ⟨y0, hy0⟩ := some_of_lt (l := kepT (allT b bad free k) i) (i := q) (by omega); exact allR_snoc hy0 hle (by simp_all [prt]))
                · refine tn 2 rfl (by kernel_rfl) (by kernel_rfl) (by kernel_rfl) rfl rfl rfl (fun _ hs => hs) ?_
                  refine tn 3 rfl (by kernel_rfl) (by kernel_rfl) (by kernel_rfl) rfl rfl rfl (fun _ hs => hs) ?_
                  refine tn 4 rfl (by kernel_rfl) (by kernel_rfl) (by kernel_rfl) rfl rfl rfl (fun _ hs => hs) ?_
                  refine tn 5 rfl (by kernel_rfl) (by kernel_rfl) (by kernel_rfl) rfl rfl rfl (fun _ hs => hs) ?_
                  refine tn 6 rfl (by kernel_rfl) (by kernel_rfl) (by kernel_rfl) rfl rfl rfl (fun _ hs => hs) ?_
                  refine tn 7 rfl (by kernel_rfl) (by kernel_rfl) (by kernel_rfl) rfl rfl rfl (fun _ hs => hs) ?_
                  refine tn 8 rfl (by kernel_rfl) (by kernel_rfl) (by kernel_rfl) rfl rfl rfl (fun _ hs => hs) ?_
                  refine tn 9 rfl (by kernel_rfl) (by kernel_rfl) (by kernel_rfl) rfl rfl rfl (fun _ hs => hs) ?_
                  refine tn 10 rfl (by kernel_rfl) (by kernel_rfl) (by kernel_rfl) rfl rfl rfl (fun _ hs => hs) ?_
                  refine tn 11 rfl (by kernel_rfl) (by kernel_rfl) (by kernel_rfl) rfl rfl rfl (fun _ hs => hs) ?_
                  refine ty 12 rfl (by kernel_rfl) rfl (sv rfl rfl (rp rfl) ?_)
                  refine tZ rfl ?_
                  refine ty 13 rfl (by kernel_rfl) rfl (sv rfl rfl (rp rfl) ?_)
                  refine tZ rfl ?_
                  refine tE (by kernel_rfl) ?_
                  refine x_blk ?_
                  refine x_then ?_
                  refine D_weak [(7, va), (10, v), (11, (.int .i64 ((i : Nat) : Int))), (12, (.bool false)), (13, (.int .i64 ((q : Nat) : Int)))] ⟨rfl, rfl, rfl, rfl, rfl, trivial⟩ ?_
                  refine C_reg ?_
                  refine p1 rfl ?_
                  refine q1 rfl (D_add rfl rfl rfl (r := ((q + 1 : Nat) : Int)) (by omega) (by omega)) ?_
                  refine p1 rfl ?_
                  refine D_end ?_
                  refine x_then ?_
                  refine D_putz' hy0 hr85 ?_
                  refine fun ac w' hf hs => ⟨_, ?_, wb76, q + 1, false, hu77, ?_, ?_, rfl, hf.weak ⟨rfl, rfl, rfl, rfl, rfl, trivial⟩, hs⟩
                  · omega
                  · first | assumption | omega | simp
                  · first | exact allR_snoc hy0 hle (by simp_all [prt]) | (obtain ⟨y0, hy0⟩ := some_of_lt (l := kepT (allT b bad free k) i) (i := q) (by omega); exact allR_snoc hy0 hle (by simp_all [prt]))
              · have pr83 : ¬ (((q : Nat) : Int) : Int) < (((kepT (allT b bad free k) i).length : Nat) : Int) := of_decide_eq_false h83
                refine C_exit ?_
                refine x_then_exit ?_
                refine x_then_exit ?_
                refine x_blk_eq ?_
                refine x_then ?_
                refine C_seq ?_
                refine C_reg ?_
                refine p1 rfl ?_
                refine D_end ?_
                refine x_then ?_
                refine C_if _ rfl (fun h88 => ?_) (fun h88 => ?_)
                · refine C_reg ?_
                  refine p1 rfl <| p1 rfl <| p1 rfl ?_
                  refine q1 rfl (D_ix (l := (allT b bad free k)) (j := i) s_44 rfl rfl rfl (fun w' hs => (rd_fz 1 hz hs rfl hb79)) rfl (lt_of_some hx0)) ?_
                  refine q1 rfl (lrz0 1 hz rfl o_25 rfl rfl at82 rfl) ?_
                  refine li rfl (D_bs (cs := [u75]) s_44 y_25 rfl (by decide) (by decide) rfl rfl rfl rfl (cells_of_one (one_rd hb80)) rfl fun g89 => ?_)
                  refine D_zel (α := (List Int)) hb80 ?_
                  refine D_pk (H' := [oz wb76 v (kepT (allT b bad free k) i : List (List Int)), oe wb76 [u75] (x0 : (List Int)), bx g89 [u75], fz wz wb76, bx g6 [(.int .i64 b.Nodes), u1]]) [2, 0, 1, 3, 4] rfl rfl ?_
                  refine li rfl (D_apz (α := (List Int)) s_44 y_25 rfl (by decide) rfl rfl rfl rfl rfl rfl (by first | omega | (simp; omega)) (by first | omega | (simp; omega)) fun v90 => ?_)
                  refine p1 rfl ?_
                  refine D_end ?_
                  refine x_blk ?_
                  refine x_then ?_
                  refine D_H ([oz wb76 v90 ((kepT (allT b bad free k) i) ++ [x0] : List (List Int)), fz wz wb76, bx g6 [(.int .i64 b.Nodes), u1]]) rfl ?_
                  refine C_reg ?_
                  refine p1 rfl ?_
                  refine q1 rfl (D_add rfl rfl rfl (r := ((i + 1 : Nat) : Int)) (by omega) (by omega)) ?_
                  refine p1 rfl ?_
                  refine D_end ?_
                  refine x_then ?_
                  refine D_ozeq 0 rfl (show ((kepT (allT b bad free k) i) ++ [x0] : (List (List Int))) = kepT (allT b bad free k) (i + 1) from by first | exact kepT_t hx0 ((allR_done (by omega)).symm.trans (hle.symm.trans (by assumption))) | exact kepT_f hx0 ((allR_done (by omega)).symm.trans (hle.symm.trans (by assumption)))) ?_
                  refine fun ac w' hf hs => ⟨_, ?_, wb76, i + 1, v90, (hu67.trans hu77), ?_, rfl, hf.weak ⟨rfl, rfl, rfl, trivial⟩, hs⟩
                  · omega
                  · first | assumption | omega | simp
                · refine C_skip ?_
                  refine x_blk ?_
                  refine x_then ?_
                  refine C_reg ?_
                  refine p1 rfl ?_
                  refine q1 rfl (D_add rfl rfl rfl (r := ((i + 1 : Nat) : Int)) (by omega) (by omega)) ?_
                  refine p1 rfl ?_
                  refine D_end ?_
                  refine x_then ?_
                  refine D_ozeq 0 rfl (show (kepT (allT b bad free k) i : (List (List Int))) = kepT (allT b bad free k) (i + 1) from by first | exact kepT_t hx0 ((allR_done (by omega)).symm.trans (hle.symm.trans (by assumption))) | exact kepT_f hx0 ((allR_done (by omega)).symm.trans (hle.symm.trans (by assumption)))) ?_
                  refine fun ac w' hf hs => ⟨_, ?_, wb76, i + 1, v, (hu67.trans hu77), ?_, rfl, hf.weak ⟨rfl, rfl, rfl, trivial⟩, hs⟩
                  · omega
                  · first | assumption | omega | simp
          · have pr71 : ¬ (((i : Nat) : Int) : Int) < (((allT b bad free k).length : Nat) : Int) := of_decide_eq_false h71
            refine C_exit ?_
            refine x_then_exit ?_
            refine x_then_exit ?_
            refine x_blk_eq ?_
            refine x_then ?_
            refine C_seq ?_
            refine C_reg ?_
            refine p1 rfl <| p1 rfl ?_
            refine D_end ?_
            refine x_then ?_
            refine C_ret ?_
            refine D_zfrz (α := (List Int)) hz fun wb91 hu92 hr93 => ?_
            have hb94 := Gd.rd_sub hu92 hb68
            have hb95 := Gd.rd_sub hu92 hb69
            have hb96 := Gd.rd_sub hu92 hb70
            have hm97 := rd_max hr93
            have hf98 : Gd.rd wb91 [v] (leastR b bad free : List (List Int)) := (show (kepT (allT b bad free k) i : List (List Int)) = leastR b bad free from by exact (kep_spec haz (by omega) hi).trans (spec_least hcs)) ▸ hr93
            exact R_1 rfl rfl fun w' hs => ⟨[v], wb91, rfl, zok_of (k := 0) hs rfl (((hu19.trans hu27).trans hu67).trans hu92), hf98⟩
end Go.Sy.Rep4
