/-
  Contracts of functions of the program, walked (printed by a program of ours).
  Conditions: those that each theorem states.
-/
import Derived.Test.YteahhonfcloabaaBelb
import Derived.Test.YteahhonfcloabaaGraph
set_option linter.unusedVariables false
set_option maxRecDepth 20000
namespace Go.Sy.Belc
open Go Go.RowKit Go.Proofs Go.Sy
theorem mixed : Try.prog.follows .mixedOrders = true := by kernel_rfl
theorem a_30 : aggTy Try.prog 30 = some 2 := by kernel_rfl
theorem b_82 : hasBody Try.prog 82 = true := by kernel_rfl
theorem b_38 : hasBody Try.prog 38 = true := by kernel_rfl
theorem f_30_1 : fieldOff Try.prog 30 1 = some 1 := by kernel_rfl
theorem o_28 : oneTy Try.prog 28 = true := by kernel_rfl
theorem s_28 : sliceTy Try.prog 28 = some (67, 3, 56) := by kernel_rfl
theorem f_67_1 : fieldOff Try.prog 67 1 = some 1 := by kernel_rfl
theorem o_25 : oneTy Try.prog 25 = true := by kernel_rfl
theorem s_25 : sliceTy Try.prog 25 = some (3, 1, 8) := by kernel_rfl
theorem o_3 : oneTy Try.prog 3 = true := by kernel_rfl
theorem b_61 : hasBody Try.prog 61 = true := by kernel_rfl
theorem y_3 : zeroTy Try.prog 3 = some (.int .i64 0) := by kernel_rfl
theorem b_79 : hasBody Try.prog 79 = true := by kernel_rfl
theorem b_35 : hasBody Try.prog 35 = true := by kernel_rfl
theorem b_58 : hasBody Try.prog 58 = true := by kernel_rfl
open Go.Sy.Bel1 Go.Sy.Bel2 Go.Sy.Bel3 Go.Sy.Bel4 Go.Sy.Bel5 Go.Sy.Bel6 Go.Sy.Bel7 Go.Sy.Bel8 Go.Sy.Bel9 Go.Sy.Belb
theorem impl_foundation (f : Nat) : ∀ (w0 : World) (Hs : List Chunk) (w : World) (c_b : List Value) (b : Beliefs) (v_rounds : Value) (rounds : (List Int)) (x : Int) (v_l : Value) (l : (List Int)) (h_b : Gd.rd w0 c_b b) (h_rounds : Gd.rd w0 [v_rounds] rounds) (ho : okB b = true) (hl : rounds.length = b.Nodes.toNat) (hfu : atZ rounds x.toNat < f) (hg : Good b l) (hrl : b.Reasons.length ≤ 1048576) (hst : St w0 (ov [v_l] (l : List Int) :: Hs) w), Calls Try.prog 61 [(.agg c_b.toArray), v_rounds, (.int .i64 x), v_l].toArray w (fun e w' => ∃ u, e = .returned u ∧ St w0 (ov [u] (fndG b (suppL b rounds) f x l : List Int) :: Hs) w') := by
  induction f using Nat.strongRecOn with
  | _ f ih =>
  intro w0 Hs w c_b b v_rounds rounds x v_l l h_b h_rounds ho hl hfu hg hrl hst
  obtain ⟨u1, rfl, hu2⟩ := open_Beliefs h_b
  have hm3 := rd_max hu2
  have hm4 := rd_max h_rounds
  have hm5 := rd_max (rd_own (k := 0) hst rfl)
  have hsp := spL_ok b rounds
  have hgl0 := good_len hg
  refine enterS 45 Try.func61 rfl rfl rfl hst ?_
  refine C_seq ?_
  refine C_reg ?_
  refine li rfl (D_box rfl rfl rfl rfl rfl fun g6 => ?_)
  refine p1 rfl ?_
  refine D_end ?_
  refine x_then ?_
  refine D_H (bx g6 [(.int .i64 b.Nodes), u1] :: ov [v_l] (l : (List Int)) :: Hs) rfl ?_
  refine C_seq ?_
  refine C_reg ?_
  refine q1 rfl (lbw 0 a_30 rfl rfl rfl) ?_
  refine p1 rfl <| p1 rfl ?_
  refine li rfl (cv b_82 rfl rfl rfl rfl (fun w' hs => (impl_support w' [(.int .i64 b.Nodes), u1] b v_rounds rounds x (rd_at hs h_b) (rd_at hs h_rounds) (by first | assumption | omega | (unfold szm at *; split at * <;> omega)) (by first | assumption | omega | (unfold szm at *; split at * <;> omega)))) ?_)
  refine p1 rfl ?_
  refine D_end ?_
  refine x_then ?_
  refine C_seq ?_
  refine C_seq ?_
  refine C_reg ?_
  refine p1 rfl <| p1 rfl <| p1 rfl ?_
  refine gs 18 rfl rfl (fun h7 => ?_) (fun h7 => ?_)
  · have pr7 : ((suppL b rounds x) : Int) < 0 := of_decide_eq_true h7
    refine n1 rfl ?_
    refine n1 rfl ?_
    refine n1 rfl ?_
    refine p1 rfl ?_
    refine D_end ?_
    refine x_then ?_
    refine C_t rfl ?_
    refine C_seq ?_
    refine C_reg ?_
    refine p1 rfl <| p1 rfl ?_
    refine D_end ?_
    refine x_then ?_
    refine D_weak [(8, v_l)] ⟨rfl, trivial⟩ ?_
    refine C_ret ?_
    refine x_then_ret ?_
    refine D_eq 1 rfl (show (l : List Int) = fndG b (suppL b rounds) f x l from by exact fnd_stop (.inl (by omega))) ?_
    exact R_1 rfl rfl fun w' hs => ⟨_, rfl, hs.fd [] 1 rfl⟩
  · have pr7 : ¬ ((suppL b rounds x) : Int) < 0 := of_decide_eq_false h7
    refine p1 rfl <| p1 rfl ?_
    refine li rfl (cv b_38 rfl rfl rfl rfl (fun w' hs => (impl_hasInt w' v_l l (suppL b rounds x) (rd_own (k := 1) hs rfl))) ?_)
    refine p1 rfl ?_
    refine D_end ?_
    refine x_then ?_
    refine C_if _ rfl (fun h8 => ?_) (fun h8 => ?_)
    · refine C_seq ?_
      refine C_reg ?_
      refine p1 rfl <| p1 rfl ?_
      refine D_end ?_
      refine x_then ?_
      refine D_weak [(8, v_l)] ⟨rfl, trivial⟩ ?_
      refine C_ret ?_
      refine x_then_ret ?_
      refine D_eq 1 rfl (show (l : List Int) = fndG b (suppL b rounds) f x l from by exact fnd_stop (.inr (by assumption))) ?_
      exact R_1 rfl rfl fun w' hs => ⟨_, rfl, hs.fd [] 1 rfl⟩
    · refine C_skip ?_
      refine x_then ?_
      refine C_seq ?_
      refine C_seq ?_
      obtain ⟨kk, rr, hk1, hk2, hk3, hx0, hx1, hx2⟩ := (hsp x).resolve_left (by omega)
      have hkl := lt_of_some hk2
      obtain ⟨m, hm⟩ : ∃ m, f = m + 1 := ⟨f - 1, by omega⟩
      obtain ⟨r0, hr0⟩ := some_of_lt (l := b.Reasons) (i := ((suppL b rounds x).toNat)) (by omega)
      have hrr : r0 = rr := by rw [hk1] at hr0; exact Option.some.inj (hr0.symm.trans hk2)
      obtain ⟨es9, at10, hr11⟩ := rd_elem (n := 3) rfl hu2 hr0
      obtain ⟨u12, u14, rfl, hu13, hu15⟩ := open_Reason hr11
      have hm16 := rd_max hu13
      have hm17 := rd_max hu15
      refine C_reg ?_
      refine q1 rfl (D_fb f_30_1 rfl rfl (q := 1) rfl) ?_
      refine q1 rfl (lb 0 o_28 rfl rfl rfl rfl) ?_
      refine p1 rfl ?_
      refine q1 rfl (D_ix (l := b.Reasons) (j := ((suppL b rounds x).toNat)) s_28 rfl rfl rfl (fun w' hs => (rd_at hs hu2)) (Int.toNat_of_nonneg (by omega)).symm (lt_of_some hr0)) ?_
      refine q1 rfl (D_fa f_67_1 rfl rfl) ?_
      refine q1 rfl (lr o_25 rfl rfl at10 rfl) ?_
      refine q1 rfl (D_len s_25 rfl rfl (rd_sl hu13)) ?_
      refine p1 rfl ?_
      refine D_end ?_
      refine x_then ?_
      refine D_weak [(1, v_rounds), (3, v_l), (4, (.pointer (some ⟨g6, 0, none⟩))), (9, (.int .i64 (suppL b rounds x))), (29, u12), (30, (.int .i64 ((r0.In.length : Nat) : Int))), (31, (.int .i64 0))] ⟨rfl, rfl, rfl, rfl, rfl, rfl, rfl, trivial⟩ ?_
      refine C_block ?_
      refine C_loop (fun m_ ac w' => ∃ (k : Nat), ∃ (vl : Value), (k ≤ r0.In.length) ∧ m_ = r0.In.length - k ∧ Fits ac 45 [(1, v_rounds), (3, vl), (4, (.pointer (some ⟨g6, 0, none⟩))), (9, (.int .i64 (suppL b rounds x))), (29, u12), (30, (.int .i64 ((r0.In.length : Nat) : Int))), (31, (.int .i64 ((k : Nat) : Int)))] ∧ St w0 (bx g6 [(.int .i64 b.Nodes), u1] :: ov [vl] (flT b (suppL b rounds) m r0.In k l : (List Int)) :: Hs) w') ?_ ?_
      · refine D_eq 1 rfl (show (l : (List Int)) = flT b (suppL b rounds) m r0.In 0 l from by rfl) ?_
        refine fun ac w' hf hs => ⟨_, 0, v_l, ?_, rfl, hf.weak ⟨rfl, rfl, rfl, rfl, rfl, rfl, rfl, trivial⟩, hs⟩
        · first | assumption | omega | simp
      · rintro m_ ac w' ⟨k, vl, hk, rfl, hf, hs⟩
        refine D.use ?_ hf hs
        clear hf hs ac w'
        have hgk := good_flT hsp m r0.In k hg
        have hgl := good_len hgk
        refine C_seq ?_
        refine C_reg ?_
        refine p1 rfl ?_
        refine D_end ?_
        refine x_then ?_
        refine D_H (bx g6 [(.int .i64 b.Nodes), u1] :: ov [vl] (flT b (suppL b rounds) m r0.In k l : (List Int)) :: Hs) rfl ?_
        refine C_seq ?_
        refine C_if _ rfl (fun h18 => ?_) (fun h18 => ?_)
        · have pr18 : (((k : Nat) : Int) : Int) < ((r0.In.length : Nat) : Int) := of_decide_eq_true h18
          refine C_skip ?_
          refine x_then ?_
          refine C_seq ?_
          refine C_block ?_
          refine C_seq ?_
          refine C_reg ?_
          obtain ⟨y2, hy2⟩ := some_of_lt (l := r0.In) (i := k) (by omega)
          have hyi := hasFor_in hk3 (hrr ▸ List.mem_of_getElem? hy2)
          obtain ⟨es19, at20, hr21⟩ := rd_elem (n := 1) rfl hu13 hy2
          obtain rfl : es19 = [.int .i64 y2] := hr21
          refine q1 rfl (D_ix (l := r0.In) (j := k) s_25 rfl rfl rfl (fun w' hs => (rd_at hs hu13)) rfl (lt_of_some hy2)) ?_
          refine q1 rfl (lr0 o_3 rfl rfl at20 rfl) ?_
          refine p1 rfl ?_
          refine D_end ?_
          refine x_then ?_
          refine C_reg ?_
          refine q1 rfl (lbw 0 a_30 rfl rfl rfl) ?_
          refine p1 rfl <| p1 rfl <| p1 rfl ?_
          refine D_fd [1] 0 rfl ?_
          refine li rfl (cmv b_61 rfl rfl rfl rfl (fun w' hs => ih m (by omega) _ _ w' [(.int .i64 b.Nodes), u1] b v_rounds rounds y2 vl (flT b (suppL b rounds) m r0.In k l) h_b h_rounds (by first | assumption | omega) (by first | assumption | omega) (by omega) hgk (by first | assumption | omega) hs) fun v22 => ?_)
          refine p1 rfl ?_
          refine D_end ?_
          refine x_blk ?_
          refine x_then ?_
          refine D_H (ov [v22] (fndG b (suppL b rounds) m y2 (flT b (suppL b rounds) m r0.In k l) : (List Int)) :: bx g6 [(.int .i64 b.Nodes), u1] :: Hs) rfl ?_
          refine C_reg ?_
          refine q1 rfl (D_add rfl rfl rfl (r := ((k + 1 : Nat) : Int)) (by omega) (by omega)) ?_
          refine p1 rfl ?_
          refine D_end ?_
          refine x_then ?_
          refine D_eq 0 rfl (show (fndG b (suppL b rounds) m y2 (flT b (suppL b rounds) m r0.In k l) : (List Int)) = flT b (suppL b rounds) m r0.In (k + 1) l from by exact flT_step hy2) ?_
          refine fun ac w' hf hs => ⟨_, ?_, k + 1, v22, ?_, rfl, hf.weak ⟨rfl, rfl, rfl, rfl, rfl, rfl, rfl, trivial⟩, hs.fd [0, 1] 0 rfl⟩
          · omega
          · first | assumption | omega | simp
        · have pr18 : ¬ (((k : Nat) : Int) : Int) < ((r0.In.length : Nat) : Int) := of_decide_eq_false h18
          refine C_exit ?_
          refine x_then_exit ?_
          refine x_then_exit ?_
          refine x_blk_eq ?_
          refine x_then ?_
          refine C_seq ?_
          refine C_reg ?_
          refine p1 rfl <| p1 rfl ?_
          refine li rfl (D_bs s_25 y_3 rfl (by decide) (by decide) rfl rfl rfl rfl rfl rfl fun g23 => ?_)
          refine D_fi (suppL b rounds x) ?_
          refine D_fd [1, 1, 3] 0 rfl ?_
          refine li rfl (D_ap s_25 y_3 rfl (by decide) rfl rfl rfl rfl rfl rfl (by first | omega | (simp; omega)) (by first | omega | (simp; omega)) fun v24 => ?_)
          refine p1 rfl ?_
          refine D_end ?_
          refine x_then ?_
          refine D_H (ov [v24] ((flT b (suppL b rounds) m r0.In k l) ++ [(suppL b rounds x)] : (List Int)) :: bx g6 [(.int .i64 b.Nodes), u1] :: Hs) rfl ?_
          refine C_ret ?_
          refine D_eq 0 rfl (show ((flT b (suppL b rounds) m r0.In k l) ++ [(suppL b rounds x)] : List Int) = fndG b (suppL b rounds) f x l from by exact fnd_go hm (by omega) (by assumption) hr0 (by omega)) ?_
          exact R_1 rfl rfl fun w' hs => ⟨_, rfl, hs.fd [0, 1] 1 rfl⟩
theorem impl_foundation_nil (f : Nat) (w : World) (c_b : List Value) (b : Beliefs) (v_rounds : Value) (rounds : (List Int)) (x : Int)  (h_b : Gd.rd w c_b b) (h_rounds : Gd.rd w [v_rounds] rounds) (ho : okB b = true) (hl : rounds.length = b.Nodes.toNat) (hfu : atZ rounds x.toNat < f) (hg : Good b ([] : List Int)) (hrl : b.Reasons.length ≤ 1048576) : Calls Try.prog 61 [(.agg c_b.toArray), v_rounds, (.int .i64 x), (.slice none 0 0)].toArray w (Res w (fndG b (suppL b rounds) f x ([] : List Int) : List Int)) := (impl_foundation f w [] w c_b b v_rounds rounds x (.slice none 0 0) [] h_b h_rounds ho hl hfu hg hrl mv_nil).mono fun _ _ h => mv_res h

theorem spec_l11Found (f : Nat) : ∀ (w0 : World) (Hs : List Chunk) (w : World) (c_b : List Value) (b : Beliefs) (x : Int) (v_l : Value) (l : (List Int)) (h_b : Gd.rd w0 c_b b) (hfu : atZ (roundsOf b) x.toNat < f) (hg : Good b l) (hrl : b.Reasons.length ≤ 1048576) (hst : St w0 (ov [v_l] (l : List Int) :: Hs) w), Calls Try.prog 58 [(.agg c_b.toArray), (.int .i64 x), v_l].toArray w (fun e w' => ∃ u, e = .returned u ∧ St w0 (ov [u] (fndG b (suppOf b) f x l : List Int) :: Hs) w') := by
  induction f using Nat.strongRecOn with
  | _ f ih =>
  intro w0 Hs w c_b b x v_l l h_b hfu hg hrl hst
  obtain ⟨u1, rfl, hu2⟩ := open_Beliefs h_b
  have hm3 := rd_max hu2
  have hm4 := rd_max (rd_own (k := 0) hst rfl)
  have hsp := spO_ok b
  have hgl0 := good_len hg
  refine enterS 47 Try.func58 rfl rfl rfl hst ?_
  refine C_seq ?_
  refine C_reg ?_
  refine li rfl (D_box rfl rfl rfl rfl rfl fun g5 => ?_)
  refine p1 rfl ?_
  refine D_end ?_
  refine x_then ?_
  refine D_H (bx g5 [(.int .i64 b.Nodes), u1] :: ov [v_l] (l : (List Int)) :: Hs) rfl ?_
  refine C_seq ?_
  refine C_reg ?_
  refine q1 rfl (lbw 0 a_30 rfl rfl rfl) ?_
  refine p1 rfl ?_
  refine li rfl (cv b_79 rfl rfl rfl rfl (fun w' hs => (spec_SupportOf w' [(.int .i64 b.Nodes), u1] b x (rd_at hs h_b))) ?_)
  refine p1 rfl ?_
  refine D_end ?_
  refine x_then ?_
  refine C_seq ?_
  refine C_seq ?_
  refine C_reg ?_
  refine p1 rfl <| p1 rfl <| p1 rfl ?_
  refine gs 14 rfl rfl (fun h6 => ?_) (fun h6 => ?_)
  · have pr6 : ((suppOf b x) : Int) < 0 := of_decide_eq_true h6
    refine n1 rfl ?_
    refine n1 rfl ?_
    refine n1 rfl ?_
    refine p1 rfl ?_
    refine D_end ?_
    refine x_then ?_
    refine C_t rfl ?_
    refine C_seq ?_
    refine C_reg ?_
    refine p1 rfl <| p1 rfl ?_
    refine D_end ?_
    refine x_then ?_
    refine D_weak [(6, v_l)] ⟨rfl, trivial⟩ ?_
    refine C_ret ?_
    refine x_then_ret ?_
    refine D_eq 1 rfl (show (l : List Int) = fndG b (suppOf b) f x l from by exact fnd_stop (.inl (by omega))) ?_
    exact R_1 rfl rfl fun w' hs => ⟨_, rfl, hs.fd [] 1 rfl⟩
  · have pr6 : ¬ ((suppOf b x) : Int) < 0 := of_decide_eq_false h6
    refine p1 rfl <| p1 rfl ?_
    refine li rfl (cv b_35 rfl rfl rfl rfl (fun w' hs => (spec_l1Has w' v_l l (suppOf b x) (rd_own (k := 1) hs rfl))) ?_)
    refine p1 rfl ?_
    refine D_end ?_
    refine x_then ?_
    refine C_if _ rfl (fun h7 => ?_) (fun h7 => ?_)
    · refine C_seq ?_
      refine C_reg ?_
      refine p1 rfl <| p1 rfl ?_
      refine D_end ?_
      refine x_then ?_
      refine D_weak [(6, v_l)] ⟨rfl, trivial⟩ ?_
      refine C_ret ?_
      refine x_then_ret ?_
      refine D_eq 1 rfl (show (l : List Int) = fndG b (suppOf b) f x l from by exact fnd_stop (.inr (by assumption))) ?_
      exact R_1 rfl rfl fun w' hs => ⟨_, rfl, hs.fd [] 1 rfl⟩
    · refine C_skip ?_
      refine x_then ?_
      refine C_seq ?_
      refine C_seq ?_
      obtain ⟨kk, rr, hk1, hk2, hk3, hx0, hx1, hx2⟩ := (hsp x).resolve_left (by omega)
      have hkl := lt_of_some hk2
      obtain ⟨m, hm⟩ : ∃ m, f = m + 1 := ⟨f - 1, by omega⟩
      obtain ⟨r0, hr0⟩ := some_of_lt (l := b.Reasons) (i := ((suppOf b x).toNat)) (by omega)
      have hrr : r0 = rr := by rw [hk1] at hr0; exact Option.some.inj (hr0.symm.trans hk2)
      obtain ⟨es8, at9, hr10⟩ := rd_elem (n := 3) rfl hu2 hr0
      obtain ⟨u11, u13, rfl, hu12, hu14⟩ := open_Reason hr10
      have hm15 := rd_max hu12
      have hm16 := rd_max hu14
      refine C_reg ?_
      refine p1 rfl ?_
      refine D_end ?_
      refine x_then ?_
      refine C_block ?_
      refine C_loop (fun m_ ac w' => ∃ (k : Nat), ∃ (vl : Value), (k ≤ r0.In.length) ∧ m_ = r0.In.length - k ∧ Fits ac 47 [(2, vl), (3, (.pointer (some ⟨g5, 0, none⟩))), (7, (.int .i64 (suppOf b x))), (8, (.int .i64 ((k : Nat) : Int)))] ∧ St w0 (bx g5 [(.int .i64 b.Nodes), u1] :: ov [vl] (flT b (suppOf b) m r0.In k l : (List Int)) :: Hs) w') ?_ ?_
      · refine D_eq 1 rfl (show (l : (List Int)) = flT b (suppOf b) m r0.In 0 l from by rfl) ?_
        refine fun ac w' hf hs => ⟨_, 0, v_l, ?_, rfl, hf.weak ⟨rfl, rfl, rfl, rfl, trivial⟩, hs⟩
        · first | assumption | omega | simp
      · rintro m_ ac w' ⟨k, vl, hk, rfl, hf, hs⟩
        refine D.use ?_ hf hs
        clear hf hs ac w'
        have hgk := good_flT hsp m r0.In k hg
        have hgl := good_len hgk
        refine C_seq ?_
        refine C_seq ?_
        refine C_reg ?_
        refine p1 rfl ?_
        refine q1 rfl (D_fb f_30_1 rfl rfl (q := 1) rfl) ?_
        refine q1 rfl (lb 0 o_28 rfl rfl rfl rfl) ?_
        refine p1 rfl ?_
        refine q1 rfl (D_ix (l := b.Reasons) (j := ((suppOf b x).toNat)) s_28 rfl rfl rfl (fun w' hs => (rd_at hs hu2)) (Int.toNat_of_nonneg (by omega)).symm (lt_of_some hr0)) ?_
        refine q1 rfl (D_fa f_67_1 rfl rfl) ?_
        refine q1 rfl (lr o_25 rfl rfl at9 rfl) ?_
        refine q1 rfl (D_len s_25 rfl rfl (rd_sl hu12)) ?_
        refine p1 rfl ?_
        refine D_end ?_
        refine x_then ?_
        refine D_H (bx g5 [(.int .i64 b.Nodes), u1] :: ov [vl] (flT b (suppOf b) m r0.In k l : (List Int)) :: Hs) rfl ?_
        refine C_if _ rfl (fun h17 => ?_) (fun h17 => ?_)
        · have pr17 : (((k : Nat) : Int) : Int) < ((r0.In.length : Nat) : Int) := of_decide_eq_true h17
          refine C_skip ?_
          refine x_then ?_
          refine C_seq ?_
          refine C_block ?_
          refine C_draw mixed [11, 12] (by kernel_rfl) ?_
          refine tk 0 rfl (by kernel_rfl) (by kernel_rfl) (by kernel_rfl) rfl (fun _ hs => hs) (lbw 0 a_30 rfl rfl rfl) ?_
          refine tk 1 rfl (by kernel_rfl) (by kernel_rfl) (by kernel_rfl) rfl (fun _ hs => hs) (D_fb f_30_1 rfl rfl (q := 1) rfl) ?_
          refine tk 2 rfl (by kernel_rfl) (by kernel_rfl) (by kernel_rfl) rfl (fun _ hs => hs) (lb 0 o_28 rfl rfl rfl rfl) ?_
          refine tk 3 rfl (by kernel_rfl) (by kernel_rfl) (by kernel_rfl) rfl (fun _ hs => hs) (rp rfl) ?_
          refine tk 4 rfl (by kernel_rfl) (by kernel_rfl) (by kernel_rfl) rfl (fun _ hs => hs) (D_ix (l := b.Reasons) (j := ((suppOf b x).toNat)) s_28 rfl rfl rfl (fun w' hs => (rd_at hs hu2)) (Int.toNat_of_nonneg (by omega)).symm (lt_of_some hr0)) ?_
          refine tk 5 rfl (by kernel_rfl) (by kernel_rfl) (by kernel_rfl) rfl (fun _ hs => hs) (D_fa f_67_1 rfl rfl) ?_
          refine tk 6 rfl (by kernel_rfl) (by kernel_rfl) (by kernel_rfl) rfl (fun _ hs => hs) (lr o_25 rfl rfl at9 rfl) ?_
          refine tk 7 rfl (by kernel_rfl) (by kernel_rfl) (by kernel_rfl) rfl (fun _ hs => hs) (rp rfl) ?_
          obtain ⟨y2, hy2⟩ := some_of_lt (l := r0.In) (i := k) (by omega)
          have hyi := hasFor_in hk3 (hrr ▸ List.mem_of_getElem? hy2)
          obtain ⟨es18, at19, hr20⟩ := rd_elem (n := 1) rfl hu12 hy2
          obtain rfl : es18 = [.int .i64 y2] := hr20
          refine tk 8 rfl (by kernel_rfl) (by kernel_rfl) (by kernel_rfl) rfl (fun _ hs => hs) (D_ix (l := r0.In) (j := k) s_25 rfl rfl rfl (fun w' hs => (rd_at hs hu12)) rfl (lt_of_some hy2)) ?_
          refine tk 9 rfl (by kernel_rfl) (by kernel_rfl) (by kernel_rfl) rfl (fun _ hs => hs) (lr0 o_3 rfl rfl at19 rfl) ?_
          refine tk 10 rfl (by kernel_rfl) (by kernel_rfl) (by kernel_rfl) rfl (fun _ hs => hs) (rp rfl) ?_
          refine D_fd [1] 0 rfl ?_
          refine ty 11 rfl (by kernel_rfl) rfl (cmv b_58 rfl rfl rfl rfl (fun w' hs => ih m (by omega) _ _ w' [(.int .i64 b.Nodes), u1] b y2 vl (flT b (suppOf b) m r0.In k l) h_b (by omega) hgk (by first | assumption | omega) hs) fun v21 => ?_)
          refine tZ rfl ?_
          refine ty 12 rfl (by kernel_rfl) rfl (sv rfl rfl (rp rfl) ?_)
          refine tZ rfl ?_
          refine tE (by kernel_rfl) ?_
          refine x_blk ?_
          refine x_then ?_
          refine D_weak [(2, v21), (3, (.pointer (some ⟨g5, 0, none⟩))), (7, (.int .i64 (suppOf b x))), (8, (.int .i64 ((k : Nat) : Int)))] ⟨rfl, rfl, rfl, rfl, trivial⟩ ?_
          refine D_H (ov [v21] (fndG b (suppOf b) m y2 (flT b (suppOf b) m r0.In k l) : (List Int)) :: bx g5 [(.int .i64 b.Nodes), u1] :: Hs) rfl ?_
          refine C_reg ?_
          refine p1 rfl ?_
          refine q1 rfl (D_add rfl rfl rfl (r := ((k + 1 : Nat) : Int)) (by omega) (by omega)) ?_
          refine p1 rfl ?_
          refine D_end ?_
          refine x_then ?_
          refine D_eq 0 rfl (show (fndG b (suppOf b) m y2 (flT b (suppOf b) m r0.In k l) : (List Int)) = flT b (suppOf b) m r0.In (k + 1) l from by exact flT_step hy2) ?_
          refine fun ac w' hf hs => ⟨_, ?_, k + 1, v21, ?_, rfl, hf.weak ⟨rfl, rfl, rfl, rfl, trivial⟩, hs.fd [0, 1] 0 rfl⟩
          · omega
          · first | assumption | omega | simp
        · have pr17 : ¬ (((k : Nat) : Int) : Int) < ((r0.In.length : Nat) : Int) := of_decide_eq_false h17
          refine C_exit ?_
          refine x_then_exit ?_
          refine x_then_exit ?_
          refine x_blk_eq ?_
          refine x_then ?_
          refine C_seq ?_
          refine C_reg ?_
          refine p1 rfl <| p1 rfl ?_
          refine li rfl (D_bs s_25 y_3 rfl (by decide) (by decide) rfl rfl rfl rfl rfl rfl fun g22 => ?_)
          refine D_fi (suppOf b x) ?_
          refine D_fd [1, 1, 3] 0 rfl ?_
          refine li rfl (D_ap s_25 y_3 rfl (by decide) rfl rfl rfl rfl rfl rfl (by first | omega | (simp; omega)) (by first | omega | (simp; omega)) fun v23 => ?_)
          refine p1 rfl ?_
          refine D_end ?_
          refine x_then ?_
          refine D_weak [(6, v23)] ⟨rfl, trivial⟩ ?_
          refine D_H (ov [v23] ((flT b (suppOf b) m r0.In k l) ++ [(suppOf b x)] : (List Int)) :: bx g5 [(.int .i64 b.Nodes), u1] :: Hs) rfl ?_
          refine C_ret ?_
          refine D_eq 0 rfl (show ((flT b (suppOf b) m r0.In k l) ++ [(suppOf b x)] : List Int) = fndG b (suppOf b) f x l from by exact fnd_go hm (by omega) (by assumption) hr0 (by omega)) ?_
          exact R_1 rfl rfl fun w' hs => ⟨_, rfl, hs.fd [0, 1] 1 rfl⟩
theorem spec_l11Found_nil (f : Nat) (w : World) (c_b : List Value) (b : Beliefs) (x : Int)  (h_b : Gd.rd w c_b b) (hfu : atZ (roundsOf b) x.toNat < f) (hg : Good b ([] : List Int)) (hrl : b.Reasons.length ≤ 1048576) : Calls Try.prog 58 [(.agg c_b.toArray), (.int .i64 x), (.slice none 0 0)].toArray w (Res w (fndG b (suppOf b) f x ([] : List Int) : List Int)) := (spec_l11Found f w [] w c_b b x (.slice none 0 0) [] h_b hfu hg hrl mv_nil).mono fun _ _ h => mv_res h
end Go.Sy.Belc
