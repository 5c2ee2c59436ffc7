/-
  Contracts of functions of the program, walked (printed by a program of ours).
  Conditions: those that each theorem states.
-/
import Derived.Test.YtkdghbglefhcjaaBelb
import Derived.Test.YtkdghbglefhcjaaFound
set_option linter.unusedVariables false
set_option maxRecDepth 20000
namespace Go.Sy.Belc
open Go Go.RowKit Go.Proofs Go.Sy
theorem mixed : Try.prog.follows .mixedOrders = true := by kernel_rfl
theorem a_26 : aggTy Try.prog 26 = some 2 := by kernel_rfl
theorem b_66 : hasBody Try.prog 66 = true := by kernel_rfl
theorem b_23 : hasBody Try.prog 23 = true := by kernel_rfl
theorem f_26_1 : fieldOff Try.prog 26 1 = some 1 := by kernel_rfl
theorem o_24 : oneTy Try.prog 24 = true := by kernel_rfl
theorem s_24 : sliceTy Try.prog 24 = some (31, 3, 56) := by kernel_rfl
theorem f_31_1 : fieldOff Try.prog 31 1 = some 1 := by kernel_rfl
theorem o_27 : oneTy Try.prog 27 = true := by kernel_rfl
theorem s_27 : sliceTy Try.prog 27 = some (3, 1, 8) := by kernel_rfl
theorem o_3 : oneTy Try.prog 3 = true := by kernel_rfl
theorem b_51 : hasBody Try.prog 51 = true := by kernel_rfl
theorem y_3 : zeroTy Try.prog 3 = some (.int .i64 0) := by kernel_rfl
open Go.Sy.Bel1 Go.Sy.Bel2 Go.Sy.Bel3 Go.Sy.Bel4 Go.Sy.Bel5 Go.Sy.Bel6 Go.Sy.Bel7 Go.Sy.Bel8 Go.Sy.Bel9 Go.Sy.Belb
theorem impl_foundation (f : Nat) : ∀ (w0 : World) (Hs : List Chunk) (w : World) (c_b : List Value) (b : Beliefs) (v_rounds : Value) (rounds : (List Int)) (x : Int) (v_l : Value) (l : (List Int)) (h_b : Gd.rd w0 c_b b) (h_rounds : Gd.rd w0 [v_rounds] rounds) (ho : okB b = true) (hl : rounds.length = b.Nodes.toNat) (hfu : atZ rounds x.toNat < f) (hg : Good b l) (hrl : b.Reasons.length ≤ 1048576) (hst : St w0 (ov [v_l] (l : List Int) :: Hs) w), Calls Try.prog 51 [(.agg c_b.toArray), v_rounds, (.int .i64 x), v_l].toArray w (fun e w' => ∃ u, e = .returned u ∧ St w0 (ov [u] (fndG b (suppL b rounds) f x l : List Int) :: Hs) w') := by
  induction f using Nat.strongRecOn with
  | _ f ih =>
  intro w0 Hs w c_b b v_rounds rounds x v_l l h_b h_rounds ho hl hfu hg hrl hst
  obtain ⟨u1, rfl, hu2⟩ := open_Beliefs h_b
  have hm3 := rd_max hu2
  have hm4 := rd_max h_rounds
  have hm5 := rd_max (rd_own (k := 0) hst rfl)
  have hsp := spL_ok b rounds
  have hgl0 := good_len hg
  refine enterS 45 Try.func51 rfl rfl rfl hst ?_
  refine C_seq ?_
  refine C_reg ?_
  refine li rfl (D_box rfl rfl rfl rfl rfl fun g6 => ?_)
  refine p1 rfl ?_
  refine D_end ?_
  refine x_then ?_
  refine D_H (bx g6 [(.int .i64 b.Nodes), u1] :: ov [v_l] (l : (List Int)) :: Hs) rfl ?_
  refine C_seq ?_
  refine C_reg ?_
  refine q1 rfl (lbw 0 a_26 rfl rfl rfl) ?_
  refine p1 rfl <| p1 rfl ?_
  refine li rfl (cv b_66 rfl rfl rfl rfl (fun w' hs => (impl_support w' [(.int .i64 b.Nodes), u1] b v_rounds rounds x (rd_at hs h_b) (rd_at hs h_rounds) (by first | assumption | omega | (unfold szm at *; split at * <;> omega)) (by first | assumption | omega | (unfold szm at *; split at * <;> omega)))) ?_)
  refine p1 rfl ?_
  refine D_end ?_
  refine x_then ?_
  refine C_seq ?_
  refine C_seq ?_
  refine C_reg ?_
  refine p1 rfl <| p1 rfl <| p1 rfl ?_
  refine gs 18 rfl rfl (fun h7 => ?_) (fun h7 => ?_)
  · have pr7 : ((suppL b rounds x) : Int) < 0 := of_decide_eq_true h7
    refine n1 rfl ?_
    refine n1 rfl ?_
    refine n1 rfl ?_
    refine p1 rfl ?_
    refine D_end ?_
    refine x_then ?_
    refine C_t rfl ?_
    refine C_seq ?_
    refine C_reg ?_
    refine p1 rfl <| p1 rfl ?_
    refine D_end ?_
    refine x_then ?_
    refine D_weak [(8, v_l)] ⟨rfl, trivial⟩ ?_
    refine C_ret ?_
    refine x_then_ret ?_
    refine D_eq 1 rfl (show (l : List Int) = fndG b (suppL b rounds) f x l from by exact fnd_stop (.inl (by omega))) ?_
    exact R_1 rfl rfl fun w' hs => ⟨_, rfl, hs.fd [] 1 rfl⟩
  · have pr7 : ¬ ((suppL b rounds x) : Int) < 0 := of_decide_eq_false h7
    refine p1 rfl <| p1 rfl ?_
    refine li rfl (cv b_23 rfl rfl rfl rfl (fun w' hs => (impl_hasInt w' v_l l (suppL b rounds x) (rd_own (k := 1) hs rfl))) ?_)
    refine p1 rfl ?_
    refine D_end ?_
    refine x_then ?_
    refine C_if _ rfl (fun h8 => ?_) (fun h8 => ?_)
    · refine C_seq ?_
      refine C_reg ?_
      refine p1 rfl <| p1 rfl ?_
      refine D_end ?_
      refine x_then ?_
      refine D_weak [(8, v_l)] ⟨rfl, trivial⟩ ?_
      refine C_ret ?_
      refine x_then_ret ?_
      refine D_eq 1 rfl (show (l : List Int) = fndG b (suppL b rounds) f x l from by exact fnd_stop (.inr (by assumption))) ?_
      exact R_1 rfl rfl fun w' hs => ⟨_, rfl, hs.fd [] 1 rfl⟩
    · refine C_skip ?_
      refine x_then ?_
      refine C_seq ?_
      refine C_seq ?_
      obtain ⟨kk, rr, hk1, hk2, hk3, hx0, hx1, hx2⟩ := (hsp x).resolve_left (by omega)
      have hkl := lt_of_some hk2
      obtain ⟨m, hm⟩ : ∃ m, f = m + 1 := ⟨f - 1, by omega⟩
      obtain ⟨r0, hr0⟩ := some_of_lt (l := b.Reasons) (i := ((suppL b rounds x).toNat)) (by omega)
      have hrr : r0 = rr := by rw [hk1] at hr0; exact Option.some.inj (hr0.symm.trans hk2)
      obtain ⟨es9, at10, hr11⟩ := rd_elem (n := 3) rfl hu2 hr0
      obtain ⟨u12, u14, rfl, hu13, hu15⟩ := open_Reason hr11
      have hm16 := rd_max hu13
      have hm17 := rd_max hu15
      refine C_reg ?_
      refine q1 rfl (D_fb f_26_1 rfl rfl (q := 1) rfl) ?_
      refine q1 rfl (lb 0 o_24 rfl rfl rfl rfl) ?_
      refine p1 rfl ?_
      refine q1 rfl (D_ix (l := b.Reasons) (j := ((suppL b rounds x).toNat)) s_24 rfl rfl rfl (fun w' hs => (rd_at hs hu2)) (Int.toNat_of_nonneg (by omega)).symm (lt_of_some hr0)) ?_
      refine q1 rfl (D_fa f_31_1 rfl rfl) ?_
      refine q1 rfl (lr o_27 rfl rfl at10 rfl) ?_
      refine q1 rfl (D_len s_27 rfl rfl (rd_sl hu13)) ?_
      refine p1 rfl ?_
      refine D_end ?_
      refine x_then ?_
      refine D_weak [(1, v_rounds), (3, v_l), (4, (.pointer (some ⟨g6, 0, none⟩))), (9, (.int .i64 (suppL b rounds x))), (29, u12), (30, (.int .i64 ((r0.In.length : Nat) : Int))), (31, (.int .i64 0))] ⟨rfl, rfl, rfl, rfl, rfl, rfl, rfl, trivial⟩ ?_
      refine C_block ?_
      refine C_loop (fun m_ ac w' => ∃ (k : Nat), ∃ (vl : Value), (k ≤ r0.In.length) ∧ m_ = r0.In.length - k ∧ Fits ac 45 [(1, v_rounds), (3, vl), (4, (.pointer (some ⟨g6, 0, none⟩))), (9, (.int .i64 (suppL b rounds x))), (29, u12), (30, (.int .i64 ((r0.In.length : Nat) : Int))), (31, (.int .i64 ((k : Nat) : Int)))] ∧ St w0 (bx g6 [(.int .i64 b.Nodes), u1] :: ov [vl] (flT b (suppL b rounds) m r0.In k l : (List Int)) :: Hs) w') ?_ ?_
      · refine D_eq 1 rfl (show (l : (List Int)) = flT b (suppL b rounds) m r0.In 0 l from by rfl) ?_
        refine fun ac w' hf hs => ⟨_, 0, v_l, ?_, rfl, hf.weak ⟨rfl, rfl, rfl, rfl, rfl, rfl, rfl, trivial⟩, hs⟩
        · first | assumption | omega | simp
      · rintro m_ ac w' ⟨k, vl, hk, rfl, hf, hs⟩
        refine D.use ?_ hf hs
        clear hf hs ac w'
        have hgk := good_flT hsp m r0.In k hg
        have hgl := good_len hgk
        refine C_seq ?_
        refine C_reg ?_
        refine p1 rfl ?_
        refine D_end ?_
        refine x_then ?_
        refine D_H (bx g6 [(.int .i64 b.Nodes), u1] :: ov [vl] (flT b (suppL b rounds) m r0.In k l : (List Int)) :: Hs) rfl ?_
        refine C_seq ?_
        refine C_if _ rfl (fun h18 => ?_) (fun h18 => ?_)
        · have pr18 : (((k : Nat) : Int) : Int) < ((r0.In.length : Nat) : Int) := of_decide_eq_true h18
          refine C_skip ?_
          refine x_then ?_
          refine C_seq ?_
          refine C_block ?_
          refine C_seq ?_
          refine C_reg ?_
          obtain ⟨y2, hy2⟩ := some_of_lt (l := r0.In) (i := k) (by omega)
          have hyi := hasFor_in hk3 (hrr ▸ List.mem_of_getElem? hy2)
          obtain ⟨es19, at20, hr21⟩ := rd_elem (n := 1) rfl hu13 hy2
          obtain rfl : es19 = [.int .i64 y2] := hr21
          refine q1 rfl (D_ix (l := r0.In) (j := k) s_27 rfl rfl rfl (fun w' hs => (rd_at hs hu13)) rfl (lt_of_some hy2)) ?_
          refine q1 rfl (lr0 o_3 rfl rfl at20 rfl) ?_
          refine p1 rfl ?_
          refine D_end ?_
          refine x_then ?_
          refine C_reg ?_
          refine q1 rfl (lbw 0 a_26 rfl rfl rfl) ?_
          refine p1 rfl <| p1 rfl <| p1 rfl ?_
          refine D_fd [1] 0 rfl ?_
          refine li rfl (cmv b_51 rfl rfl rfl rfl (fun w' hs => ih m (by omega) _ _ w' [(.int .i64 b.Nodes), u1] b v_rounds rounds y2 vl (flT b (suppL b rounds) m r0.In k l) h_b h_rounds (by first | assumption | omega) (by first | assumption | omega) (by omega) hgk (by first | assumption | omega) hs) fun v22 => ?_)
          refine p1 rfl ?_
          refine D_end ?_
          refine x_blk ?_
          refine x_then ?_
          refine D_H (ov [v22] (fndG b (suppL b rounds) m y2 (flT b (suppL b rounds) m r0.In k l) : (List Int)) :: bx g6 [(.int .i64 b.Nodes), u1] :: Hs) rfl ?_
          refine C_reg ?_
          refine q1 rfl (D_add rfl rfl rfl (r := ((k + 1 : Nat) : Int)) (by omega) (by omega)) ?_
          refine p1 rfl ?_
          refine D_end ?_
          refine x_then ?_
          refine D_eq 0 rfl (show (fndG b (suppL b rounds) m y2 (flT b (suppL b rounds) m r0.In k l) : (List Int)) = flT b (suppL b rounds) m r0.In (k + 1) l from by exact flT_step hy2) ?_
          refine fun ac w' hf hs => ⟨_, ?_, k + 1, v22, ?_, rfl, hf.weak ⟨rfl, rfl, rfl, rfl, rfl, rfl, rfl, trivial⟩, hs.fd [0, 1] 0 rfl⟩
          · omega
          · first | assumption | omega | simp
        · have pr18 : ¬ (((k : Nat) : Int) : Int) < ((r0.In.length : Nat) : Int) := of_decide_eq_false h18
          refine C_exit ?_
          refine x_then_exit ?_
          refine x_then_exit ?_
          refine x_blk_eq ?_
          refine x_then ?_
          refine C_seq ?_
          refine C_reg ?_
          refine p1 rfl <| p1 rfl ?_
          refine li rfl (D_bs s_27 y_3 rfl (by decide) (by decide) rfl rfl rfl rfl rfl rfl fun g23 => ?_)
          refine D_fi (suppL b rounds x) ?_
          refine D_fd [1, 1, 3] 0 rfl ?_
          refine li rfl (D_ap s_27 y_3 rfl (by decide) rfl rfl rfl rfl rfl rfl (by first | omega | (simp; omega)) (by first | omega | (simp; omega)) fun v24 => ?_)
          refine p1 rfl ?_
          refine D_end ?_
          refine x_then ?_
          refine D_H (ov [v24] ((flT b (suppL b rounds) m r0.In k l) ++ [(suppL b rounds x)] : (List Int)) :: bx g6 [(.int .i64 b.Nodes), u1] :: Hs) rfl ?_
          refine C_ret ?_
          refine D_eq 0 rfl (show ((flT b (suppL b rounds) m r0.In k l) ++ [(suppL b rounds x)] : List Int) = fndG b (suppL b rounds) f x l from by exact fnd_go hm (by omega) (by assumption) hr0 (by omega)) ?_
          exact R_1 rfl rfl fun w' hs => ⟨_, rfl, hs.fd [0, 1] 1 rfl⟩
theorem impl_foundation_nil (f : Nat) (w : World) (c_b : List Value) (b : Beliefs) (v_rounds : Value) (rounds : (List Int)) (x : Int)  (h_b : Gd.rd w c_b b) (h_rounds : Gd.rd w [v_rounds] rounds) (ho : okB b = true) (hl : rounds.length = b.Nodes.toNat) (hfu : atZ rounds x.toNat < f) (hg : Good b ([] : List Int)) (hrl : b.Reasons.length ≤ 1048576) : Calls Try.prog 51 [(.agg c_b.toArray), v_rounds, (.int .i64 x), (.slice none 0 0)].toArray w (Res w (fndG b (suppL b rounds) f x ([] : List Int) : List Int)) := (impl_foundation f w [] w c_b b v_rounds rounds x (.slice none 0 0) [] h_b h_rounds ho hl hfu hg hrl mv_nil).mono fun _ _ h => mv_res h
end Go.Sy.Belc
