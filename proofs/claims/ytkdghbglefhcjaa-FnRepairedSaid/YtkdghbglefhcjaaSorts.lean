/-
  Contracts of functions of the program, walked (printed by a program of ours).
  Conditions: those that each theorem states.
-/
import Derived.Test.YtkdghbglefhcjaaProg
import Derived.Test.YtkdghbglefhcjaaTypes
import Derived.Test.YtkdghbglefhcjaaBase
import Derived.Test.YtkdghbglefhcjaaSrt
set_option linter.unusedVariables false
set_option maxRecDepth 20000
namespace Go.Sy.Sorts
open Go Go.RowKit Go.Proofs Go.Sy
theorem mixed : Try.prog.follows .mixedOrders = true := by kernel_rfl
theorem f_77_1 : fieldOff Try.prog 77 1 = some 1 := by kernel_rfl
theorem o_73 : oneTy Try.prog 73 = true := by kernel_rfl
theorem a_77 : aggTy Try.prog 77 = some 2 := by kernel_rfl
theorem b_86 : hasBody Try.prog 86 = true := by kernel_rfl
theorem f_77_0 : fieldOff Try.prog 77 0 = some 0 := by kernel_rfl
theorem o_53 : oneTy Try.prog 53 = true := by kernel_rfl
theorem uu_94 : Try.prog.underlying 94 = some (.int .u64) := by kernel_rfl
theorem ui_3 : Try.prog.underlying 3 = some (.int .i64) := by kernel_rfl
theorem b_83 : hasBody Try.prog 83 = true := by kernel_rfl
theorem b_79 : hasBody Try.prog 79 = true := by kernel_rfl
theorem b_78 : hasBody Try.prog 78 = true := by kernel_rfl
theorem y_71 : zeroTy Try.prog 71 = some (.agg #[(.pointer none), (.pointer none), (.int .u64 0)]) := by kernel_rfl
theorem z_71 : sizeTy Try.prog 71 = some 3 := by kernel_rfl
theorem a_71 : aggTy Try.prog 71 = some 3 := by kernel_rfl
theorem b_55 : hasBody Try.prog 55 = true := by kernel_rfl
theorem sort_swapRange_func {α : Type} [Inhabited α] {C : List α → Chunk} {lt : α → α → Bool} {d0 : List α} {lf sf : Nat} {lc sc : List Value} {w0 : World} (S : Srt Try.prog C lt d0 lf lc sf sc w0) (ho : Ordr lt) (hmx : d0.length ≤ 2305843009213693951) (Hs : List Chunk) (w : World) (d : List α) (hp : List.Perm d d0) (a : Nat) (b : Nat) (n : Nat) (hab : a + n ≤ b) (hbn : b + n ≤ d0.length) (hst : St w0 (C d :: Hs) w) : Calls Try.prog 86 [(.agg #[(.func (.func lf) #[] lc.toArray), (.func (.func sf) #[] sc.toArray)]), (.int .i64 ((a : Nat) : Int)), (.int .i64 ((b : Nat) : Int)), (.int .i64 ((n : Nat) : Int))].toArray w (fun e_ w' => e_ = .returned (.tuple #[]) ∧ ∃ e, (SwR d e a b n) ∧ St w0 (C e :: Hs) w') := by
  have hdl : d.length = d0.length := hp.length_eq
  refine enterS 23 Try.func86 rfl rfl rfl hst ?_
  refine C_seq ?_
  refine C_reg ?_
  refine li rfl (D_box rfl rfl rfl rfl rfl fun g1 => ?_)
  refine D_end ?_
  refine x_then ?_
  refine D_H (bx g1 [(.func (.func lf) #[] lc.toArray), (.func (.func sf) #[] sc.toArray)] :: C d :: Hs) rfl ?_
  refine C_seq ?_
  refine C_reg ?_
  refine p1 rfl ?_
  refine D_end ?_
  refine x_then ?_
  refine C_block ?_
  refine C_loop (fun m_ ac w' => ∃ (i : Nat), ∃ (e : List α), (i ≤ n) ∧ (SwR d e a b i) ∧ m_ = n - i ∧ Fits ac 23 [(1, (.int .i64 ((a : Nat) : Int))), (2, (.int .i64 ((b : Nat) : Int))), (3, (.int .i64 ((n : Nat) : Int))), (4, (.pointer (some ⟨g1, 0, none⟩))), (8, (.int .i64 ((i : Nat) : Int)))] ∧ St w0 (bx g1 [(.func (.func lf) #[] lc.toArray), (.func (.func sf) #[] sc.toArray)] :: C e :: Hs) w') ?_ ?_
  · refine fun ac w' hf hs => ⟨_, 0, d, ?_, ?_, rfl, hf.weak ⟨rfl, rfl, rfl, rfl, rfl, trivial⟩, hs⟩
    · first | assumption | omega | simp
    · exact swr_zero _ _ _
  · rintro m_ ac w' ⟨i, e, hi, hw, rfl, hf, hs⟩
    refine D.use ?_ hf hs
    clear hf hs ac w'
    refine C_seq ?_
    refine C_seq ?_
    refine C_reg ?_
    refine p1 rfl <| p1 rfl <| p1 rfl ?_
    refine D_end ?_
    refine x_then ?_
    refine D_H (bx g1 [(.func (.func lf) #[] lc.toArray), (.func (.func sf) #[] sc.toArray)] :: C e :: Hs) rfl ?_
    refine C_if _ rfl (fun h2 => ?_) (fun h2 => ?_)
    · have pr2 : (((i : Nat) : Int) : Int) < ((n : Nat) : Int) := of_decide_eq_true h2
      refine C_skip ?_
      refine x_then ?_
      refine C_seq ?_
      refine C_block ?_
      refine C_reg ?_
      refine q1 rfl (D_fb f_77_1 rfl rfl (q := 1) rfl) ?_
      refine q1 rfl (lb 0 o_73 rfl rfl rfl rfl) ?_
      refine p1 rfl <| p1 rfl ?_
      refine q1 rfl (D_add rfl rfl rfl (r := ((a + i : Nat) : Int)) (by omega) (by omega)) ?_
      refine p1 rfl <| p1 rfl ?_
      refine q1 rfl (D_add rfl rfl rfl (r := ((b + i : Nat) : Int)) (by omega) (by omega)) ?_
      refine D_fd [1] 0 rfl ?_
      refine li rfl (cswap S (hw.2.1.trans hp) (i := a + i) (j := b + i) rfl rfl rfl rfl rfl (by omega) (by omega) (by omega) ?_)
      refine D_end ?_
      refine x_blk ?_
      refine x_then ?_
      refine D_H (C (swp e (a + i) (b + i)) :: bx g1 [(.func (.func lf) #[] lc.toArray), (.func (.func sf) #[] sc.toArray)] :: Hs) rfl ?_
      refine C_reg ?_
      refine p1 rfl ?_
      refine q1 rfl (D_add rfl rfl rfl (r := ((i + 1 : Nat) : Int)) (by omega) (by omega)) ?_
      refine p1 rfl ?_
      refine D_end ?_
      refine x_then ?_
      refine fun ac w' hf hs => ⟨_, ?_, i + 1, swp e (a + i) (b + i), ?_, ?_, rfl, hf.weak ⟨rfl, rfl, rfl, rfl, rfl, trivial⟩, hs.fd [0, 1] 0 rfl⟩
      · omega
      · first | assumption | omega | simp
      · exact swr_step hw (by omega) hab (by omega)
    · have pr2 : ¬ (((i : Nat) : Int) : Int) < ((n : Nat) : Int) := of_decide_eq_false h2
      refine C_exit ?_
      refine x_then_exit ?_
      refine x_then_exit ?_
      refine x_blk_eq ?_
      refine R_0n rfl fun w' hs => ⟨rfl, e, ?_, hs.fd [] 1 rfl⟩
      rw [show n = i from by omega]; exact hw

theorem sort_rotate_func {α : Type} [Inhabited α] {C : List α → Chunk} {lt : α → α → Bool} {d0 : List α} {lf sf : Nat} {lc sc : List Value} {w0 : World} (S : Srt Try.prog C lt d0 lf lc sf sc w0) (ho : Ordr lt) (hmx : d0.length ≤ 2305843009213693951) (Hs : List Chunk) (w : World) (d : List α) (hp : List.Perm d d0) (a : Nat) (m : Nat) (b : Nat) (ham : a < m) (hmb : m < b) (hb : b ≤ d0.length) (hst : St w0 (C d :: Hs) w) : Calls Try.prog 83 [(.agg #[(.func (.func lf) #[] lc.toArray), (.func (.func sf) #[] sc.toArray)]), (.int .i64 ((a : Nat) : Int)), (.int .i64 ((m : Nat) : Int)), (.int .i64 ((b : Nat) : Int))].toArray w (fun e_ w' => e_ = .returned (.tuple #[]) ∧ ∃ e, (Rot d e a m b) ∧ St w0 (C e :: Hs) w') := by
  have hdl : d.length = d0.length := hp.length_eq
  refine enterS 53 Try.func83 rfl rfl rfl hst ?_
  refine C_seq ?_
  refine C_reg ?_
  refine li rfl (D_box rfl rfl rfl rfl rfl fun g1 => ?_)
  refine D_end ?_
  refine x_then ?_
  refine D_H (bx g1 [(.func (.func lf) #[] lc.toArray), (.func (.func sf) #[] sc.toArray)] :: C d :: Hs) rfl ?_
  refine C_seq ?_
  refine C_reg ?_
  refine p1 rfl <| p1 rfl ?_
  refine q1 rfl (D_sub rfl rfl rfl (r := ((m - a : Nat) : Int)) (by omega) (by omega)) ?_
  refine p1 rfl ?_
  refine D_end ?_
  refine x_then ?_
  refine C_seq ?_
  refine C_reg ?_
  refine p1 rfl <| p1 rfl ?_
  refine q1 rfl (D_sub rfl rfl rfl (r := ((b - m : Nat) : Int)) (by omega) (by omega)) ?_
  refine p1 rfl ?_
  refine D_end ?_
  refine x_then ?_
  refine C_seq ?_
  refine C_block ?_
  refine C_loop (fun m_ ac w' => ∃ (i : Nat), ∃ (j : Nat), ∃ (e : List α), (0 < i) ∧ (0 < j) ∧ (i ≤ m) ∧ (m + j ≤ b) ∧ (List.Perm e d) ∧ (∀ f, Rot e f (m - i) m (m + j) → Rot d f a m b) ∧ m_ = i + j ∧ Fits ac 53 [(2, (.int .i64 ((m : Nat) : Int))), (4, (.pointer (some ⟨g1, 0, none⟩))), (8, (.int .i64 ((i : Nat) : Int))), (9, (.int .i64 ((j : Nat) : Int)))] ∧ St w0 (bx g1 [(.func (.func lf) #[] lc.toArray), (.func (.func sf) #[] sc.toArray)] :: C e :: Hs) w') ?_ ?_
  · refine fun ac w' hf hs => ⟨_, m - a, b - m, d, ?_, ?_, ?_, ?_, ?_, ?_, rfl, hf.weak ⟨rfl, rfl, rfl, rfl, trivial⟩, hs⟩
    · first | assumption | omega | simp
    · first | assumption | omega | simp
    · first | assumption | omega | simp
    · first | assumption | omega | simp
    · exact List.Perm.refl _
    · intro f hf; rwa [show m - (m - a) = a from by omega, show m + (b - m) = b from by omega] at hf
  · rintro m_ ac w' ⟨i, j, e, h0, h1, hi, hj, hpe, hr, rfl, hf, hs⟩
    refine D.use ?_ hf hs
    clear hf hs ac w'
    refine C_seq ?_
    refine C_seq ?_
    refine C_reg ?_
    refine p1 rfl <| p1 rfl <| p1 rfl ?_
    refine D_end ?_
    refine x_then ?_
    refine D_H (bx g1 [(.func (.func lf) #[] lc.toArray), (.func (.func sf) #[] sc.toArray)] :: C e :: Hs) rfl ?_
    refine C_if _ rfl (fun h2 => ?_) (fun h2 => ?_)
    · have pr2 : (((i : Nat) : Int) : Int) ≠ ((j : Nat) : Int) := bne_iff_ne.1 h2
      refine C_skip ?_
      refine x_then ?_
      refine C_block ?_
      refine C_seq ?_
      refine C_reg ?_
      refine p1 rfl <| p1 rfl <| p1 rfl ?_
      refine D_end ?_
      refine x_then ?_
      refine C_if _ rfl (fun h3 => ?_) (fun h3 => ?_)
      · have pr3 : (((j : Nat) : Int) : Int) < ((i : Nat) : Int) := of_decide_eq_true h3
        refine C_seq ?_
        refine C_reg ?_
        refine q1 rfl (lbw 0 a_77 rfl rfl rfl) ?_
        refine p1 rfl <| p1 rfl ?_
        refine q1 rfl (D_sub rfl rfl rfl (r := ((m - i : Nat) : Int)) (by omega) (by omega)) ?_
        refine p1 rfl <| p1 rfl ?_
        refine D_fd [1] 0 rfl ?_
        refine li rfl (csrt b_86 rfl rfl rfl rfl (fun w' hs => sort_swapRange_func S ho hmx _ w' e (hpe.trans hp) (m - i) m j (by first | assumption | omega) (by first | assumption | omega) hs) fun e2 hw2 => ?_)
        refine D_end ?_
        refine x_then ?_
        refine D_H (C e2 :: bx g1 [(.func (.func lf) #[] lc.toArray), (.func (.func sf) #[] sc.toArray)] :: Hs) rfl ?_
        refine C_reg ?_
        refine p1 rfl <| p1 rfl ?_
        refine q1 rfl (D_sub rfl rfl rfl (r := ((i - j : Nat) : Int)) (by omega) (by omega)) ?_
        refine p1 rfl ?_
        refine D_end ?_
        refine x_blk ?_
        refine x_then ?_
        refine fun ac w' hf hs => ⟨_, ?_, i - j, j, e2, ?_, ?_, ?_, ?_, ?_, ?_, rfl, hf.weak ⟨rfl, rfl, rfl, rfl, trivial⟩, hs.fd [0, 1] 0 rfl⟩
        · omega
        · first | assumption | omega | simp
        · first | assumption | omega | simp
        · first | assumption | omega | simp
        · first | assumption | omega | simp
        · exact hw2.2.1.trans hpe
        · intro f hf; first | exact hr f (rot_gt hw2 (by omega) (by omega) hf) | exact hr f (rot_lt hw2 (by omega) (by omega) hf)
      · have pr3 : ¬ (((j : Nat) : Int) : Int) < ((i : Nat) : Int) := of_decide_eq_false h3
        refine C_seq ?_
        refine C_reg ?_
        refine q1 rfl (lbw 0 a_77 rfl rfl rfl) ?_
        refine p1 rfl <| p1 rfl ?_
        refine q1 rfl (D_sub rfl rfl rfl (r := ((m - i : Nat) : Int)) (by omega) (by omega)) ?_
        refine p1 rfl <| p1 rfl ?_
        refine q1 rfl (D_add rfl rfl rfl (r := ((m + j : Nat) : Int)) (by omega) (by omega)) ?_
        refine p1 rfl ?_
        refine q1 rfl (D_sub rfl rfl rfl (r := ((m + j - i : Nat) : Int)) (by omega) (by omega)) ?_
        refine p1 rfl ?_
        refine D_fd [1] 0 rfl ?_
        refine li rfl (csrt b_86 rfl rfl rfl rfl (fun w' hs => sort_swapRange_func S ho hmx _ w' e (hpe.trans hp) (m - i) (m + j - i) i (by first | assumption | omega) (by first | assumption | omega) hs) fun e2 hw2 => ?_)
        refine D_end ?_
        refine x_then ?_
        refine D_weak [(2, (.int .i64 ((m : Nat) : Int))), (4, (.pointer (some ⟨g1, 0, none⟩))), (8, (.int .i64 ((i : Nat) : Int))), (9, (.int .i64 ((j : Nat) : Int)))] ⟨rfl, rfl, rfl, rfl, trivial⟩ ?_
        refine D_H (C e2 :: bx g1 [(.func (.func lf) #[] lc.toArray), (.func (.func sf) #[] sc.toArray)] :: Hs) rfl ?_
        refine C_reg ?_
        refine p1 rfl <| p1 rfl ?_
        refine q1 rfl (D_sub rfl rfl rfl (r := ((j - i : Nat) : Int)) (by omega) (by omega)) ?_
        refine p1 rfl ?_
        refine D_end ?_
        refine x_blk ?_
        refine x_then ?_
        refine fun ac w' hf hs => ⟨_, ?_, i, j - i, e2, ?_, ?_, ?_, ?_, ?_, ?_, rfl, hf.weak ⟨rfl, rfl, rfl, rfl, trivial⟩, hs.fd [0, 1] 0 rfl⟩
        · omega
        · first | assumption | omega | simp
        · first | assumption | omega | simp
        · first | assumption | omega | simp
        · first | assumption | omega | simp
        · exact hw2.2.1.trans hpe
        · intro f hf; first | exact hr f (rot_gt hw2 (by omega) (by omega) hf) | exact hr f (rot_lt hw2 (by omega) (by omega) hf)
    · have pr2 : (((i : Nat) : Int) : Int) = ((j : Nat) : Int) := eq_of_bne_f h2
      refine C_exit ?_
      refine x_then_exit ?_
      refine x_then_exit ?_
      refine x_blk_eq ?_
      refine x_then ?_
      refine C_reg ?_
      refine q1 rfl (lbw 0 a_77 rfl rfl rfl) ?_
      refine p1 rfl <| p1 rfl ?_
      refine q1 rfl (D_sub rfl rfl rfl (r := ((m - i : Nat) : Int)) (by omega) (by omega)) ?_
      refine p1 rfl <| p1 rfl ?_
      refine D_fd [1] 0 rfl ?_
      refine li rfl (csrt b_86 rfl rfl rfl rfl (fun w' hs => sort_swapRange_func S ho hmx _ w' e (hpe.trans hp) (m - i) m i (by first | assumption | omega) (by first | assumption | omega) hs) fun e3 hw3 => ?_)
      refine D_end ?_
      refine R_0n rfl fun w' hs => ⟨rfl, e3, ?_, hs.fd [0, 1] 1 rfl⟩
      exact hr _ (by have hq := rot_eq hw3 (by omega); rwa [show m + i = m + j from by omega] at hq)

theorem sort_insertionSort_func {α : Type} [Inhabited α] {C : List α → Chunk} {lt : α → α → Bool} {d0 : List α} {lf sf : Nat} {lc sc : List Value} {w0 : World} (S : Srt Try.prog C lt d0 lf lc sf sc w0) (ho : Ordr lt) (hmx : d0.length ≤ 2305843009213693951) (Hs : List Chunk) (w : World) (d : List α) (hp : List.Perm d d0) (a : Nat) (b : Nat) (hab : a ≤ b) (hb : b ≤ d0.length) (hst : St w0 (C d :: Hs) w) : Calls Try.prog 78 [(.agg #[(.func (.func lf) #[] lc.toArray), (.func (.func sf) #[] sc.toArray)]), (.int .i64 ((a : Nat) : Int)), (.int .i64 ((b : Nat) : Int))].toArray w (fun e_ w' => e_ = .returned (.tuple #[]) ∧ ∃ e, (Chg d e a b ∧ Srd lt e a b) ∧ St w0 (C e :: Hs) w') := by
  have hdl : d.length = d0.length := hp.length_eq
  refine enterS 35 Try.func78 rfl rfl rfl hst ?_
  refine C_seq ?_
  refine C_reg ?_
  refine li rfl (D_box rfl rfl rfl rfl rfl fun g1 => ?_)
  refine D_end ?_
  refine x_then ?_
  refine D_H (bx g1 [(.func (.func lf) #[] lc.toArray), (.func (.func sf) #[] sc.toArray)] :: C d :: Hs) rfl ?_
  refine C_seq ?_
  refine C_reg ?_
  refine p1 rfl ?_
  refine q1 rfl (D_add rfl rfl rfl (r := ((a + 1 : Nat) : Int)) (by omega) (by omega)) ?_
  refine p1 rfl ?_
  refine D_end ?_
  refine x_then ?_
  refine C_block ?_
  refine C_loop (fun m_ ac w' => ∃ (i : Nat), ∃ (e : List α), (a + 1 ≤ i) ∧ (i ≤ b ∨ i = a + 1) ∧ (Chg d e a b) ∧ (Srd lt e a i) ∧ m_ = b - i ∧ Fits ac 35 [(1, (.int .i64 ((a : Nat) : Int))), (2, (.int .i64 ((b : Nat) : Int))), (3, (.pointer (some ⟨g1, 0, none⟩))), (6, (.int .i64 ((i : Nat) : Int)))] ∧ St w0 (bx g1 [(.func (.func lf) #[] lc.toArray), (.func (.func sf) #[] sc.toArray)] :: C e :: Hs) w') ?_ ?_
  · refine fun ac w' hf hs => ⟨_, a + 1, d, ?_, ?_, ?_, ?_, rfl, hf.weak ⟨rfl, rfl, rfl, rfl, trivial⟩, hs⟩
    · first | assumption | omega | simp
    · first | assumption | omega | simp
    · exact Chg.refl _ _ _
    · exact srd_one _ _
  · rintro m_ ac w' ⟨i, e, hia, hib, hc, hsr, rfl, hf, hs⟩
    refine D.use ?_ hf hs
    clear hf hs ac w'
    refine C_seq ?_
    refine C_seq ?_
    refine C_reg ?_
    refine p1 rfl <| p1 rfl <| p1 rfl ?_
    refine D_end ?_
    refine x_then ?_
    refine D_H (bx g1 [(.func (.func lf) #[] lc.toArray), (.func (.func sf) #[] sc.toArray)] :: C e :: Hs) rfl ?_
    refine C_if _ rfl (fun h2 => ?_) (fun h2 => ?_)
    · have pr2 : (((i : Nat) : Int) : Int) < ((b : Nat) : Int) := of_decide_eq_true h2
      refine C_skip ?_
      refine x_then ?_
      refine C_seq ?_
      refine C_block ?_
      refine C_seq ?_
      refine C_reg ?_
      refine p1 rfl <| p1 rfl ?_
      refine D_end ?_
      refine x_then ?_
      refine C_block ?_
      refine C_loop (fun m_ ac w' => ∃ (j : Nat), ∃ (e2 : List α), (a ≤ j) ∧ (j ≤ i) ∧ (Chg d e2 a b) ∧ (InsI lt e2 a i j) ∧ m_ = j + 1 ∧ Fits ac 35 [(1, (.int .i64 ((a : Nat) : Int))), (2, (.int .i64 ((b : Nat) : Int))), (3, (.pointer (some ⟨g1, 0, none⟩))), (6, (.int .i64 ((i : Nat) : Int))), (7, (.int .i64 ((j : Nat) : Int)))] ∧ St w0 (bx g1 [(.func (.func lf) #[] lc.toArray), (.func (.func sf) #[] sc.toArray)] :: C e2 :: Hs) w') ?_ ?_
      · refine fun ac w' hf hs => ⟨_, i, e, ?_, ?_, ?_, ?_, rfl, hf.weak ⟨rfl, rfl, rfl, rfl, rfl, trivial⟩, hs⟩
        · first | assumption | omega | simp
        · first | assumption | omega | simp
        · exact hc
        · exact ins_start hsr
      · rintro m_ ac w' ⟨j, e2, haj, hji, hc2, hin, rfl, hf, hs⟩
        refine D.use ?_ hf hs
        clear hf hs ac w'
        refine C_seq ?_
        refine C_seq ?_
        refine C_reg ?_
        refine p1 rfl <| p1 rfl <| p1 rfl <| p1 rfl ?_
        refine gs 19 rfl rfl (fun h3 => ?_) (fun h3 => ?_)
        · have pr3 : (((a : Nat) : Int) : Int) < ((j : Nat) : Int) := of_decide_eq_true h3
          refine q1 rfl (D_fb f_77_0 rfl rfl (q := 0) rfl) ?_
          refine q1 rfl (lb 0 o_53 rfl rfl rfl rfl) ?_
          refine p1 rfl <| p1 rfl ?_
          refine q1 rfl (D_sub rfl rfl rfl (r := ((j - 1 : Nat) : Int)) (by omega) (by omega)) ?_
          refine D_fd [1] 0 rfl ?_
          refine li rfl (cless S (hc2.perm.trans hp) (i := j) (j := j - 1) rfl rfl rfl rfl rfl (by omega) (by omega) ?_)
          refine p1 rfl ?_
          refine D_end ?_
          refine x_then ?_
          refine D_H (C e2 :: bx g1 [(.func (.func lf) #[] lc.toArray), (.func (.func sf) #[] sc.toArray)] :: Hs) rfl ?_
          refine C_if _ rfl (fun h4 => ?_) (fun h4 => ?_)
          · refine C_skip ?_
            refine x_then ?_
            refine C_seq ?_
            refine C_block ?_
            refine C_reg ?_
            refine q1 rfl (D_fb f_77_1 rfl rfl (q := 1) rfl) ?_
            refine q1 rfl (lb 1 o_73 rfl rfl rfl rfl) ?_
            refine p1 rfl <| p1 rfl ?_
            refine q1 rfl (D_sub rfl rfl rfl (r := ((j - 1 : Nat) : Int)) (by omega) (by omega)) ?_
            refine li rfl (cswap S (hc2.perm.trans hp) (i := j) (j := j - 1) rfl rfl rfl rfl rfl (by omega) (by omega) (by omega) ?_)
            refine D_end ?_
            refine x_blk ?_
            refine x_then ?_
            refine D_weak [(1, (.int .i64 ((a : Nat) : Int))), (2, (.int .i64 ((b : Nat) : Int))), (3, (.pointer (some ⟨g1, 0, none⟩))), (6, (.int .i64 ((i : Nat) : Int))), (7, (.int .i64 ((j : Nat) : Int)))] ⟨rfl, rfl, rfl, rfl, rfl, trivial⟩ ?_
            refine D_H (C (swp e2 j (j - 1)) :: bx g1 [(.func (.func lf) #[] lc.toArray), (.func (.func sf) #[] sc.toArray)] :: Hs) rfl ?_
            refine C_reg ?_
            refine p1 rfl ?_
            refine q1 rfl (D_sub rfl rfl rfl (r := ((j - 1 : Nat) : Int)) (by omega) (by omega)) ?_
            refine p1 rfl ?_
            refine D_end ?_
            refine x_then ?_
            refine fun ac w' hf hs => ⟨_, ?_, j - 1, swp e2 j (j - 1), ?_, ?_, ?_, ?_, rfl, hf.weak ⟨rfl, rfl, rfl, rfl, rfl, trivial⟩, hs.fd [0, 1] 0 rfl⟩
            · omega
            · first | assumption | omega | simp
            · first | assumption | omega | simp
            · exact hc2.trans (Chg.swp (by omega) (by omega) (by have := hc2.len; omega))
            · exact ins_step ho hin (by omega) (by omega) (by have := hc2.len; omega) (by assumption)
          · refine C_exit ?_
            refine x_then_exit ?_
            refine x_then_exit ?_
            refine x_blk_eq ?_
            refine x_blk ?_
            refine x_then ?_
            refine C_reg ?_
            refine p1 rfl ?_
            refine q1 rfl (D_add rfl rfl rfl (r := ((i + 1 : Nat) : Int)) (by omega) (by omega)) ?_
            refine p1 rfl ?_
            refine D_end ?_
            refine x_then ?_
            refine fun ac w' hf hs => ⟨_, ?_, i + 1, e2, ?_, ?_, ?_, ?_, rfl, hf.weak ⟨rfl, rfl, rfl, rfl, trivial⟩, hs.fd [0, 1] 0 rfl⟩
            · omega
            · first | assumption | omega | simp
            · first | assumption | omega | simp
            · exact hc2
            · first | exact ins_end1 hin (by omega) | exact ins_end2 ho hin (by omega) (by omega) (by assumption)
        · have pr3 : ¬ (((a : Nat) : Int) : Int) < ((j : Nat) : Int) := of_decide_eq_false h3
          refine n1 rfl ?_
          refine n1 rfl ?_
          refine n1 rfl ?_
          refine n1 rfl ?_
          refine n1 rfl ?_
          refine n1 rfl ?_
          refine p1 rfl ?_
          refine D_end ?_
          refine x_then ?_
          refine D_H (bx g1 [(.func (.func lf) #[] lc.toArray), (.func (.func sf) #[] sc.toArray)] :: C e2 :: Hs) rfl ?_
          refine C_f rfl ?_
          refine C_exit ?_
          refine x_then_exit ?_
          refine x_then_exit ?_
          refine x_blk_eq ?_
          refine x_blk ?_
          refine x_then ?_
          refine C_reg ?_
          refine p1 rfl ?_
          refine q1 rfl (D_add rfl rfl rfl (r := ((i + 1 : Nat) : Int)) (by omega) (by omega)) ?_
          refine p1 rfl ?_
          refine D_end ?_
          refine x_then ?_
          refine fun ac w' hf hs => ⟨_, ?_, i + 1, e2, ?_, ?_, ?_, ?_, rfl, hf.weak ⟨rfl, rfl, rfl, rfl, trivial⟩, hs⟩
          · omega
          · first | assumption | omega | simp
          · first | assumption | omega | simp
          · exact hc2
          · first | exact ins_end1 hin (by omega) | exact ins_end2 ho hin (by omega) (by omega) (by assumption)
    · have pr2 : ¬ (((i : Nat) : Int) : Int) < ((b : Nat) : Int) := of_decide_eq_false h2
      refine C_exit ?_
      refine x_then_exit ?_
      refine x_then_exit ?_
      refine x_blk_eq ?_
      refine R_0n rfl fun w' hs => ⟨rfl, e, ?_, hs.fd [] 1 rfl⟩
      exact ⟨hc, srd_sub hsr (Nat.le_refl _) (by omega)⟩

set_option maxHeartbeats 4000000 in
theorem sort_symMerge_func {α : Type} [Inhabited α] {C : List α → Chunk} {lt : α → α → Bool} {d0 : List α} {lf sf : Nat} {lc sc : List Value} {w0 : World} (S : Srt Try.prog C lt d0 lf lc sf sc w0) (ho : Ordr lt) (hmx : d0.length ≤ 2305843009213693951) (f : Nat) : ∀ (Hs : List Chunk) (w : World) (d : List α) (hp : List.Perm d d0) (a : Nat) (m : Nat) (b : Nat) (ham : a < m) (hmb : m < b) (hb : b ≤ d0.length) (hs1 : Srd lt d a m) (hs2 : Srd lt d m b) (hfu : b - a ≤ f) (hst : St w0 (C d :: Hs) w), Calls Try.prog 79 [(.agg #[(.func (.func lf) #[] lc.toArray), (.func (.func sf) #[] sc.toArray)]), (.int .i64 ((a : Nat) : Int)), (.int .i64 ((m : Nat) : Int)), (.int .i64 ((b : Nat) : Int))].toArray w (fun e_ w' => e_ = .returned (.tuple #[]) ∧ ∃ e, (Chg d e a b ∧ Srd lt e a b) ∧ St w0 (C e :: Hs) w') := by
  induction f using Nat.strongRecOn with
  | _ f ih =>
  intro Hs w d hp a m b ham hmb hb hs1 hs2 hfu hst
  have hdl : d.length = d0.length := hp.length_eq
  refine enterS 177 Try.func79 rfl rfl rfl hst ?_
  refine C_seq ?_
  refine C_reg ?_
  refine li rfl (D_box rfl rfl rfl rfl rfl fun g1 => ?_)
  refine D_end ?_
  refine x_then ?_
  refine D_H (bx g1 [(.func (.func lf) #[] lc.toArray), (.func (.func sf) #[] sc.toArray)] :: C d :: Hs) rfl ?_
  refine C_seq ?_
  refine C_seq ?_
  refine C_reg ?_
  refine p1 rfl <| p1 rfl ?_
  refine q1 rfl (D_sub rfl rfl rfl (r := ((m - a : Nat) : Int)) (by omega) (by omega)) ?_
  refine p1 rfl ?_
  refine D_end ?_
  refine x_then ?_
  refine C_if _ rfl (fun h2 => ?_) (fun h2 => ?_)
  · have pr2 : (((m - a : Nat) : Int) : Int) = 1 := eq_of_beq h2
    refine C_seq ?_
    refine C_reg ?_
    refine p1 rfl <| p1 rfl ?_
    refine D_end ?_
    refine x_then ?_
    refine C_seq ?_
    refine C_reg ?_
    refine p1 rfl <| p1 rfl ?_
    refine D_end ?_
    refine x_then ?_
    refine C_seq ?_
    refine C_block ?_
    refine C_loop (fun m_ ac w' => ∃ (i : Nat), ∃ (j : Nat), (m ≤ i) ∧ (i ≤ j) ∧ (j ≤ b) ∧ (Low lt d a m b i j) ∧ m_ = j - i ∧ Fits ac 177 [(1, (.int .i64 ((a : Nat) : Int))), (4, (.pointer (some ⟨g1, 0, none⟩))), (8, (.int .i64 ((i : Nat) : Int))), (9, (.int .i64 ((j : Nat) : Int)))] ∧ St w0 (bx g1 [(.func (.func lf) #[] lc.toArray), (.func (.func sf) #[] sc.toArray)] :: C d :: Hs) w') ?_ ?_
    · refine fun ac w' hf hs => ⟨_, m, b, ?_, ?_, ?_, ?_, rfl, hf.weak ⟨rfl, rfl, rfl, rfl, trivial⟩, hs⟩
      · first | assumption | omega | simp
      · first | assumption | omega | simp
      · first | assumption | omega | simp
      · exact low_start _ _ _ _
    · rintro m_ ac w' ⟨i, j, h1, h2, h3, hl, rfl, hf, hs⟩
      refine D.use ?_ hf hs
      clear hf hs ac w'
      refine C_seq ?_
      refine C_seq ?_
      refine C_reg ?_
      refine p1 rfl <| p1 rfl <| p1 rfl ?_
      refine D_end ?_
      refine x_then ?_
      refine C_if _ rfl (fun h3 => ?_) (fun h3 => ?_)
      · have pr3 : (((i : Nat) : Int) : Int) < ((j : Nat) : Int) := of_decide_eq_true h3
        refine C_skip ?_
        refine x_then ?_
        refine C_block ?_
        refine C_seq ?_
        refine C_reg ?_
        refine p1 rfl <| p1 rfl ?_
        refine q1 rfl (D_add rfl rfl rfl (r := ((i + j : Nat) : Int)) (by omega) (by omega)) ?_
        refine q1 rfl (D_cvU (n := (i + j)) uu_94 ⟨_, ui_3⟩ rfl rfl (by omega)) ?_
        refine q1 rfl (D_shU (n := (i + j)) rfl rfl rfl (by omega)) ?_
        refine q1 rfl (D_cvI (n := ((i + j) / 2)) ui_3 ⟨_, uu_94⟩ rfl rfl (by omega)) ?_
        refine p1 rfl ?_
        refine D_end ?_
        refine x_then ?_
        refine C_seq ?_
        refine C_reg ?_
        refine q1 rfl (D_fb f_77_0 rfl rfl (q := 0) rfl) ?_
        refine q1 rfl (lb 0 o_53 rfl rfl rfl rfl) ?_
        refine p1 rfl <| p1 rfl ?_
        refine D_fd [1] 0 rfl ?_
        refine li rfl (cless S hp (i := (i + j) / 2) (j := a) rfl rfl rfl rfl rfl (by omega) (by omega) ?_)
        refine D_end ?_
        refine x_then ?_
        refine D_H (C d :: bx g1 [(.func (.func lf) #[] lc.toArray), (.func (.func sf) #[] sc.toArray)] :: Hs) rfl ?_
        refine C_if _ rfl (fun h4 => ?_) (fun h4 => ?_)
        · refine C_reg ?_
          refine p1 rfl ?_
          refine q1 rfl (D_add rfl rfl rfl (r := (((i + j) / 2 + 1 : Nat) : Int)) (by omega) (by omega)) ?_
          refine p1 rfl ?_
          refine D_end ?_
          refine x_blk ?_
          refine x_then ?_
          refine fun ac w' hf hs => ⟨_, ?_, (i + j) / 2 + 1, j, ?_, ?_, ?_, ?_, rfl, hf.weak ⟨rfl, rfl, rfl, rfl, trivial⟩, hs.fd [0, 1] 0 rfl⟩
          · omega
          · first | assumption | omega | simp
          · first | assumption | omega | simp
          · first | assumption | omega | simp
          · first | exact low_up ho hl hs2 (by omega) (by omega) (by omega) (by omega) (by assumption) | exact low_dn ho hl hs2 (by omega) (by omega) (by omega) (by assumption)
        · refine C_reg ?_
          refine p1 rfl <| p1 rfl ?_
          refine D_end ?_
          refine x_blk ?_
          refine x_then ?_
          refine fun ac w' hf hs => ⟨_, ?_, i, (i + j) / 2, ?_, ?_, ?_, ?_, rfl, hf.weak ⟨rfl, rfl, rfl, rfl, trivial⟩, hs.fd [0, 1] 0 rfl⟩
          · omega
          · first | assumption | omega | simp
          · first | assumption | omega | simp
          · first | assumption | omega | simp
          · first | exact low_up ho hl hs2 (by omega) (by omega) (by omega) (by omega) (by assumption) | exact low_dn ho hl hs2 (by omega) (by omega) (by omega) (by assumption)
      · have pr3 : ¬ (((i : Nat) : Int) : Int) < ((j : Nat) : Int) := of_decide_eq_false h3
        refine C_exit ?_
        refine x_then_exit ?_
        refine x_then_exit ?_
        refine x_blk_eq ?_
        refine x_then ?_
        refine C_seq ?_
        refine C_seq ?_
        refine C_reg ?_
        refine p1 rfl <| p1 rfl ?_
        refine D_end ?_
        refine x_then ?_
        refine C_block ?_
        refine C_loop (fun m_ ac w' => ∃ (k : Nat), ∃ (e : List α), (a ≤ k) ∧ (k ≤ i - 1) ∧ (Up d e a k b) ∧ m_ = i - k ∧ Fits ac 177 [(4, (.pointer (some ⟨g1, 0, none⟩))), (8, (.int .i64 ((i : Nat) : Int))), (11, (.int .i64 ((k : Nat) : Int)))] ∧ St w0 (bx g1 [(.func (.func lf) #[] lc.toArray), (.func (.func sf) #[] sc.toArray)] :: C e :: Hs) w') ?_ ?_
        · refine fun ac w' hf hs => ⟨_, a, d, ?_, ?_, ?_, rfl, hf.weak ⟨rfl, rfl, rfl, trivial⟩, hs⟩
          · first | assumption | omega | simp
          · first | assumption | omega | simp
          · exact up_start _ _ _
        · rintro m_ ac w' ⟨k, e, hk, hk2, hu, rfl, hf, hs⟩
          refine D.use ?_ hf hs
          clear hf hs ac w'
          refine C_seq ?_
          refine C_seq ?_
          refine C_reg ?_
          refine p1 rfl <| p1 rfl ?_
          refine q1 rfl (D_sub rfl rfl rfl (r := ((i - 1 : Nat) : Int)) (by omega) (by omega)) ?_
          refine p1 rfl ?_
          refine D_end ?_
          refine x_then ?_
          refine D_H (bx g1 [(.func (.func lf) #[] lc.toArray), (.func (.func sf) #[] sc.toArray)] :: C e :: Hs) rfl ?_
          refine C_if _ rfl (fun h5 => ?_) (fun h5 => ?_)
          · have pr5 : (((k : Nat) : Int) : Int) < ((i - 1 : Nat) : Int) := of_decide_eq_true h5
            refine C_skip ?_
            refine x_then ?_
            refine C_seq ?_
            refine C_block ?_
            refine C_reg ?_
            refine q1 rfl (D_fb f_77_1 rfl rfl (q := 1) rfl) ?_
            refine q1 rfl (lb 0 o_73 rfl rfl rfl rfl) ?_
            refine p1 rfl <| p1 rfl ?_
            refine q1 rfl (D_add rfl rfl rfl (r := ((k + 1 : Nat) : Int)) (by omega) (by omega)) ?_
            refine D_fd [1] 0 rfl ?_
            refine li rfl (cswap S (hu.chg.perm.trans hp) (i := k) (j := k + 1) rfl rfl rfl rfl rfl (by omega) (by omega) (by omega) ?_)
            refine D_end ?_
            refine x_blk ?_
            refine x_then ?_
            refine D_H (C (swp e k (k + 1)) :: bx g1 [(.func (.func lf) #[] lc.toArray), (.func (.func sf) #[] sc.toArray)] :: Hs) rfl ?_
            refine C_reg ?_
            refine p1 rfl ?_
            refine q1 rfl (D_add rfl rfl rfl (r := ((k + 1 : Nat) : Int)) (by omega) (by omega)) ?_
            refine p1 rfl ?_
            refine D_end ?_
            refine x_then ?_
            refine fun ac w' hf hs => ⟨_, ?_, k + 1, swp e k (k + 1), ?_, ?_, ?_, rfl, hf.weak ⟨rfl, rfl, rfl, trivial⟩, hs.fd [0, 1] 0 rfl⟩
            · omega
            · first | assumption | omega | simp
            · first | assumption | omega | simp
            · exact up_step hu (by omega) (by omega) (by omega)
          · have pr5 : ¬ (((k : Nat) : Int) : Int) < ((i - 1 : Nat) : Int) := of_decide_eq_false h5
            refine C_exit ?_
            refine x_then_exit ?_
            refine x_then_exit ?_
            refine x_blk_eq ?_
            refine x_then ?_
            refine C_ret ?_
            refine x_then_ret ?_
            refine R_0 rfl fun w' hs => ⟨rfl, e, ?_, hs.fd [] 1 rfl⟩
            have hki : k = i - 1 := (by omega); have hji : j = i := (by omega); subst hki; subst hji; exact ⟨hu.chg, up_end ho hu (by omega) (by omega) (by omega) hl hs2⟩
  · have pr2 : (((m - a : Nat) : Int) : Int) ≠ 1 := ne_of_beq_false h2
    refine C_skip ?_
    refine x_then ?_
    refine C_seq ?_
    refine C_seq ?_
    refine C_reg ?_
    refine p1 rfl <| p1 rfl ?_
    refine q1 rfl (D_sub rfl rfl rfl (r := ((b - m : Nat) : Int)) (by omega) (by omega)) ?_
    refine p1 rfl ?_
    refine D_end ?_
    refine x_then ?_
    refine C_if _ rfl (fun h6 => ?_) (fun h6 => ?_)
    · have pr6 : (((b - m : Nat) : Int) : Int) = 1 := eq_of_beq h6
      refine C_seq ?_
      refine C_reg ?_
      refine p1 rfl <| p1 rfl ?_
      refine D_end ?_
      refine x_then ?_
      refine C_seq ?_
      refine C_reg ?_
      refine p1 rfl <| p1 rfl ?_
      refine D_end ?_
      refine x_then ?_
      refine C_seq ?_
      refine C_block ?_
      refine C_loop (fun m_ ac w' => ∃ (i : Nat), ∃ (j : Nat), (a ≤ i) ∧ (i ≤ j) ∧ (j ≤ m) ∧ (Hgh lt d a m i j) ∧ m_ = j - i ∧ Fits ac 177 [(2, (.int .i64 ((m : Nat) : Int))), (4, (.pointer (some ⟨g1, 0, none⟩))), (12, (.int .i64 ((i : Nat) : Int))), (13, (.int .i64 ((j : Nat) : Int)))] ∧ St w0 (bx g1 [(.func (.func lf) #[] lc.toArray), (.func (.func sf) #[] sc.toArray)] :: C d :: Hs) w') ?_ ?_
      · refine fun ac w' hf hs => ⟨_, a, m, ?_, ?_, ?_, ?_, rfl, hf.weak ⟨rfl, rfl, rfl, rfl, trivial⟩, hs⟩
        · first | assumption | omega | simp
        · first | assumption | omega | simp
        · first | assumption | omega | simp
        · exact hgh_start _ _ _
      · rintro m_ ac w' ⟨i, j, h1, h2, h3, hl, rfl, hf, hs⟩
        refine D.use ?_ hf hs
        clear hf hs ac w'
        refine C_seq ?_
        refine C_seq ?_
        refine C_reg ?_
        refine p1 rfl <| p1 rfl <| p1 rfl ?_
        refine D_end ?_
        refine x_then ?_
        refine C_if _ rfl (fun h7 => ?_) (fun h7 => ?_)
        · have pr7 : (((i : Nat) : Int) : Int) < ((j : Nat) : Int) := of_decide_eq_true h7
          refine C_skip ?_
          refine x_then ?_
          refine C_block ?_
          refine C_seq ?_
          refine C_reg ?_
          refine p1 rfl <| p1 rfl ?_
          refine q1 rfl (D_add rfl rfl rfl (r := ((i + j : Nat) : Int)) (by omega) (by omega)) ?_
          refine q1 rfl (D_cvU (n := (i + j)) uu_94 ⟨_, ui_3⟩ rfl rfl (by omega)) ?_
          refine q1 rfl (D_shU (n := (i + j)) rfl rfl rfl (by omega)) ?_
          refine q1 rfl (D_cvI (n := ((i + j) / 2)) ui_3 ⟨_, uu_94⟩ rfl rfl (by omega)) ?_
          refine p1 rfl ?_
          refine D_end ?_
          refine x_then ?_
          refine C_seq ?_
          refine C_reg ?_
          refine q1 rfl (D_fb f_77_0 rfl rfl (q := 0) rfl) ?_
          refine q1 rfl (lb 0 o_53 rfl rfl rfl rfl) ?_
          refine p1 rfl <| p1 rfl ?_
          refine D_fd [1] 0 rfl ?_
          refine li rfl (cless S hp (i := m) (j := (i + j) / 2) rfl rfl rfl rfl rfl (by omega) (by omega) ?_)
          refine p1 rfl ?_
          refine D_end ?_
          refine x_then ?_
          refine D_H (C d :: bx g1 [(.func (.func lf) #[] lc.toArray), (.func (.func sf) #[] sc.toArray)] :: Hs) rfl ?_
          refine C_if _ rfl (fun h8 => ?_) (fun h8 => ?_)
          · have h8n : (lt (A d m) (A d ((i + j) / 2))) = false := not_t h8
            refine C_reg ?_
            refine p1 rfl ?_
            refine q1 rfl (D_add rfl rfl rfl (r := (((i + j) / 2 + 1 : Nat) : Int)) (by omega) (by omega)) ?_
            refine p1 rfl ?_
            refine D_end ?_
            refine x_blk ?_
            refine x_then ?_
            refine fun ac w' hf hs => ⟨_, ?_, (i + j) / 2 + 1, j, ?_, ?_, ?_, ?_, rfl, hf.weak ⟨rfl, rfl, rfl, rfl, trivial⟩, hs.fd [0, 1] 0 rfl⟩
            · omega
            · first | assumption | omega | simp
            · first | assumption | omega | simp
            · first | assumption | omega | simp
            · first | exact hgh_up ho hl hs1 (by omega) (by omega) (by omega) (by omega) (by assumption) | exact hgh_dn ho hl hs1 (by omega) (by omega) (by omega) (by assumption)
          · have h8n : (lt (A d m) (A d ((i + j) / 2))) = true := not_f h8
            refine C_reg ?_
            refine p1 rfl <| p1 rfl ?_
            refine D_end ?_
            refine x_blk ?_
            refine x_then ?_
            refine fun ac w' hf hs => ⟨_, ?_, i, (i + j) / 2, ?_, ?_, ?_, ?_, rfl, hf.weak ⟨rfl, rfl, rfl, rfl, trivial⟩, hs.fd [0, 1] 0 rfl⟩
            · omega
            · first | assumption | omega | simp
            · first | assumption | omega | simp
            · first | assumption | omega | simp
            · first | exact hgh_up ho hl hs1 (by omega) (by omega) (by omega) (by omega) (by assumption) | exact hgh_dn ho hl hs1 (by omega) (by omega) (by omega) (by assumption)
        · have pr7 : ¬ (((i : Nat) : Int) : Int) < ((j : Nat) : Int) := of_decide_eq_false h7
          refine C_exit ?_
          refine x_then_exit ?_
          refine x_then_exit ?_
          refine x_blk_eq ?_
          refine x_then ?_
          refine C_seq ?_
          refine C_seq ?_
          refine C_reg ?_
          refine p1 rfl <| p1 rfl ?_
          refine D_end ?_
          refine x_then ?_
          refine C_block ?_
          refine C_loop (fun m_ ac w' => ∃ (k : Nat), ∃ (e : List α), (i ≤ k) ∧ (k ≤ m) ∧ (Dwn d e a k m) ∧ m_ = k + 1 ∧ Fits ac 177 [(4, (.pointer (some ⟨g1, 0, none⟩))), (12, (.int .i64 ((i : Nat) : Int))), (15, (.int .i64 ((k : Nat) : Int)))] ∧ St w0 (bx g1 [(.func (.func lf) #[] lc.toArray), (.func (.func sf) #[] sc.toArray)] :: C e :: Hs) w') ?_ ?_
          · refine fun ac w' hf hs => ⟨_, m, d, ?_, ?_, ?_, rfl, hf.weak ⟨rfl, rfl, rfl, trivial⟩, hs⟩
            · first | assumption | omega | simp
            · first | assumption | omega | simp
            · exact dwn_start _ _ _
          · rintro m_ ac w' ⟨k, e, hk, hk2, hu, rfl, hf, hs⟩
            refine D.use ?_ hf hs
            clear hf hs ac w'
            refine C_seq ?_
            refine C_seq ?_
            refine C_reg ?_
            refine p1 rfl <| p1 rfl <| p1 rfl ?_
            refine D_end ?_
            refine x_then ?_
            refine D_H (bx g1 [(.func (.func lf) #[] lc.toArray), (.func (.func sf) #[] sc.toArray)] :: C e :: Hs) rfl ?_
            refine C_if _ rfl (fun h9 => ?_) (fun h9 => ?_)
            · have pr9 : (((i : Nat) : Int) : Int) < ((k : Nat) : Int) := of_decide_eq_true h9
              refine C_skip ?_
              refine x_then ?_
              refine C_seq ?_
              refine C_block ?_
              refine C_reg ?_
              refine q1 rfl (D_fb f_77_1 rfl rfl (q := 1) rfl) ?_
              refine q1 rfl (lb 0 o_73 rfl rfl rfl rfl) ?_
              refine p1 rfl <| p1 rfl ?_
              refine q1 rfl (D_sub rfl rfl rfl (r := ((k - 1 : Nat) : Int)) (by omega) (by omega)) ?_
              refine D_fd [1] 0 rfl ?_
              refine li rfl (cswap S (hu.chg.perm.trans hp) (i := k) (j := k - 1) rfl rfl rfl rfl rfl (by omega) (by omega) (by omega) ?_)
              refine D_end ?_
              refine x_blk ?_
              refine x_then ?_
              refine D_H (C (swp e k (k - 1)) :: bx g1 [(.func (.func lf) #[] lc.toArray), (.func (.func sf) #[] sc.toArray)] :: Hs) rfl ?_
              refine C_reg ?_
              refine p1 rfl ?_
              refine q1 rfl (D_sub rfl rfl rfl (r := ((k - 1 : Nat) : Int)) (by omega) (by omega)) ?_
              refine p1 rfl ?_
              refine D_end ?_
              refine x_then ?_
              refine fun ac w' hf hs => ⟨_, ?_, k - 1, swp e k (k - 1), ?_, ?_, ?_, rfl, hf.weak ⟨rfl, rfl, rfl, trivial⟩, hs.fd [0, 1] 0 rfl⟩
              · omega
              · first | assumption | omega | simp
              · first | assumption | omega | simp
              · exact dwn_step hu (by omega) (by omega) (by omega)
            · have pr9 : ¬ (((i : Nat) : Int) : Int) < ((k : Nat) : Int) := of_decide_eq_false h9
              refine C_exit ?_
              refine x_then_exit ?_
              refine x_then_exit ?_
              refine x_blk_eq ?_
              refine x_then ?_
              refine C_ret ?_
              refine x_then_ret ?_
              refine R_0 rfl fun w' hs => ⟨rfl, e, ?_, hs.fd [] 1 rfl⟩
              have hki : k = i := (by omega); have hji : j = i := (by omega); have hbm : b = m + 1 := (by omega); subst hki; subst hji; subst hbm; exact ⟨hu.chg, dwn_end ho hu (by omega) (by omega) hl hs1⟩
    · have pr6 : (((b - m : Nat) : Int) : Int) ≠ 1 := ne_of_beq_false h6
      refine C_skip ?_
      refine x_then ?_
      refine C_seq ?_
      refine C_reg ?_
      refine p1 rfl <| p1 rfl ?_
      refine q1 rfl (D_add rfl rfl rfl (r := ((a + b : Nat) : Int)) (by omega) (by omega)) ?_
      refine q1 rfl (D_cvU (n := (a + b)) uu_94 ⟨_, ui_3⟩ rfl rfl (by omega)) ?_
      refine q1 rfl (D_shU (n := (a + b)) rfl rfl rfl (by omega)) ?_
      refine q1 rfl (D_cvI (n := ((a + b) / 2)) ui_3 ⟨_, uu_94⟩ rfl rfl (by omega)) ?_
      obtain ⟨mid, hg_mid⟩ : ∃ mid : Nat, (a + b) / 2 = mid := ⟨_, rfl⟩
      refine D_re 100 (v' := .int .i64 ((mid : Nat) : Int)) rfl (by rw [hg_mid]) rfl ?_
      refine p1 rfl ?_
      refine D_end ?_
      refine x_then ?_
      refine D_weak [(1, (.int .i64 ((a : Nat) : Int))), (2, (.int .i64 ((m : Nat) : Int))), (3, (.int .i64 ((b : Nat) : Int))), (4, (.pointer (some ⟨g1, 0, none⟩))), (16, (.int .i64 ((mid : Nat) : Int)))] ⟨rfl, rfl, rfl, rfl, rfl, trivial⟩ ?_
      refine C_seq ?_
      refine C_reg ?_
      refine p1 rfl <| p1 rfl ?_
      refine q1 rfl (D_add rfl rfl rfl (r := ((mid + m : Nat) : Int)) (by omega) (by omega)) ?_
      refine p1 rfl ?_
      refine D_end ?_
      refine x_then ?_
      refine C_seq ?_
      refine C_reg ?_
      refine p1 rfl <| p1 rfl ?_
      refine D_end ?_
      refine x_then ?_
      refine C_seq ?_
      refine C_seq ?_
      refine C_reg ?_
      refine p1 rfl <| p1 rfl <| p1 rfl ?_
      refine D_end ?_
      refine x_then ?_
      refine C_if _ rfl (fun h10 => ?_) (fun h10 => ?_)
      · have pr10 : (((mid : Nat) : Int) : Int) < ((m : Nat) : Int) := of_decide_eq_true h10
        refine C_seq ?_
        refine C_reg ?_
        refine p1 rfl <| p1 rfl ?_
        refine q1 rfl (D_sub rfl rfl rfl (r := ((mid + m - b : Nat) : Int)) (by omega) (by omega)) ?_
        refine p1 rfl ?_
        refine D_end ?_
        refine x_then ?_
        refine C_reg ?_
        refine p1 rfl <| p1 rfl ?_
        refine D_end ?_
        refine x_then ?_
        refine C_seq ?_
        refine C_reg ?_
        refine p1 rfl ?_
        refine q1 rfl (D_sub rfl rfl rfl (r := ((mid + m - 1 : Nat) : Int)) (by omega) (by omega)) ?_
        refine p1 rfl ?_
        refine D_end ?_
        refine x_then ?_
        refine C_seq ?_
        refine C_block ?_
        refine C_loop (fun m_ ac w' => ∃ (s : Nat), ∃ (r : Nat), (max a (mid + m - b) ≤ s) ∧ (s ≤ r) ∧ (r ≤ min m mid) ∧ (Sea lt d (max a (mid + m - b)) (min m mid) (mid + m) s r) ∧ m_ = r - s ∧ Fits ac 177 [(1, (.int .i64 ((a : Nat) : Int))), (2, (.int .i64 ((m : Nat) : Int))), (3, (.int .i64 ((b : Nat) : Int))), (4, (.pointer (some ⟨g1, 0, none⟩))), (16, (.int .i64 ((mid : Nat) : Int))), (17, (.int .i64 ((mid + m : Nat) : Int))), (18, (.int .i64 ((s : Nat) : Int))), (19, (.int .i64 ((r : Nat) : Int))), (20, (.int .i64 ((mid + m - 1 : Nat) : Int)))] ∧ St w0 (bx g1 [(.func (.func lf) #[] lc.toArray), (.func (.func sf) #[] sc.toArray)] :: C d :: Hs) w') ?_ ?_
        · refine fun ac w' hf hs => ⟨_, mid + m - b, mid, ?_, ?_, ?_, ?_, rfl, hf.weak ⟨rfl, rfl, rfl, rfl, rfl, rfl, rfl, rfl, rfl, trivial⟩, hs⟩
          · first | assumption | omega | simp
          · first | assumption | omega | simp
          · first | assumption | omega | simp
          · first | (rw [show max a (mid + m - b) = mid + m - b from by omega, show min m mid = mid from by omega]; exact sea_start _ _ _ _) | (rw [show max a (mid + m - b) = a from by omega, show min m mid = m from by omega]; exact sea_start _ _ _ _)
        · rintro m_ ac w' ⟨s, r, h1, h2, h3, hsea, rfl, hf, hs⟩
          refine D.use ?_ hf hs
          clear hf hs ac w'
          refine C_seq ?_
          refine C_seq ?_
          refine C_reg ?_
          refine p1 rfl <| p1 rfl <| p1 rfl ?_
          refine D_end ?_
          refine x_then ?_
          refine C_if _ rfl (fun h11 => ?_) (fun h11 => ?_)
          · have pr11 : (((s : Nat) : Int) : Int) < ((r : Nat) : Int) := of_decide_eq_true h11
            refine C_skip ?_
            refine x_then ?_
            refine C_block ?_
            refine C_seq ?_
            refine C_reg ?_
            refine p1 rfl <| p1 rfl ?_
            refine q1 rfl (D_add rfl rfl rfl (r := ((s + r : Nat) : Int)) (by omega) (by omega)) ?_
            refine q1 rfl (D_cvU (n := (s + r)) uu_94 ⟨_, ui_3⟩ rfl rfl (by omega)) ?_
            refine q1 rfl (D_shU (n := (s + r)) rfl rfl rfl (by omega)) ?_
            refine q1 rfl (D_cvI (n := ((s + r) / 2)) ui_3 ⟨_, uu_94⟩ rfl rfl (by omega)) ?_
            refine p1 rfl ?_
            refine D_end ?_
            refine x_then ?_
            refine C_seq ?_
            refine C_reg ?_
            refine q1 rfl (D_fb f_77_0 rfl rfl (q := 0) rfl) ?_
            refine q1 rfl (lb 0 o_53 rfl rfl rfl rfl) ?_
            refine p1 rfl <| p1 rfl ?_
            refine q1 rfl (D_sub rfl rfl rfl (r := ((mid + m - 1 - (s + r) / 2 : Nat) : Int)) (by omega) (by omega)) ?_
            refine p1 rfl ?_
            refine D_fd [1] 0 rfl ?_
            refine li rfl (cless S hp (i := mid + m - 1 - (s + r) / 2) (j := (s + r) / 2) rfl rfl rfl rfl rfl (by omega) (by omega) ?_)
            refine p1 rfl ?_
            refine D_end ?_
            refine x_then ?_
            refine D_weak [(1, (.int .i64 ((a : Nat) : Int))), (2, (.int .i64 ((m : Nat) : Int))), (3, (.int .i64 ((b : Nat) : Int))), (4, (.pointer (some ⟨g1, 0, none⟩))), (16, (.int .i64 ((mid : Nat) : Int))), (17, (.int .i64 ((mid + m : Nat) : Int))), (18, (.int .i64 ((s : Nat) : Int))), (19, (.int .i64 ((r : Nat) : Int))), (20, (.int .i64 ((mid + m - 1 : Nat) : Int))), (21, (.int .i64 (((s + r) / 2 : Nat) : Int))), (131, (.bool (!(lt (A d (mid + m - 1 - (s + r) / 2)) (A d ((s + r) / 2))))))] ⟨rfl, rfl, rfl, rfl, rfl, rfl, rfl, rfl, rfl, rfl, rfl, trivial⟩ ?_
            refine D_H (C d :: bx g1 [(.func (.func lf) #[] lc.toArray), (.func (.func sf) #[] sc.toArray)] :: Hs) rfl ?_
            refine C_if _ rfl (fun h12 => ?_) (fun h12 => ?_)
            · have h12n : (lt (A d (mid + m - 1 - (s + r) / 2)) (A d ((s + r) / 2))) = false := not_t h12
              refine C_reg ?_
              refine p1 rfl ?_
              refine q1 rfl (D_add rfl rfl rfl (r := (((s + r) / 2 + 1 : Nat) : Int)) (by omega) (by omega)) ?_
              refine p1 rfl ?_
              refine D_end ?_
              refine x_blk ?_
              refine x_then ?_
              refine fun ac w' hf hs => ⟨_, ?_, (s + r) / 2 + 1, r, ?_, ?_, ?_, ?_, rfl, hf.weak ⟨rfl, rfl, rfl, rfl, rfl, rfl, rfl, rfl, rfl, trivial⟩, hs.fd [0, 1] 0 rfl⟩
              · omega
              · first | assumption | omega | simp
              · first | assumption | omega | simp
              · first | assumption | omega | simp
              · first | exact sea_up ho hsea hs1 hs2 (by omega) (by omega) (by omega) (by omega) (by omega) (by omega) (by omega) (by omega) (by assumption) | exact sea_dn ho hsea hs1 hs2 (by omega) (by omega) (by omega) (by omega) (by omega) (by omega) (by omega) (by omega) (by assumption)
            · have h12n : (lt (A d (mid + m - 1 - (s + r) / 2)) (A d ((s + r) / 2))) = true := not_f h12
              refine C_reg ?_
              refine p1 rfl <| p1 rfl ?_
              refine D_end ?_
              refine x_blk ?_
              refine x_then ?_
              refine fun ac w' hf hs => ⟨_, ?_, s, (s + r) / 2, ?_, ?_, ?_, ?_, rfl, hf.weak ⟨rfl, rfl, rfl, rfl, rfl, rfl, rfl, rfl, rfl, trivial⟩, hs.fd [0, 1] 0 rfl⟩
              · omega
              · first | assumption | omega | simp
              · first | assumption | omega | simp
              · first | assumption | omega | simp
              · first | exact sea_up ho hsea hs1 hs2 (by omega) (by omega) (by omega) (by omega) (by omega) (by omega) (by omega) (by omega) (by assumption) | exact sea_dn ho hsea hs1 hs2 (by omega) (by omega) (by omega) (by omega) (by omega) (by omega) (by omega) (by omega) (by assumption)
          · have pr11 : ¬ (((s : Nat) : Int) : Int) < ((r : Nat) : Int) := of_decide_eq_false h11
            refine C_exit ?_
            refine x_then_exit ?_
            refine x_then_exit ?_
            refine x_blk_eq ?_
            refine x_then ?_
            refine C_seq ?_
            refine C_reg ?_
            refine p1 rfl <| p1 rfl ?_
            refine q1 rfl (D_sub rfl rfl rfl (r := ((mid + m - s : Nat) : Int)) (by omega) (by omega)) ?_
            refine p1 rfl ?_
            refine D_end ?_
            refine x_then ?_
            refine C_seq ?_
            refine C_seq ?_
            refine C_reg ?_
            refine p1 rfl <| p1 rfl <| p1 rfl <| p1 rfl ?_
            refine gs 141 rfl rfl (fun h13 => ?_) (fun h13 => ?_)
            · have pr13 : (((s : Nat) : Int) : Int) < ((m : Nat) : Int) := of_decide_eq_true h13
              refine p1 rfl <| p1 rfl <| p1 rfl <| p1 rfl ?_
              refine D_end ?_
              refine x_then ?_
              refine D_weak [(1, (.int .i64 ((a : Nat) : Int))), (2, (.int .i64 ((m : Nat) : Int))), (3, (.int .i64 ((b : Nat) : Int))), (4, (.pointer (some ⟨g1, 0, none⟩))), (16, (.int .i64 ((mid : Nat) : Int))), (18, (.int .i64 ((s : Nat) : Int))), (22, (.int .i64 ((mid + m - s : Nat) : Int))), (145, (.bool (decide ((((m : Nat) : Int) : Int) < ((mid + m - s : Nat) : Int)))))] ⟨rfl, rfl, rfl, rfl, rfl, rfl, rfl, rfl, trivial⟩ ?_
              refine C_if _ rfl (fun h14 => ?_) (fun h14 => ?_)
              · have pr14 : (((m : Nat) : Int) : Int) < ((mid + m - s : Nat) : Int) := of_decide_eq_true h14
                refine C_reg ?_
                refine q1 rfl (lbw 0 a_77 rfl rfl rfl) ?_
                refine p1 rfl <| p1 rfl <| p1 rfl ?_
                refine D_fd [1] 0 rfl ?_
                refine li rfl (csrt b_83 rfl rfl rfl rfl (fun w' hs => sort_rotate_func S ho hmx _ w' d hp s m (mid + m - s) (by first | assumption | omega) (by first | assumption | omega) (by first | assumption | omega) hs) fun e1 hro => ?_)
                refine D_end ?_
                refine x_then ?_
                refine D_H (C e1 :: bx g1 [(.func (.func lf) #[] lc.toArray), (.func (.func sf) #[] sc.toArray)] :: Hs) rfl ?_
                refine C_seq ?_
                refine C_seq ?_
                have hrot : Rot d e1 s m (mid + m - s) := by first | exact hro | exact rot_none (by omega) (by omega) (by omega)
                have hsea2 : Sea lt d (max a (mid + m - b)) (min m mid) (mid + m) s s := by rwa [show r = s from by omega] at hsea
                have hcr : Crs lt e1 a mid b := sym_crs ho rfl rfl hsea2 hs1 hs2 (by omega) (by omega) (by omega) (by omega) (by omega) (by omega) (by omega) (by omega) (by omega) hrot
                have hsd := rot_srd hrot hs1 hs2 (by omega) (by omega) (by omega) (by omega)
                rw [show s + (mid + m - s - m) = mid from by omega] at hsd
                refine C_reg ?_
                refine p1 rfl <| p1 rfl <| p1 rfl <| p1 rfl ?_
                refine gs 154 rfl rfl (fun h15 => ?_) (fun h15 => ?_)
                · have pr15 : (((a : Nat) : Int) : Int) < ((s : Nat) : Int) := of_decide_eq_true h15
                  refine p1 rfl <| p1 rfl <| p1 rfl <| p1 rfl ?_
                  refine D_end ?_
                  refine x_then ?_
                  refine C_if _ rfl (fun h16 => ?_) (fun h16 => ?_)
                  · have pr16 : (((s : Nat) : Int) : Int) < ((mid : Nat) : Int) := of_decide_eq_true h16
                    refine C_reg ?_
                    refine q1 rfl (lbw 1 a_77 rfl rfl rfl) ?_
                    refine p1 rfl <| p1 rfl <| p1 rfl ?_
                    refine li rfl (csrt b_79 rfl rfl rfl rfl (fun w' hs => ih (mid - a) (by omega) _ w' e1 (hro.2.1.trans hp) a s mid (by first | assumption | omega) (by first | assumption | omega) (by first | assumption | omega) hsd.1 hsd.2.1 (Nat.le_refl _) hs) fun e2 hA0 => ?_)
                    refine D_end ?_
                    refine x_then ?_
                    refine D_weak [(3, (.int .i64 ((b : Nat) : Int))), (4, (.pointer (some ⟨g1, 0, none⟩))), (16, (.int .i64 ((mid : Nat) : Int))), (22, (.int .i64 ((mid + m - s : Nat) : Int)))] ⟨rfl, rfl, rfl, rfl, trivial⟩ ?_
                    refine D_H (C e2 :: bx g1 [(.func (.func lf) #[] lc.toArray), (.func (.func sf) #[] sc.toArray)] :: Hs) rfl ?_
                    refine C_seq ?_
                    have hA : Chg e1 e2 a mid ∧ Srd lt e2 a mid := by first | exact hA0 | exact ⟨Chg.refl _ _ _, srd_sub hsd.1 (Nat.le_refl _) (by omega)⟩ | exact ⟨Chg.refl _ _ _, srd_sub hsd.2.1 (by omega) (Nat.le_refl _)⟩
                    have hsm := srd_out hsd.2.2.1 hA.1 (.inr (Nat.le_refl _))
                    have hsn := srd_out hsd.2.2.2 hA.1 (.inr (by omega))
                    refine C_reg ?_
                    refine p1 rfl <| p1 rfl <| p1 rfl <| p1 rfl ?_
                    refine gs 167 rfl rfl (fun h17 => ?_) (fun h17 => ?_)
                    · have pr17 : (((mid : Nat) : Int) : Int) < ((mid + m - s : Nat) : Int) := of_decide_eq_true h17
                      refine p1 rfl <| p1 rfl <| p1 rfl <| p1 rfl ?_
                      refine D_end ?_
                      refine x_then ?_
                      refine C_if _ rfl (fun h18 => ?_) (fun h18 => ?_)
                      · have pr18 : (((mid + m - s : Nat) : Int) : Int) < ((b : Nat) : Int) := of_decide_eq_true h18
                        refine C_reg ?_
                        refine q1 rfl (lbw 1 a_77 rfl rfl rfl) ?_
                        refine p1 rfl <| p1 rfl <| p1 rfl ?_
                        refine li rfl (csrt b_79 rfl rfl rfl rfl (fun w' hs => ih (b - mid) (by omega) _ w' e2 (hA0.1.perm.trans (hro.2.1.trans hp)) mid (mid + m - s) b (by first | assumption | omega) (by first | assumption | omega) (by first | assumption | omega) hsm hsn (Nat.le_refl _) hs) fun e3 hB0 => ?_)
                        refine D_end ?_
                        refine R_0n rfl fun w' hs => ⟨rfl, e3, ?_, hs.fd [0, 1] 1 rfl⟩
                        have hB : Chg e2 e3 mid b ∧ Srd lt e3 mid b := (by first | exact hB0 | exact ⟨Chg.refl _ _ _, srd_sub hsm (Nat.le_refl _) (by omega)⟩ | exact ⟨Chg.refl _ _ _, srd_sub hsn (by omega) (Nat.le_refl _)⟩); exact ⟨(((rot_chg hrot (by omega) (by omega)).mono (by omega) (by omega)).trans (hA.1.mono (by omega) (by omega))).trans (hB.1.mono (by omega) (by omega)), srd_join (srd_out hA.2 hB.1 (.inl (Nat.le_refl _))) hB.2 (crs_chg hcr hA.1 hB.1)⟩
                      · have pr18 : ¬ (((mid + m - s : Nat) : Int) : Int) < ((b : Nat) : Int) := of_decide_eq_false h18
                        refine C_skip ?_
                        refine R_0n rfl fun w' hs => ⟨rfl, e2, ?_, hs.fd [0, 1] 1 rfl⟩
                        have hB : Chg e2 e2 mid b ∧ Srd lt e2 mid b := (by first | exact hB0 | exact ⟨Chg.refl _ _ _, srd_sub hsm (Nat.le_refl _) (by omega)⟩ | exact ⟨Chg.refl _ _ _, srd_sub hsn (by omega) (Nat.le_refl _)⟩); exact ⟨(((rot_chg hrot (by omega) (by omega)).mono (by omega) (by omega)).trans (hA.1.mono (by omega) (by omega))).trans (hB.1.mono (by omega) (by omega)), srd_join (srd_out hA.2 hB.1 (.inl (Nat.le_refl _))) hB.2 (crs_chg hcr hA.1 hB.1)⟩
                    · have pr17 : ¬ (((mid : Nat) : Int) : Int) < ((mid + m - s : Nat) : Int) := of_decide_eq_false h17
                      refine n1 rfl ?_
                      refine n1 rfl ?_
                      refine n1 rfl ?_
                      refine p1 rfl ?_
                      refine D_end ?_
                      refine x_then ?_
                      refine C_f rfl ?_
                      refine C_skip ?_
                      refine R_0n rfl fun w' hs => ⟨rfl, e2, ?_, hs.fd [0, 1] 1 rfl⟩
                      have hB : Chg e2 e2 mid b ∧ Srd lt e2 mid b := (by first | exact hB0 | exact ⟨Chg.refl _ _ _, srd_sub hsm (Nat.le_refl _) (by omega)⟩ | exact ⟨Chg.refl _ _ _, srd_sub hsn (by omega) (Nat.le_refl _)⟩); exact ⟨(((rot_chg hrot (by omega) (by omega)).mono (by omega) (by omega)).trans (hA.1.mono (by omega) (by omega))).trans (hB.1.mono (by omega) (by omega)), srd_join (srd_out hA.2 hB.1 (.inl (Nat.le_refl _))) hB.2 (crs_chg hcr hA.1 hB.1)⟩
                  · have pr16 : ¬ (((s : Nat) : Int) : Int) < ((mid : Nat) : Int) := of_decide_eq_false h16
                    refine C_skip ?_
                    refine x_then ?_
                    refine D_weak [(3, (.int .i64 ((b : Nat) : Int))), (4, (.pointer (some ⟨g1, 0, none⟩))), (16, (.int .i64 ((mid : Nat) : Int))), (22, (.int .i64 ((mid + m - s : Nat) : Int)))] ⟨rfl, rfl, rfl, rfl, trivial⟩ ?_
                    refine C_seq ?_
                    have hA : Chg e1 e1 a mid ∧ Srd lt e1 a mid := by first | exact hA0 | exact ⟨Chg.refl _ _ _, srd_sub hsd.1 (Nat.le_refl _) (by omega)⟩ | exact ⟨Chg.refl _ _ _, srd_sub hsd.2.1 (by omega) (Nat.le_refl _)⟩
                    have hsm := srd_out hsd.2.2.1 hA.1 (.inr (Nat.le_refl _))
                    have hsn := srd_out hsd.2.2.2 hA.1 (.inr (by omega))
                    refine C_reg ?_
                    refine p1 rfl <| p1 rfl <| p1 rfl <| p1 rfl ?_
                    refine gs 167 rfl rfl (fun h19 => ?_) (fun h19 => ?_)
                    · have pr19 : (((mid : Nat) : Int) : Int) < ((mid + m - s : Nat) : Int) := of_decide_eq_true h19
                      refine p1 rfl <| p1 rfl <| p1 rfl <| p1 rfl ?_
                      refine D_end ?_
                      refine x_then ?_
                      refine C_if _ rfl (fun h20 => ?_) (fun h20 => ?_)
                      · have pr20 : (((mid + m - s : Nat) : Int) : Int) < ((b : Nat) : Int) := of_decide_eq_true h20
                        refine C_reg ?_
                        refine q1 rfl (lbw 1 a_77 rfl rfl rfl) ?_
                        refine p1 rfl <| p1 rfl <| p1 rfl ?_
                        refine li rfl (csrt b_79 rfl rfl rfl rfl (fun w' hs => ih (b - mid) (by omega) _ w' e1 (hro.2.1.trans hp) mid (mid + m - s) b (by first | assumption | omega) (by first | assumption | omega) (by first | assumption | omega) hsm hsn (Nat.le_refl _) hs) fun e3 hB0 => ?_)
                        refine D_end ?_
                        refine R_0n rfl fun w' hs => ⟨rfl, e3, ?_, hs.fd [0, 1] 1 rfl⟩
                        have hB : Chg e1 e3 mid b ∧ Srd lt e3 mid b := (by first | exact hB0 | exact ⟨Chg.refl _ _ _, srd_sub hsm (Nat.le_refl _) (by omega)⟩ | exact ⟨Chg.refl _ _ _, srd_sub hsn (by omega) (Nat.le_refl _)⟩); exact ⟨(((rot_chg hrot (by omega) (by omega)).mono (by omega) (by omega)).trans (hA.1.mono (by omega) (by omega))).trans (hB.1.mono (by omega) (by omega)), srd_join (srd_out hA.2 hB.1 (.inl (Nat.le_refl _))) hB.2 (crs_chg hcr hA.1 hB.1)⟩
                      · have pr20 : ¬ (((mid + m - s : Nat) : Int) : Int) < ((b : Nat) : Int) := of_decide_eq_false h20
                        refine C_skip ?_
                        refine R_0n rfl fun w' hs => ⟨rfl, e1, ?_, hs.fd [0, 1] 1 rfl⟩
                        have hB : Chg e1 e1 mid b ∧ Srd lt e1 mid b := (by first | exact hB0 | exact ⟨Chg.refl _ _ _, srd_sub hsm (Nat.le_refl _) (by omega)⟩ | exact ⟨Chg.refl _ _ _, srd_sub hsn (by omega) (Nat.le_refl _)⟩); exact ⟨(((rot_chg hrot (by omega) (by omega)).mono (by omega) (by omega)).trans (hA.1.mono (by omega) (by omega))).trans (hB.1.mono (by omega) (by omega)), srd_join (srd_out hA.2 hB.1 (.inl (Nat.le_refl _))) hB.2 (crs_chg hcr hA.1 hB.1)⟩
                    · have pr19 : ¬ (((mid : Nat) : Int) : Int) < ((mid + m - s : Nat) : Int) := of_decide_eq_false h19
                      refine n1 rfl ?_
                      refine n1 rfl ?_
                      refine n1 rfl ?_
                      refine p1 rfl ?_
                      refine D_end ?_
                      refine x_then ?_
                      refine C_f rfl ?_
                      refine C_skip ?_
                      refine R_0n rfl fun w' hs => ⟨rfl, e1, ?_, hs.fd [0, 1] 1 rfl⟩
                      have hB : Chg e1 e1 mid b ∧ Srd lt e1 mid b := (by first | exact hB0 | exact ⟨Chg.refl _ _ _, srd_sub hsm (Nat.le_refl _) (by omega)⟩ | exact ⟨Chg.refl _ _ _, srd_sub hsn (by omega) (Nat.le_refl _)⟩); exact ⟨(((rot_chg hrot (by omega) (by omega)).mono (by omega) (by omega)).trans (hA.1.mono (by omega) (by omega))).trans (hB.1.mono (by omega) (by omega)), srd_join (srd_out hA.2 hB.1 (.inl (Nat.le_refl _))) hB.2 (crs_chg hcr hA.1 hB.1)⟩
                · have pr15 : ¬ (((a : Nat) : Int) : Int) < ((s : Nat) : Int) := of_decide_eq_false h15
                  refine n1 rfl ?_
                  refine n1 rfl ?_
                  refine n1 rfl ?_
                  refine p1 rfl ?_
                  refine D_end ?_
                  refine x_then ?_
                  refine C_f rfl ?_
                  refine C_skip ?_
                  refine x_then ?_
                  refine D_weak [(3, (.int .i64 ((b : Nat) : Int))), (4, (.pointer (some ⟨g1, 0, none⟩))), (16, (.int .i64 ((mid : Nat) : Int))), (22, (.int .i64 ((mid + m - s : Nat) : Int)))] ⟨rfl, rfl, rfl, rfl, trivial⟩ ?_
                  refine C_seq ?_
                  have hA : Chg e1 e1 a mid ∧ Srd lt e1 a mid := by first | exact hA0 | exact ⟨Chg.refl _ _ _, srd_sub hsd.1 (Nat.le_refl _) (by omega)⟩ | exact ⟨Chg.refl _ _ _, srd_sub hsd.2.1 (by omega) (Nat.le_refl _)⟩
                  have hsm := srd_out hsd.2.2.1 hA.1 (.inr (Nat.le_refl _))
                  have hsn := srd_out hsd.2.2.2 hA.1 (.inr (by omega))
                  refine C_reg ?_
                  refine p1 rfl <| p1 rfl <| p1 rfl <| p1 rfl ?_
                  refine gs 167 rfl rfl (fun h21 => ?_) (fun h21 => ?_)
                  · have pr21 : (((mid : Nat) : Int) : Int) < ((mid + m - s : Nat) : Int) := of_decide_eq_true h21
                    refine p1 rfl <| p1 rfl <| p1 rfl <| p1 rfl ?_
                    refine D_end ?_
                    refine x_then ?_
                    refine C_if _ rfl (fun h22 => ?_) (fun h22 => ?_)
                    · have pr22 : (((mid + m - s : Nat) : Int) : Int) < ((b : Nat) : Int) := of_decide_eq_true h22
                      refine C_reg ?_
                      refine q1 rfl (lbw 1 a_77 rfl rfl rfl) ?_
                      refine p1 rfl <| p1 rfl <| p1 rfl ?_
                      refine li rfl (csrt b_79 rfl rfl rfl rfl (fun w' hs => ih (b - mid) (by omega) _ w' e1 (hro.2.1.trans hp) mid (mid + m - s) b (by first | assumption | omega) (by first | assumption | omega) (by first | assumption | omega) hsm hsn (Nat.le_refl _) hs) fun e3 hB0 => ?_)
                      refine D_end ?_
                      refine R_0n rfl fun w' hs => ⟨rfl, e3, ?_, hs.fd [0, 1] 1 rfl⟩
                      have hB : Chg e1 e3 mid b ∧ Srd lt e3 mid b := (by first | exact hB0 | exact ⟨Chg.refl _ _ _, srd_sub hsm (Nat.le_refl _) (by omega)⟩ | exact ⟨Chg.refl _ _ _, srd_sub hsn (by omega) (Nat.le_refl _)⟩); exact ⟨(((rot_chg hrot (by omega) (by omega)).mono (by omega) (by omega)).trans (hA.1.mono (by omega) (by omega))).trans (hB.1.mono (by omega) (by omega)), srd_join (srd_out hA.2 hB.1 (.inl (Nat.le_refl _))) hB.2 (crs_chg hcr hA.1 hB.1)⟩
                    · have pr22 : ¬ (((mid + m - s : Nat) : Int) : Int) < ((b : Nat) : Int) := of_decide_eq_false h22
                      refine C_skip ?_
                      refine R_0n rfl fun w' hs => ⟨rfl, e1, ?_, hs.fd [0, 1] 1 rfl⟩
                      have hB : Chg e1 e1 mid b ∧ Srd lt e1 mid b := (by first | exact hB0 | exact ⟨Chg.refl _ _ _, srd_sub hsm (Nat.le_refl _) (by omega)⟩ | exact ⟨Chg.refl _ _ _, srd_sub hsn (by omega) (Nat.le_refl _)⟩); exact ⟨(((rot_chg hrot (by omega) (by omega)).mono (by omega) (by omega)).trans (hA.1.mono (by omega) (by omega))).trans (hB.1.mono (by omega) (by omega)), srd_join (srd_out hA.2 hB.1 (.inl (Nat.le_refl _))) hB.2 (crs_chg hcr hA.1 hB.1)⟩
                  · have pr21 : ¬ (((mid : Nat) : Int) : Int) < ((mid + m - s : Nat) : Int) := of_decide_eq_false h21
                    refine n1 rfl ?_
                    refine n1 rfl ?_
                    refine n1 rfl ?_
                    refine p1 rfl ?_
                    refine D_end ?_
                    refine x_then ?_
                    refine C_f rfl ?_
                    refine C_skip ?_
                    refine R_0n rfl fun w' hs => ⟨rfl, e1, ?_, hs.fd [0, 1] 1 rfl⟩
                    have hB : Chg e1 e1 mid b ∧ Srd lt e1 mid b := (by first | exact hB0 | exact ⟨Chg.refl _ _ _, srd_sub hsm (Nat.le_refl _) (by omega)⟩ | exact ⟨Chg.refl _ _ _, srd_sub hsn (by omega) (Nat.le_refl _)⟩); exact ⟨(((rot_chg hrot (by omega) (by omega)).mono (by omega) (by omega)).trans (hA.1.mono (by omega) (by omega))).trans (hB.1.mono (by omega) (by omega)), srd_join (srd_out hA.2 hB.1 (.inl (Nat.le_refl _))) hB.2 (crs_chg hcr hA.1 hB.1)⟩
              · have pr14 : ¬ (((m : Nat) : Int) : Int) < ((mid + m - s : Nat) : Int) := of_decide_eq_false h14
                refine C_skip ?_
                refine x_then ?_
                refine C_seq ?_
                refine C_seq ?_
                have hrot : Rot d d s m (mid + m - s) := by first | exact hro | exact rot_none (by omega) (by omega) (by omega)
                have hsea2 : Sea lt d (max a (mid + m - b)) (min m mid) (mid + m) s s := by rwa [show r = s from by omega] at hsea
                have hcr : Crs lt d a mid b := sym_crs ho rfl rfl hsea2 hs1 hs2 (by omega) (by omega) (by omega) (by omega) (by omega) (by omega) (by omega) (by omega) (by omega) hrot
                have hsd := rot_srd hrot hs1 hs2 (by omega) (by omega) (by omega) (by omega)
                rw [show s + (mid + m - s - m) = mid from by omega] at hsd
                refine C_reg ?_
                refine p1 rfl <| p1 rfl <| p1 rfl <| p1 rfl ?_
                refine gs 154 rfl rfl (fun h23 => ?_) (fun h23 => ?_)
                · have pr23 : (((a : Nat) : Int) : Int) < ((s : Nat) : Int) := of_decide_eq_true h23
                  refine p1 rfl <| p1 rfl <| p1 rfl <| p1 rfl ?_
                  refine D_end ?_
                  refine x_then ?_
                  refine C_if _ rfl (fun h24 => ?_) (fun h24 => ?_)
                  · have pr24 : (((s : Nat) : Int) : Int) < ((mid : Nat) : Int) := of_decide_eq_true h24
                    refine C_reg ?_
                    refine q1 rfl (lbw 0 a_77 rfl rfl rfl) ?_
                    refine p1 rfl <| p1 rfl <| p1 rfl ?_
                    refine D_fd [1] 0 rfl ?_
                    refine li rfl (csrt b_79 rfl rfl rfl rfl (fun w' hs => ih (mid - a) (by omega) _ w' d hp a s mid (by first | assumption | omega) (by first | assumption | omega) (by first | assumption | omega) hsd.1 hsd.2.1 (Nat.le_refl _) hs) fun e2 hA0 => ?_)
                    refine D_end ?_
                    refine x_then ?_
                    refine D_weak [(3, (.int .i64 ((b : Nat) : Int))), (4, (.pointer (some ⟨g1, 0, none⟩))), (16, (.int .i64 ((mid : Nat) : Int))), (22, (.int .i64 ((mid + m - s : Nat) : Int)))] ⟨rfl, rfl, rfl, rfl, trivial⟩ ?_
                    refine D_H (C e2 :: bx g1 [(.func (.func lf) #[] lc.toArray), (.func (.func sf) #[] sc.toArray)] :: Hs) rfl ?_
                    refine C_seq ?_
                    have hA : Chg d e2 a mid ∧ Srd lt e2 a mid := by first | exact hA0 | exact ⟨Chg.refl _ _ _, srd_sub hsd.1 (Nat.le_refl _) (by omega)⟩ | exact ⟨Chg.refl _ _ _, srd_sub hsd.2.1 (by omega) (Nat.le_refl _)⟩
                    have hsm := srd_out hsd.2.2.1 hA.1 (.inr (Nat.le_refl _))
                    have hsn := srd_out hsd.2.2.2 hA.1 (.inr (by omega))
                    refine C_reg ?_
                    refine p1 rfl <| p1 rfl <| p1 rfl <| p1 rfl ?_
                    refine gs 167 rfl rfl (fun h25 => ?_) (fun h25 => ?_)
                    · have pr25 : (((mid : Nat) : Int) : Int) < ((mid + m - s : Nat) : Int) := of_decide_eq_true h25
                      refine p1 rfl <| p1 rfl <| p1 rfl <| p1 rfl ?_
                      refine D_end ?_
                      refine x_then ?_
                      refine C_if _ rfl (fun h26 => ?_) (fun h26 => ?_)
                      · have pr26 : (((mid + m - s : Nat) : Int) : Int) < ((b : Nat) : Int) := of_decide_eq_true h26
                        refine C_reg ?_
                        refine q1 rfl (lbw 1 a_77 rfl rfl rfl) ?_
                        refine p1 rfl <| p1 rfl <| p1 rfl ?_
                        refine li rfl (csrt b_79 rfl rfl rfl rfl (fun w' hs => ih (b - mid) (by omega) _ w' e2 (hA0.1.perm.trans hp) mid (mid + m - s) b (by first | assumption | omega) (by first | assumption | omega) (by first | assumption | omega) hsm hsn (Nat.le_refl _) hs) fun e3 hB0 => ?_)
                        refine D_end ?_
                        refine R_0n rfl fun w' hs => ⟨rfl, e3, ?_, hs.fd [0, 1] 1 rfl⟩
                        have hB : Chg e2 e3 mid b ∧ Srd lt e3 mid b := (by first | exact hB0 | exact ⟨Chg.refl _ _ _, srd_sub hsm (Nat.le_refl _) (by omega)⟩ | exact ⟨Chg.refl _ _ _, srd_sub hsn (by omega) (Nat.le_refl _)⟩); exact ⟨(((rot_chg hrot (by omega) (by omega)).mono (by omega) (by omega)).trans (hA.1.mono (by omega) (by omega))).trans (hB.1.mono (by omega) (by omega)), srd_join (srd_out hA.2 hB.1 (.inl (Nat.le_refl _))) hB.2 (crs_chg hcr hA.1 hB.1)⟩
                      · have pr26 : ¬ (((mid + m - s : Nat) : Int) : Int) < ((b : Nat) : Int) := of_decide_eq_false h26
                        refine C_skip ?_
                        refine R_0n rfl fun w' hs => ⟨rfl, e2, ?_, hs.fd [0, 1] 1 rfl⟩
                        have hB : Chg e2 e2 mid b ∧ Srd lt e2 mid b := (by first | exact hB0 | exact ⟨Chg.refl _ _ _, srd_sub hsm (Nat.le_refl _) (by omega)⟩ | exact ⟨Chg.refl _ _ _, srd_sub hsn (by omega) (Nat.le_refl _)⟩); exact ⟨(((rot_chg hrot (by omega) (by omega)).mono (by omega) (by omega)).trans (hA.1.mono (by omega) (by omega))).trans (hB.1.mono (by omega) (by omega)), srd_join (srd_out hA.2 hB.1 (.inl (Nat.le_refl _))) hB.2 (crs_chg hcr hA.1 hB.1)⟩
                    · have pr25 : ¬ (((mid : Nat) : Int) : Int) < ((mid + m - s : Nat) : Int) := of_decide_eq_false h25
                      refine n1 rfl ?_
                      refine n1 rfl ?_
                      refine n1 rfl ?_
                      refine p1 rfl ?_
                      refine D_end ?_
                      refine x_then ?_
                      refine C_f rfl ?_
                      refine C_skip ?_
                      refine R_0n rfl fun w' hs => ⟨rfl, e2, ?_, hs.fd [0, 1] 1 rfl⟩
                      have hB : Chg e2 e2 mid b ∧ Srd lt e2 mid b := (by first | exact hB0 | exact ⟨Chg.refl _ _ _, srd_sub hsm (Nat.le_refl _) (by omega)⟩ | exact ⟨Chg.refl _ _ _, srd_sub hsn (by omega) (Nat.le_refl _)⟩); exact ⟨(((rot_chg hrot (by omega) (by omega)).mono (by omega) (by omega)).trans (hA.1.mono (by omega) (by omega))).trans (hB.1.mono (by omega) (by omega)), srd_join (srd_out hA.2 hB.1 (.inl (Nat.le_refl _))) hB.2 (crs_chg hcr hA.1 hB.1)⟩
                  · have pr24 : ¬ (((s : Nat) : Int) : Int) < ((mid : Nat) : Int) := of_decide_eq_false h24
                    refine C_skip ?_
                    refine x_then ?_
                    refine C_seq ?_
                    have hA : Chg d d a mid ∧ Srd lt d a mid := by first | exact hA0 | exact ⟨Chg.refl _ _ _, srd_sub hsd.1 (Nat.le_refl _) (by omega)⟩ | exact ⟨Chg.refl _ _ _, srd_sub hsd.2.1 (by omega) (Nat.le_refl _)⟩
                    have hsm := srd_out hsd.2.2.1 hA.1 (.inr (Nat.le_refl _))
                    have hsn := srd_out hsd.2.2.2 hA.1 (.inr (by omega))
                    refine C_reg ?_
                    refine p1 rfl <| p1 rfl <| p1 rfl <| p1 rfl ?_
                    refine gs 167 rfl rfl (fun h27 => ?_) (fun h27 => ?_)
                    · have pr27 : (((mid : Nat) : Int) : Int) < ((mid + m - s : Nat) : Int) := of_decide_eq_true h27
                      refine p1 rfl <| p1 rfl <| p1 rfl <| p1 rfl ?_
                      refine D_end ?_
                      refine x_then ?_
                      refine D_weak [(3, (.int .i64 ((b : Nat) : Int))), (4, (.pointer (some ⟨g1, 0, none⟩))), (16, (.int .i64 ((mid : Nat) : Int))), (22, (.int .i64 ((mid + m - s : Nat) : Int))), (171, (.bool (decide ((((mid + m - s : Nat) : Int) : Int) < ((b : Nat) : Int)))))] ⟨rfl, rfl, rfl, rfl, rfl, trivial⟩ ?_
                      refine C_if _ rfl (fun h28 => ?_) (fun h28 => ?_)
                      · have pr28 : (((mid + m - s : Nat) : Int) : Int) < ((b : Nat) : Int) := of_decide_eq_true h28
                        refine C_reg ?_
                        refine q1 rfl (lbw 0 a_77 rfl rfl rfl) ?_
                        refine p1 rfl <| p1 rfl <| p1 rfl ?_
                        refine D_fd [1] 0 rfl ?_
                        refine li rfl (csrt b_79 rfl rfl rfl rfl (fun w' hs => ih (b - mid) (by omega) _ w' d hp mid (mid + m - s) b (by first | assumption | omega) (by first | assumption | omega) (by first | assumption | omega) hsm hsn (Nat.le_refl _) hs) fun e3 hB0 => ?_)
                        refine D_end ?_
                        refine R_0n rfl fun w' hs => ⟨rfl, e3, ?_, hs.fd [0, 1] 1 rfl⟩
                        have hB : Chg d e3 mid b ∧ Srd lt e3 mid b := (by first | exact hB0 | exact ⟨Chg.refl _ _ _, srd_sub hsm (Nat.le_refl _) (by omega)⟩ | exact ⟨Chg.refl _ _ _, srd_sub hsn (by omega) (Nat.le_refl _)⟩); exact ⟨(((rot_chg hrot (by omega) (by omega)).mono (by omega) (by omega)).trans (hA.1.mono (by omega) (by omega))).trans (hB.1.mono (by omega) (by omega)), srd_join (srd_out hA.2 hB.1 (.inl (Nat.le_refl _))) hB.2 (crs_chg hcr hA.1 hB.1)⟩
                      · have pr28 : ¬ (((mid + m - s : Nat) : Int) : Int) < ((b : Nat) : Int) := of_decide_eq_false h28
                        refine C_skip ?_
                        refine R_0n rfl fun w' hs => ⟨rfl, d, ?_, hs.fd [] 1 rfl⟩
                        have hB : Chg d d mid b ∧ Srd lt d mid b := (by first | exact hB0 | exact ⟨Chg.refl _ _ _, srd_sub hsm (Nat.le_refl _) (by omega)⟩ | exact ⟨Chg.refl _ _ _, srd_sub hsn (by omega) (Nat.le_refl _)⟩); exact ⟨(((rot_chg hrot (by omega) (by omega)).mono (by omega) (by omega)).trans (hA.1.mono (by omega) (by omega))).trans (hB.1.mono (by omega) (by omega)), srd_join (srd_out hA.2 hB.1 (.inl (Nat.le_refl _))) hB.2 (crs_chg hcr hA.1 hB.1)⟩
                    · have pr27 : ¬ (((mid : Nat) : Int) : Int) < ((mid + m - s : Nat) : Int) := of_decide_eq_false h27
                      refine n1 rfl ?_
                      refine n1 rfl ?_
                      refine n1 rfl ?_
                      refine p1 rfl ?_
                      refine D_end ?_
                      refine x_then ?_
                      refine D_weak [(3, (.int .i64 ((b : Nat) : Int))), (4, (.pointer (some ⟨g1, 0, none⟩))), (16, (.int .i64 ((mid : Nat) : Int))), (22, (.int .i64 ((mid + m - s : Nat) : Int))), (171, (.bool false))] ⟨rfl, rfl, rfl, rfl, rfl, trivial⟩ ?_
                      refine C_f rfl ?_
                      refine C_skip ?_
                      refine R_0n rfl fun w' hs => ⟨rfl, d, ?_, hs.fd [] 1 rfl⟩
                      have hB : Chg d d mid b ∧ Srd lt d mid b := (by first | exact hB0 | exact ⟨Chg.refl _ _ _, srd_sub hsm (Nat.le_refl _) (by omega)⟩ | exact ⟨Chg.refl _ _ _, srd_sub hsn (by omega) (Nat.le_refl _)⟩); exact ⟨(((rot_chg hrot (by omega) (by omega)).mono (by omega) (by omega)).trans (hA.1.mono (by omega) (by omega))).trans (hB.1.mono (by omega) (by omega)), srd_join (srd_out hA.2 hB.1 (.inl (Nat.le_refl _))) hB.2 (crs_chg hcr hA.1 hB.1)⟩
                · have pr23 : ¬ (((a : Nat) : Int) : Int) < ((s : Nat) : Int) := of_decide_eq_false h23
                  refine n1 rfl ?_
                  refine n1 rfl ?_
                  refine n1 rfl ?_
                  refine p1 rfl ?_
                  refine D_end ?_
                  refine x_then ?_
                  refine C_f rfl ?_
                  refine C_skip ?_
                  refine x_then ?_
                  refine C_seq ?_
                  have hA : Chg d d a mid ∧ Srd lt d a mid := by first | exact hA0 | exact ⟨Chg.refl _ _ _, srd_sub hsd.1 (Nat.le_refl _) (by omega)⟩ | exact ⟨Chg.refl _ _ _, srd_sub hsd.2.1 (by omega) (Nat.le_refl _)⟩
                  have hsm := srd_out hsd.2.2.1 hA.1 (.inr (Nat.le_refl _))
                  have hsn := srd_out hsd.2.2.2 hA.1 (.inr (by omega))
                  refine C_reg ?_
                  refine p1 rfl <| p1 rfl <| p1 rfl <| p1 rfl ?_
                  refine gs 167 rfl rfl (fun h29 => ?_) (fun h29 => ?_)
                  · have pr29 : (((mid : Nat) : Int) : Int) < ((mid + m - s : Nat) : Int) := of_decide_eq_true h29
                    refine p1 rfl <| p1 rfl <| p1 rfl <| p1 rfl ?_
                    refine D_end ?_
                    refine x_then ?_
                    refine D_weak [(3, (.int .i64 ((b : Nat) : Int))), (4, (.pointer (some ⟨g1, 0, none⟩))), (16, (.int .i64 ((mid : Nat) : Int))), (22, (.int .i64 ((mid + m - s : Nat) : Int))), (171, (.bool (decide ((((mid + m - s : Nat) : Int) : Int) < ((b : Nat) : Int)))))] ⟨rfl, rfl, rfl, rfl, rfl, trivial⟩ ?_
                    refine C_if _ rfl (fun h30 => ?_) (fun h30 => ?_)
                    · have pr30 : (((mid + m - s : Nat) : Int) : Int) < ((b : Nat) : Int) := of_decide_eq_true h30
                      refine C_reg ?_
                      refine q1 rfl (lbw 0 a_77 rfl rfl rfl) ?_
                      refine p1 rfl <| p1 rfl <| p1 rfl ?_
                      refine D_fd [1] 0 rfl ?_
                      refine li rfl (csrt b_79 rfl rfl rfl rfl (fun w' hs => ih (b - mid) (by omega) _ w' d hp mid (mid + m - s) b (by first | assumption | omega) (by first | assumption | omega) (by first | assumption | omega) hsm hsn (Nat.le_refl _) hs) fun e3 hB0 => ?_)
                      refine D_end ?_
                      refine R_0n rfl fun w' hs => ⟨rfl, e3, ?_, hs.fd [0, 1] 1 rfl⟩
                      have hB : Chg d e3 mid b ∧ Srd lt e3 mid b := (by first | exact hB0 | exact ⟨Chg.refl _ _ _, srd_sub hsm (Nat.le_refl _) (by omega)⟩ | exact ⟨Chg.refl _ _ _, srd_sub hsn (by omega) (Nat.le_refl _)⟩); exact ⟨(((rot_chg hrot (by omega) (by omega)).mono (by omega) (by omega)).trans (hA.1.mono (by omega) (by omega))).trans (hB.1.mono (by omega) (by omega)), srd_join (srd_out hA.2 hB.1 (.inl (Nat.le_refl _))) hB.2 (crs_chg hcr hA.1 hB.1)⟩
                    · have pr30 : ¬ (((mid + m - s : Nat) : Int) : Int) < ((b : Nat) : Int) := of_decide_eq_false h30
                      refine C_skip ?_
                      refine R_0n rfl fun w' hs => ⟨rfl, d, ?_, hs.fd [] 1 rfl⟩
                      have hB : Chg d d mid b ∧ Srd lt d mid b := (by first | exact hB0 | exact ⟨Chg.refl _ _ _, srd_sub hsm (Nat.le_refl _) (by omega)⟩ | exact ⟨Chg.refl _ _ _, srd_sub hsn (by omega) (Nat.le_refl _)⟩); exact ⟨(((rot_chg hrot (by omega) (by omega)).mono (by omega) (by omega)).trans (hA.1.mono (by omega) (by omega))).trans (hB.1.mono (by omega) (by omega)), srd_join (srd_out hA.2 hB.1 (.inl (Nat.le_refl _))) hB.2 (crs_chg hcr hA.1 hB.1)⟩
                  · have pr29 : ¬ (((mid : Nat) : Int) : Int) < ((mid + m - s : Nat) : Int) := of_decide_eq_false h29
                    refine n1 rfl ?_
                    refine n1 rfl ?_
                    refine n1 rfl ?_
                    refine p1 rfl ?_
                    refine D_end ?_
                    refine x_then ?_
                    refine D_weak [(3, (.int .i64 ((b : Nat) : Int))), (4, (.pointer (some ⟨g1, 0, none⟩))), (16, (.int .i64 ((mid : Nat) : Int))), (22, (.int .i64 ((mid + m - s : Nat) : Int))), (171, (.bool false))] ⟨rfl, rfl, rfl, rfl, rfl, trivial⟩ ?_
                    refine C_f rfl ?_
                    refine C_skip ?_
                    refine R_0n rfl fun w' hs => ⟨rfl, d, ?_, hs.fd [] 1 rfl⟩
                    have hB : Chg d d mid b ∧ Srd lt d mid b := (by first | exact hB0 | exact ⟨Chg.refl _ _ _, srd_sub hsm (Nat.le_refl _) (by omega)⟩ | exact ⟨Chg.refl _ _ _, srd_sub hsn (by omega) (Nat.le_refl _)⟩); exact ⟨(((rot_chg hrot (by omega) (by omega)).mono (by omega) (by omega)).trans (hA.1.mono (by omega) (by omega))).trans (hB.1.mono (by omega) (by omega)), srd_join (srd_out hA.2 hB.1 (.inl (Nat.le_refl _))) hB.2 (crs_chg hcr hA.1 hB.1)⟩
            · have pr13 : ¬ (((s : Nat) : Int) : Int) < ((m : Nat) : Int) := of_decide_eq_false h13
              refine n1 rfl ?_
              refine n1 rfl ?_
              refine n1 rfl ?_
              refine p1 rfl ?_
              refine D_end ?_
              refine x_then ?_
              refine D_weak [(1, (.int .i64 ((a : Nat) : Int))), (2, (.int .i64 ((m : Nat) : Int))), (3, (.int .i64 ((b : Nat) : Int))), (4, (.pointer (some ⟨g1, 0, none⟩))), (16, (.int .i64 ((mid : Nat) : Int))), (18, (.int .i64 ((s : Nat) : Int))), (22, (.int .i64 ((mid + m - s : Nat) : Int))), (145, (.bool false))] ⟨rfl, rfl, rfl, rfl, rfl, rfl, rfl, rfl, trivial⟩ ?_
              refine C_f rfl ?_
              refine C_skip ?_
              refine x_then ?_
              refine C_seq ?_
              refine C_seq ?_
              have hrot : Rot d d s m (mid + m - s) := by first | exact hro | exact rot_none (by omega) (by omega) (by omega)
              have hsea2 : Sea lt d (max a (mid + m - b)) (min m mid) (mid + m) s s := by rwa [show r = s from by omega] at hsea
              have hcr : Crs lt d a mid b := sym_crs ho rfl rfl hsea2 hs1 hs2 (by omega) (by omega) (by omega) (by omega) (by omega) (by omega) (by omega) (by omega) (by omega) hrot
              have hsd := rot_srd hrot hs1 hs2 (by omega) (by omega) (by omega) (by omega)
              rw [show s + (mid + m - s - m) = mid from by omega] at hsd
              refine C_reg ?_
              refine p1 rfl <| p1 rfl <| p1 rfl <| p1 rfl ?_
              refine gs 154 rfl rfl (fun h31 => ?_) (fun h31 => ?_)
              · have pr31 : (((a : Nat) : Int) : Int) < ((s : Nat) : Int) := of_decide_eq_true h31
                refine p1 rfl <| p1 rfl <| p1 rfl <| p1 rfl ?_
                refine D_end ?_
                refine x_then ?_
                refine C_if _ rfl (fun h32 => ?_) (fun h32 => ?_)
                · have pr32 : (((s : Nat) : Int) : Int) < ((mid : Nat) : Int) := of_decide_eq_true h32
                  refine C_reg ?_
                  refine q1 rfl (lbw 0 a_77 rfl rfl rfl) ?_
                  refine p1 rfl <| p1 rfl <| p1 rfl ?_
                  refine D_fd [1] 0 rfl ?_
                  refine li rfl (csrt b_79 rfl rfl rfl rfl (fun w' hs => ih (mid - a) (by omega) _ w' d hp a s mid (by first | assumption | omega) (by first | assumption | omega) (by first | assumption | omega) hsd.1 hsd.2.1 (Nat.le_refl _) hs) fun e2 hA0 => ?_)
                  refine D_end ?_
                  refine x_then ?_
                  refine D_weak [(3, (.int .i64 ((b : Nat) : Int))), (4, (.pointer (some ⟨g1, 0, none⟩))), (16, (.int .i64 ((mid : Nat) : Int))), (22, (.int .i64 ((mid + m - s : Nat) : Int)))] ⟨rfl, rfl, rfl, rfl, trivial⟩ ?_
                  refine D_H (C e2 :: bx g1 [(.func (.func lf) #[] lc.toArray), (.func (.func sf) #[] sc.toArray)] :: Hs) rfl ?_
                  refine C_seq ?_
                  have hA : Chg d e2 a mid ∧ Srd lt e2 a mid := by first | exact hA0 | exact ⟨Chg.refl _ _ _, srd_sub hsd.1 (Nat.le_refl _) (by omega)⟩ | exact ⟨Chg.refl _ _ _, srd_sub hsd.2.1 (by omega) (Nat.le_refl _)⟩
                  have hsm := srd_out hsd.2.2.1 hA.1 (.inr (Nat.le_refl _))
                  have hsn := srd_out hsd.2.2.2 hA.1 (.inr (by omega))
                  refine C_reg ?_
                  refine p1 rfl <| p1 rfl <| p1 rfl <| p1 rfl ?_
                  refine gs 167 rfl rfl (fun h33 => ?_) (fun h33 => ?_)
                  · have pr33 : (((mid : Nat) : Int) : Int) < ((mid + m - s : Nat) : Int) := of_decide_eq_true h33
                    refine p1 rfl <| p1 rfl <| p1 rfl <| p1 rfl ?_
                    refine D_end ?_
                    refine x_then ?_
                    refine C_if _ rfl (fun h34 => ?_) (fun h34 => ?_)
                    · have pr34 : (((mid + m - s : Nat) : Int) : Int) < ((b : Nat) : Int) := of_decide_eq_true h34
                      refine C_reg ?_
                      refine q1 rfl (lbw 1 a_77 rfl rfl rfl) ?_
                      refine p1 rfl <| p1 rfl <| p1 rfl ?_
                      refine li rfl (csrt b_79 rfl rfl rfl rfl (fun w' hs => ih (b - mid) (by omega) _ w' e2 (hA0.1.perm.trans hp) mid (mid + m - s) b (by first | assumption | omega) (by first | assumption | omega) (by first | assumption | omega) hsm hsn (Nat.le_refl _) hs) fun e3 hB0 => ?_)
                      refine D_end ?_
                      refine R_0n rfl fun w' hs => ⟨rfl, e3, ?_, hs.fd [0, 1] 1 rfl⟩
                      have hB : Chg e2 e3 mid b ∧ Srd lt e3 mid b := (by first | exact hB0 | exact ⟨Chg.refl _ _ _, srd_sub hsm (Nat.le_refl _) (by omega)⟩ | exact ⟨Chg.refl _ _ _, srd_sub hsn (by omega) (Nat.le_refl _)⟩); exact ⟨(((rot_chg hrot (by omega) (by omega)).mono (by omega) (by omega)).trans (hA.1.mono (by omega) (by omega))).trans (hB.1.mono (by omega) (by omega)), srd_join (srd_out hA.2 hB.1 (.inl (Nat.le_refl _))) hB.2 (crs_chg hcr hA.1 hB.1)⟩
                    · have pr34 : ¬ (((mid + m - s : Nat) : Int) : Int) < ((b : Nat) : Int) := of_decide_eq_false h34
                      refine C_skip ?_
                      refine R_0n rfl fun w' hs => ⟨rfl, e2, ?_, hs.fd [0, 1] 1 rfl⟩
                      have hB : Chg e2 e2 mid b ∧ Srd lt e2 mid b := (by first | exact hB0 | exact ⟨Chg.refl _ _ _, srd_sub hsm (Nat.le_refl _) (by omega)⟩ | exact ⟨Chg.refl _ _ _, srd_sub hsn (by omega) (Nat.le_refl _)⟩); exact ⟨(((rot_chg hrot (by omega) (by omega)).mono (by omega) (by omega)).trans (hA.1.mono (by omega) (by omega))).trans (hB.1.mono (by omega) (by omega)), srd_join (srd_out hA.2 hB.1 (.inl (Nat.le_refl _))) hB.2 (crs_chg hcr hA.1 hB.1)⟩
                  · have pr33 : ¬ (((mid : Nat) : Int) : Int) < ((mid + m - s : Nat) : Int) := of_decide_eq_false h33
                    refine n1 rfl ?_
                    refine n1 rfl ?_
                    refine n1 rfl ?_
                    refine p1 rfl ?_
                    refine D_end ?_
                    refine x_then ?_
                    refine C_f rfl ?_
                    refine C_skip ?_
                    refine R_0n rfl fun w' hs => ⟨rfl, e2, ?_, hs.fd [0, 1] 1 rfl⟩
                    have hB : Chg e2 e2 mid b ∧ Srd lt e2 mid b := (by first | exact hB0 | exact ⟨Chg.refl _ _ _, srd_sub hsm (Nat.le_refl _) (by omega)⟩ | exact ⟨Chg.refl _ _ _, srd_sub hsn (by omega) (Nat.le_refl _)⟩); exact ⟨(((rot_chg hrot (by omega) (by omega)).mono (by omega) (by omega)).trans (hA.1.mono (by omega) (by omega))).trans (hB.1.mono (by omega) (by omega)), srd_join (srd_out hA.2 hB.1 (.inl (Nat.le_refl _))) hB.2 (crs_chg hcr hA.1 hB.1)⟩
                · have pr32 : ¬ (((s : Nat) : Int) : Int) < ((mid : Nat) : Int) := of_decide_eq_false h32
                  refine C_skip ?_
                  refine x_then ?_
                  refine C_seq ?_
                  have hA : Chg d d a mid ∧ Srd lt d a mid := by first | exact hA0 | exact ⟨Chg.refl _ _ _, srd_sub hsd.1 (Nat.le_refl _) (by omega)⟩ | exact ⟨Chg.refl _ _ _, srd_sub hsd.2.1 (by omega) (Nat.le_refl _)⟩
                  have hsm := srd_out hsd.2.2.1 hA.1 (.inr (Nat.le_refl _))
                  have hsn := srd_out hsd.2.2.2 hA.1 (.inr (by omega))
                  refine C_reg ?_
                  refine p1 rfl <| p1 rfl <| p1 rfl <| p1 rfl ?_
                  refine gs 167 rfl rfl (fun h35 => ?_) (fun h35 => ?_)
                  · have pr35 : (((mid : Nat) : Int) : Int) < ((mid + m - s : Nat) : Int) := of_decide_eq_true h35
                    refine p1 rfl <| p1 rfl <| p1 rfl <| p1 rfl ?_
                    refine D_end ?_
                    refine x_then ?_
                    refine D_weak [(3, (.int .i64 ((b : Nat) : Int))), (4, (.pointer (some ⟨g1, 0, none⟩))), (16, (.int .i64 ((mid : Nat) : Int))), (22, (.int .i64 ((mid + m - s : Nat) : Int))), (171, (.bool (decide ((((mid + m - s : Nat) : Int) : Int) < ((b : Nat) : Int)))))] ⟨rfl, rfl, rfl, rfl, rfl, trivial⟩ ?_
                    refine C_if _ rfl (fun h36 => ?_) (fun h36 => ?_)
                    · have pr36 : (((mid + m - s : Nat) : Int) : Int) < ((b : Nat) : Int) := of_decide_eq_true h36
                      refine C_reg ?_
                      refine q1 rfl (lbw 0 a_77 rfl rfl rfl) ?_
                      refine p1 rfl <| p1 rfl <| p1 rfl ?_
                      refine D_fd [1] 0 rfl ?_
                      refine li rfl (csrt b_79 rfl rfl rfl rfl (fun w' hs => ih (b - mid) (by omega) _ w' d hp mid (mid + m - s) b (by first | assumption | omega) (by first | assumption | omega) (by first | assumption | omega) hsm hsn (Nat.le_refl _) hs) fun e3 hB0 => ?_)
                      refine D_end ?_
                      refine R_0n rfl fun w' hs => ⟨rfl, e3, ?_, hs.fd [0, 1] 1 rfl⟩
                      have hB : Chg d e3 mid b ∧ Srd lt e3 mid b := (by first | exact hB0 | exact ⟨Chg.refl _ _ _, srd_sub hsm (Nat.le_refl _) (by omega)⟩ | exact ⟨Chg.refl _ _ _, srd_sub hsn (by omega) (Nat.le_refl _)⟩); exact ⟨(((rot_chg hrot (by omega) (by omega)).mono (by omega) (by omega)).trans (hA.1.mono (by omega) (by omega))).trans (hB.1.mono (by omega) (by omega)), srd_join (srd_out hA.2 hB.1 (.inl (Nat.le_refl _))) hB.2 (crs_chg hcr hA.1 hB.1)⟩
                    · have pr36 : ¬ (((mid + m - s : Nat) : Int) : Int) < ((b : Nat) : Int) := of_decide_eq_false h36
                      refine C_skip ?_
                      refine R_0n rfl fun w' hs => ⟨rfl, d, ?_, hs.fd [] 1 rfl⟩
                      have hB : Chg d d mid b ∧ Srd lt d mid b := (by first | exact hB0 | exact ⟨Chg.refl _ _ _, srd_sub hsm (Nat.le_refl _) (by omega)⟩ | exact ⟨Chg.refl _ _ _, srd_sub hsn (by omega) (Nat.le_refl _)⟩); exact ⟨(((rot_chg hrot (by omega) (by omega)).mono (by omega) (by omega)).trans (hA.1.mono (by omega) (by omega))).trans (hB.1.mono (by omega) (by omega)), srd_join (srd_out hA.2 hB.1 (.inl (Nat.le_refl _))) hB.2 (crs_chg hcr hA.1 hB.1)⟩
                  · have pr35 : ¬ (((mid : Nat) : Int) : Int) < ((mid + m - s : Nat) : Int) := of_decide_eq_false h35
                    refine n1 rfl ?_
                    refine n1 rfl ?_
                    refine n1 rfl ?_
                    refine p1 rfl ?_
                    refine D_end ?_
                    refine x_then ?_
                    refine D_weak [(3, (.int .i64 ((b : Nat) : Int))), (4, (.pointer (some ⟨g1, 0, none⟩))), (16, (.int .i64 ((mid : Nat) : Int))), (22, (.int .i64 ((mid + m - s : Nat) : Int))), (171, (.bool false))] ⟨rfl, rfl, rfl, rfl, rfl, trivial⟩ ?_
                    refine C_f rfl ?_
                    refine C_skip ?_
                    refine R_0n rfl fun w' hs => ⟨rfl, d, ?_, hs.fd [] 1 rfl⟩
                    have hB : Chg d d mid b ∧ Srd lt d mid b := (by first | exact hB0 | exact ⟨Chg.refl _ _ _, srd_sub hsm (Nat.le_refl _) (by omega)⟩ | exact ⟨Chg.refl _ _ _, srd_sub hsn (by omega) (Nat.le_refl _)⟩); exact ⟨(((rot_chg hrot (by omega) (by omega)).mono (by omega) (by omega)).trans (hA.1.mono (by omega) (by omega))).trans (hB.1.mono (by omega) (by omega)), srd_join (srd_out hA.2 hB.1 (.inl (Nat.le_refl _))) hB.2 (crs_chg hcr hA.1 hB.1)⟩
              · have pr31 : ¬ (((a : Nat) : Int) : Int) < ((s : Nat) : Int) := of_decide_eq_false h31
                refine n1 rfl ?_
                refine n1 rfl ?_
                refine n1 rfl ?_
                refine p1 rfl ?_
                refine D_end ?_
                refine x_then ?_
                refine C_f rfl ?_
                refine C_skip ?_
                refine x_then ?_
                refine C_seq ?_
                have hA : Chg d d a mid ∧ Srd lt d a mid := by first | exact hA0 | exact ⟨Chg.refl _ _ _, srd_sub hsd.1 (Nat.le_refl _) (by omega)⟩ | exact ⟨Chg.refl _ _ _, srd_sub hsd.2.1 (by omega) (Nat.le_refl _)⟩
                have hsm := srd_out hsd.2.2.1 hA.1 (.inr (Nat.le_refl _))
                have hsn := srd_out hsd.2.2.2 hA.1 (.inr (by omega))
                refine C_reg ?_
                refine p1 rfl <| p1 rfl <| p1 rfl <| p1 rfl ?_
                refine gs 167 rfl rfl (fun h37 => ?_) (fun h37 => ?_)
                · have pr37 : (((mid : Nat) : Int) : Int) < ((mid + m - s : Nat) : Int) := of_decide_eq_true h37
                  refine p1 rfl <| p1 rfl <| p1 rfl <| p1 rfl ?_
                  refine D_end ?_
                  refine x_then ?_
                  refine D_weak [(3, (.int .i64 ((b : Nat) : Int))), (4, (.pointer (some ⟨g1, 0, none⟩))), (16, (.int .i64 ((mid : Nat) : Int))), (22, (.int .i64 ((mid + m - s : Nat) : Int))), (171, (.bool (decide ((((mid + m - s : Nat) : Int) : Int) < ((b : Nat) : Int)))))] ⟨rfl, rfl, rfl, rfl, rfl, trivial⟩ ?_
                  refine C_if _ rfl (fun h38 => ?_) (fun h38 => ?_)
                  · have pr38 : (((mid + m - s : Nat) : Int) : Int) < ((b : Nat) : Int) := of_decide_eq_true h38
                    refine C_reg ?_
                    refine q1 rfl (lbw 0 a_77 rfl rfl rfl) ?_
                    refine p1 rfl <| p1 rfl <| p1 rfl ?_
                    refine D_fd [1] 0 rfl ?_
                    refine li rfl (csrt b_79 rfl rfl rfl rfl (fun w' hs => ih (b - mid) (by omega) _ w' d hp mid (mid + m - s) b (by first | assumption | omega) (by first | assumption | omega) (by first | assumption | omega) hsm hsn (Nat.le_refl _) hs) fun e3 hB0 => ?_)
                    refine D_end ?_
                    refine R_0n rfl fun w' hs => ⟨rfl, e3, ?_, hs.fd [0, 1] 1 rfl⟩
                    have hB : Chg d e3 mid b ∧ Srd lt e3 mid b := (by first | exact hB0 | exact ⟨Chg.refl _ _ _, srd_sub hsm (Nat.le_refl _) (by omega)⟩ | exact ⟨Chg.refl _ _ _, srd_sub hsn (by omega) (Nat.le_refl _)⟩); exact ⟨(((rot_chg hrot (by omega) (by omega)).mono (by omega) (by omega)).trans (hA.1.mono (by omega) (by omega))).trans (hB.1.mono (by omega) (by omega)), srd_join (srd_out hA.2 hB.1 (.inl (Nat.le_refl _))) hB.2 (crs_chg hcr hA.1 hB.1)⟩
                  · have pr38 : ¬ (((mid + m - s : Nat) : Int) : Int) < ((b : Nat) : Int) := of_decide_eq_false h38
                    refine C_skip ?_
                    refine R_0n rfl fun w' hs => ⟨rfl, d, ?_, hs.fd [] 1 rfl⟩
                    have hB : Chg d d mid b ∧ Srd lt d mid b := (by first | exact hB0 | exact ⟨Chg.refl _ _ _, srd_sub hsm (Nat.le_refl _) (by omega)⟩ | exact ⟨Chg.refl _ _ _, srd_sub hsn (by omega) (Nat.le_refl _)⟩); exact ⟨(((rot_chg hrot (by omega) (by omega)).mono (by omega) (by omega)).trans (hA.1.mono (by omega) (by omega))).trans (hB.1.mono (by omega) (by omega)), srd_join (srd_out hA.2 hB.1 (.inl (Nat.le_refl _))) hB.2 (crs_chg hcr hA.1 hB.1)⟩
                · have pr37 : ¬ (((mid : Nat) : Int) : Int) < ((mid + m - s : Nat) : Int) := of_decide_eq_false h37
                  refine n1 rfl ?_
                  refine n1 rfl ?_
                  refine n1 rfl ?_
                  refine p1 rfl ?_
                  refine D_end ?_
                  refine x_then ?_
                  refine D_weak [(3, (.int .i64 ((b : Nat) : Int))), (4, (.pointer (some ⟨g1, 0, none⟩))), (16, (.int .i64 ((mid : Nat) : Int))), (22, (.int .i64 ((mid + m - s : Nat) : Int))), (171, (.bool false))] ⟨rfl, rfl, rfl, rfl, rfl, trivial⟩ ?_
                  refine C_f rfl ?_
                  refine C_skip ?_
                  refine R_0n rfl fun w' hs => ⟨rfl, d, ?_, hs.fd [] 1 rfl⟩
                  have hB : Chg d d mid b ∧ Srd lt d mid b := (by first | exact hB0 | exact ⟨Chg.refl _ _ _, srd_sub hsm (Nat.le_refl _) (by omega)⟩ | exact ⟨Chg.refl _ _ _, srd_sub hsn (by omega) (Nat.le_refl _)⟩); exact ⟨(((rot_chg hrot (by omega) (by omega)).mono (by omega) (by omega)).trans (hA.1.mono (by omega) (by omega))).trans (hB.1.mono (by omega) (by omega)), srd_join (srd_out hA.2 hB.1 (.inl (Nat.le_refl _))) hB.2 (crs_chg hcr hA.1 hB.1)⟩
      · have pr10 : ¬ (((mid : Nat) : Int) : Int) < ((m : Nat) : Int) := of_decide_eq_false h10
        refine C_seq ?_
        refine C_reg ?_
        refine p1 rfl <| p1 rfl ?_
        refine D_end ?_
        refine x_then ?_
        refine C_reg ?_
        refine p1 rfl <| p1 rfl ?_
        refine D_end ?_
        refine x_then ?_
        refine C_seq ?_
        refine C_reg ?_
        refine p1 rfl ?_
        refine q1 rfl (D_sub rfl rfl rfl (r := ((mid + m - 1 : Nat) : Int)) (by omega) (by omega)) ?_
        refine p1 rfl ?_
        refine D_end ?_
        refine x_then ?_
        refine C_seq ?_
        refine C_block ?_
        refine C_loop (fun m_ ac w' => ∃ (s : Nat), ∃ (r : Nat), (max a (mid + m - b) ≤ s) ∧ (s ≤ r) ∧ (r ≤ min m mid) ∧ (Sea lt d (max a (mid + m - b)) (min m mid) (mid + m) s r) ∧ m_ = r - s ∧ Fits ac 177 [(1, (.int .i64 ((a : Nat) : Int))), (2, (.int .i64 ((m : Nat) : Int))), (3, (.int .i64 ((b : Nat) : Int))), (4, (.pointer (some ⟨g1, 0, none⟩))), (16, (.int .i64 ((mid : Nat) : Int))), (17, (.int .i64 ((mid + m : Nat) : Int))), (18, (.int .i64 ((s : Nat) : Int))), (19, (.int .i64 ((r : Nat) : Int))), (20, (.int .i64 ((mid + m - 1 : Nat) : Int)))] ∧ St w0 (bx g1 [(.func (.func lf) #[] lc.toArray), (.func (.func sf) #[] sc.toArray)] :: C d :: Hs) w') ?_ ?_
        · refine fun ac w' hf hs => ⟨_, a, m, ?_, ?_, ?_, ?_, rfl, hf.weak ⟨rfl, rfl, rfl, rfl, rfl, rfl, rfl, rfl, rfl, trivial⟩, hs⟩
          · first | assumption | omega | simp
          · first | assumption | omega | simp
          · first | assumption | omega | simp
          · first | (rw [show max a (mid + m - b) = mid + m - b from by omega, show min m mid = mid from by omega]; exact sea_start _ _ _ _) | (rw [show max a (mid + m - b) = a from by omega, show min m mid = m from by omega]; exact sea_start _ _ _ _)
        · rintro m_ ac w' ⟨s, r, h1, h2, h3, hsea, rfl, hf, hs⟩
          refine D.use ?_ hf hs
          clear hf hs ac w'
          refine C_seq ?_
          refine C_seq ?_
          refine C_reg ?_
          refine p1 rfl <| p1 rfl <| p1 rfl ?_
          refine D_end ?_
          refine x_then ?_
          refine C_if _ rfl (fun h39 => ?_) (fun h39 => ?_)
          · have pr39 : (((s : Nat) : Int) : Int) < ((r : Nat) : Int) := of_decide_eq_true h39
            refine C_skip ?_
            refine x_then ?_
            refine C_block ?_
            refine C_seq ?_
            refine C_reg ?_
            refine p1 rfl <| p1 rfl ?_
            refine q1 rfl (D_add rfl rfl rfl (r := ((s + r : Nat) : Int)) (by omega) (by omega)) ?_
            refine q1 rfl (D_cvU (n := (s + r)) uu_94 ⟨_, ui_3⟩ rfl rfl (by omega)) ?_
            refine q1 rfl (D_shU (n := (s + r)) rfl rfl rfl (by omega)) ?_
            refine q1 rfl (D_cvI (n := ((s + r) / 2)) ui_3 ⟨_, uu_94⟩ rfl rfl (by omega)) ?_
            refine p1 rfl ?_
            refine D_end ?_
            refine x_then ?_
            refine C_seq ?_
            refine C_reg ?_
            refine q1 rfl (D_fb f_77_0 rfl rfl (q := 0) rfl) ?_
            refine q1 rfl (lb 0 o_53 rfl rfl rfl rfl) ?_
            refine p1 rfl <| p1 rfl ?_
            refine q1 rfl (D_sub rfl rfl rfl (r := ((mid + m - 1 - (s + r) / 2 : Nat) : Int)) (by omega) (by omega)) ?_
            refine p1 rfl ?_
            refine D_fd [1] 0 rfl ?_
            refine li rfl (cless S hp (i := mid + m - 1 - (s + r) / 2) (j := (s + r) / 2) rfl rfl rfl rfl rfl (by omega) (by omega) ?_)
            refine p1 rfl ?_
            refine D_end ?_
            refine x_then ?_
            refine D_weak [(1, (.int .i64 ((a : Nat) : Int))), (2, (.int .i64 ((m : Nat) : Int))), (3, (.int .i64 ((b : Nat) : Int))), (4, (.pointer (some ⟨g1, 0, none⟩))), (16, (.int .i64 ((mid : Nat) : Int))), (17, (.int .i64 ((mid + m : Nat) : Int))), (18, (.int .i64 ((s : Nat) : Int))), (19, (.int .i64 ((r : Nat) : Int))), (20, (.int .i64 ((mid + m - 1 : Nat) : Int))), (21, (.int .i64 (((s + r) / 2 : Nat) : Int))), (131, (.bool (!(lt (A d (mid + m - 1 - (s + r) / 2)) (A d ((s + r) / 2))))))] ⟨rfl, rfl, rfl, rfl, rfl, rfl, rfl, rfl, rfl, rfl, rfl, trivial⟩ ?_
            refine D_H (C d :: bx g1 [(.func (.func lf) #[] lc.toArray), (.func (.func sf) #[] sc.toArray)] :: Hs) rfl ?_
            refine C_if _ rfl (fun h40 => ?_) (fun h40 => ?_)
            · have h40n : (lt (A d (mid + m - 1 - (s + r) / 2)) (A d ((s + r) / 2))) = false := not_t h40
              refine C_reg ?_
              refine p1 rfl ?_
              refine q1 rfl (D_add rfl rfl rfl (r := (((s + r) / 2 + 1 : Nat) : Int)) (by omega) (by omega)) ?_
              refine p1 rfl ?_
              refine D_end ?_
              refine x_blk ?_
              refine x_then ?_
              refine fun ac w' hf hs => ⟨_, ?_, (s + r) / 2 + 1, r, ?_, ?_, ?_, ?_, rfl, hf.weak ⟨rfl, rfl, rfl, rfl, rfl, rfl, rfl, rfl, rfl, trivial⟩, hs.fd [0, 1] 0 rfl⟩
              · omega
              · first | assumption | omega | simp
              · first | assumption | omega | simp
              · first | assumption | omega | simp
              · first | exact sea_up ho hsea hs1 hs2 (by omega) (by omega) (by omega) (by omega) (by omega) (by omega) (by omega) (by omega) (by assumption) | exact sea_dn ho hsea hs1 hs2 (by omega) (by omega) (by omega) (by omega) (by omega) (by omega) (by omega) (by omega) (by assumption)
            · have h40n : (lt (A d (mid + m - 1 - (s + r) / 2)) (A d ((s + r) / 2))) = true := not_f h40
              refine C_reg ?_
              refine p1 rfl <| p1 rfl ?_
              refine D_end ?_
              refine x_blk ?_
              refine x_then ?_
              refine fun ac w' hf hs => ⟨_, ?_, s, (s + r) / 2, ?_, ?_, ?_, ?_, rfl, hf.weak ⟨rfl, rfl, rfl, rfl, rfl, rfl, rfl, rfl, rfl, trivial⟩, hs.fd [0, 1] 0 rfl⟩
              · omega
              · first | assumption | omega | simp
              · first | assumption | omega | simp
              · first | assumption | omega | simp
              · first | exact sea_up ho hsea hs1 hs2 (by omega) (by omega) (by omega) (by omega) (by omega) (by omega) (by omega) (by omega) (by assumption) | exact sea_dn ho hsea hs1 hs2 (by omega) (by omega) (by omega) (by omega) (by omega) (by omega) (by omega) (by omega) (by assumption)
          · have pr39 : ¬ (((s : Nat) : Int) : Int) < ((r : Nat) : Int) := of_decide_eq_false h39
            refine C_exit ?_
            refine x_then_exit ?_
            refine x_then_exit ?_
            refine x_blk_eq ?_
            refine x_then ?_
            refine C_seq ?_
            refine C_reg ?_
            refine p1 rfl <| p1 rfl ?_
            refine q1 rfl (D_sub rfl rfl rfl (r := ((mid + m - s : Nat) : Int)) (by omega) (by omega)) ?_
            refine p1 rfl ?_
            refine D_end ?_
            refine x_then ?_
            refine C_seq ?_
            refine C_seq ?_
            refine C_reg ?_
            refine p1 rfl <| p1 rfl <| p1 rfl <| p1 rfl ?_
            refine gs 141 rfl rfl (fun h41 => ?_) (fun h41 => ?_)
            · have pr41 : (((s : Nat) : Int) : Int) < ((m : Nat) : Int) := of_decide_eq_true h41
              refine p1 rfl <| p1 rfl <| p1 rfl <| p1 rfl ?_
              refine D_end ?_
              refine x_then ?_
              refine D_weak [(1, (.int .i64 ((a : Nat) : Int))), (2, (.int .i64 ((m : Nat) : Int))), (3, (.int .i64 ((b : Nat) : Int))), (4, (.pointer (some ⟨g1, 0, none⟩))), (16, (.int .i64 ((mid : Nat) : Int))), (18, (.int .i64 ((s : Nat) : Int))), (22, (.int .i64 ((mid + m - s : Nat) : Int))), (145, (.bool (decide ((((m : Nat) : Int) : Int) < ((mid + m - s : Nat) : Int)))))] ⟨rfl, rfl, rfl, rfl, rfl, rfl, rfl, rfl, trivial⟩ ?_
              refine C_if _ rfl (fun h42 => ?_) (fun h42 => ?_)
              · have pr42 : (((m : Nat) : Int) : Int) < ((mid + m - s : Nat) : Int) := of_decide_eq_true h42
                refine C_reg ?_
                refine q1 rfl (lbw 0 a_77 rfl rfl rfl) ?_
                refine p1 rfl <| p1 rfl <| p1 rfl ?_
                refine D_fd [1] 0 rfl ?_
                refine li rfl (csrt b_83 rfl rfl rfl rfl (fun w' hs => sort_rotate_func S ho hmx _ w' d hp s m (mid + m - s) (by first | assumption | omega) (by first | assumption | omega) (by first | assumption | omega) hs) fun e1 hro => ?_)
                refine D_end ?_
                refine x_then ?_
                refine D_H (C e1 :: bx g1 [(.func (.func lf) #[] lc.toArray), (.func (.func sf) #[] sc.toArray)] :: Hs) rfl ?_
                refine C_seq ?_
                refine C_seq ?_
                have hrot : Rot d e1 s m (mid + m - s) := by first | exact hro | exact rot_none (by omega) (by omega) (by omega)
                have hsea2 : Sea lt d (max a (mid + m - b)) (min m mid) (mid + m) s s := by rwa [show r = s from by omega] at hsea
                have hcr : Crs lt e1 a mid b := sym_crs ho rfl rfl hsea2 hs1 hs2 (by omega) (by omega) (by omega) (by omega) (by omega) (by omega) (by omega) (by omega) (by omega) hrot
                have hsd := rot_srd hrot hs1 hs2 (by omega) (by omega) (by omega) (by omega)
                rw [show s + (mid + m - s - m) = mid from by omega] at hsd
                refine C_reg ?_
                refine p1 rfl <| p1 rfl <| p1 rfl <| p1 rfl ?_
                refine gs 154 rfl rfl (fun h43 => ?_) (fun h43 => ?_)
                · have pr43 : (((a : Nat) : Int) : Int) < ((s : Nat) : Int) := of_decide_eq_true h43
                  refine p1 rfl <| p1 rfl <| p1 rfl <| p1 rfl ?_
                  refine D_end ?_
                  refine x_then ?_
                  refine C_if _ rfl (fun h44 => ?_) (fun h44 => ?_)
                  · have pr44 : (((s : Nat) : Int) : Int) < ((mid : Nat) : Int) := of_decide_eq_true h44
                    refine C_reg ?_
                    refine q1 rfl (lbw 1 a_77 rfl rfl rfl) ?_
                    refine p1 rfl <| p1 rfl <| p1 rfl ?_
                    refine li rfl (csrt b_79 rfl rfl rfl rfl (fun w' hs => ih (mid - a) (by omega) _ w' e1 (hro.2.1.trans hp) a s mid (by first | assumption | omega) (by first | assumption | omega) (by first | assumption | omega) hsd.1 hsd.2.1 (Nat.le_refl _) hs) fun e2 hA0 => ?_)
                    refine D_end ?_
                    refine x_then ?_
                    refine D_weak [(3, (.int .i64 ((b : Nat) : Int))), (4, (.pointer (some ⟨g1, 0, none⟩))), (16, (.int .i64 ((mid : Nat) : Int))), (22, (.int .i64 ((mid + m - s : Nat) : Int)))] ⟨rfl, rfl, rfl, rfl, trivial⟩ ?_
                    refine D_H (C e2 :: bx g1 [(.func (.func lf) #[] lc.toArray), (.func (.func sf) #[] sc.toArray)] :: Hs) rfl ?_
                    refine C_seq ?_
                    have hA : Chg e1 e2 a mid ∧ Srd lt e2 a mid := by first | exact hA0 | exact ⟨Chg.refl _ _ _, srd_sub hsd.1 (Nat.le_refl _) (by omega)⟩ | exact ⟨Chg.refl _ _ _, srd_sub hsd.2.1 (by omega) (Nat.le_refl _)⟩
                    have hsm := srd_out hsd.2.2.1 hA.1 (.inr (Nat.le_refl _))
                    have hsn := srd_out hsd.2.2.2 hA.1 (.inr (by omega))
                    refine C_reg ?_
                    refine p1 rfl <| p1 rfl <| p1 rfl <| p1 rfl ?_
                    refine gs 167 rfl rfl (fun h45 => ?_) (fun h45 => ?_)
                    · have pr45 : (((mid : Nat) : Int) : Int) < ((mid + m - s : Nat) : Int) := of_decide_eq_true h45
                      refine p1 rfl <| p1 rfl <| p1 rfl <| p1 rfl ?_
                      refine D_end ?_
                      refine x_then ?_
                      refine C_if _ rfl (fun h46 => ?_) (fun h46 => ?_)
                      · have pr46 : (((mid + m - s : Nat) : Int) : Int) < ((b : Nat) : Int) := of_decide_eq_true h46
                        refine C_reg ?_
                        refine q1 rfl (lbw 1 a_77 rfl rfl rfl) ?_
                        refine p1 rfl <| p1 rfl <| p1 rfl ?_
                        refine li rfl (csrt b_79 rfl rfl rfl rfl (fun w' hs => ih (b - mid) (by omega) _ w' e2 (hA0.1.perm.trans (hro.2.1.trans hp)) mid (mid + m - s) b (by first | assumption | omega) (by first | assumption | omega) (by first | assumption | omega) hsm hsn (Nat.le_refl _) hs) fun e3 hB0 => ?_)
                        refine D_end ?_
                        refine R_0n rfl fun w' hs => ⟨rfl, e3, ?_, hs.fd [0, 1] 1 rfl⟩
                        have hB : Chg e2 e3 mid b ∧ Srd lt e3 mid b := (by first | exact hB0 | exact ⟨Chg.refl _ _ _, srd_sub hsm (Nat.le_refl _) (by omega)⟩ | exact ⟨Chg.refl _ _ _, srd_sub hsn (by omega) (Nat.le_refl _)⟩); exact ⟨(((rot_chg hrot (by omega) (by omega)).mono (by omega) (by omega)).trans (hA.1.mono (by omega) (by omega))).trans (hB.1.mono (by omega) (by omega)), srd_join (srd_out hA.2 hB.1 (.inl (Nat.le_refl _))) hB.2 (crs_chg hcr hA.1 hB.1)⟩
                      · have pr46 : ¬ (((mid + m - s : Nat) : Int) : Int) < ((b : Nat) : Int) := of_decide_eq_false h46
                        refine C_skip ?_
                        refine R_0n rfl fun w' hs => ⟨rfl, e2, ?_, hs.fd [0, 1] 1 rfl⟩
                        have hB : Chg e2 e2 mid b ∧ Srd lt e2 mid b := (by first | exact hB0 | exact ⟨Chg.refl _ _ _, srd_sub hsm (Nat.le_refl _) (by omega)⟩ | exact ⟨Chg.refl _ _ _, srd_sub hsn (by omega) (Nat.le_refl _)⟩); exact ⟨(((rot_chg hrot (by omega) (by omega)).mono (by omega) (by omega)).trans (hA.1.mono (by omega) (by omega))).trans (hB.1.mono (by omega) (by omega)), srd_join (srd_out hA.2 hB.1 (.inl (Nat.le_refl _))) hB.2 (crs_chg hcr hA.1 hB.1)⟩
                    · have pr45 : ¬ (((mid : Nat) : Int) : Int) < ((mid + m - s : Nat) : Int) := of_decide_eq_false h45
                      refine n1 rfl ?_
                      refine n1 rfl ?_
                      refine n1 rfl ?_
                      refine p1 rfl ?_
                      refine D_end ?_
                      refine x_then ?_
                      refine C_f rfl ?_
                      refine C_skip ?_
                      refine R_0n rfl fun w' hs => ⟨rfl, e2, ?_, hs.fd [0, 1] 1 rfl⟩
                      have hB : Chg e2 e2 mid b ∧ Srd lt e2 mid b := (by first | exact hB0 | exact ⟨Chg.refl _ _ _, srd_sub hsm (Nat.le_refl _) (by omega)⟩ | exact ⟨Chg.refl _ _ _, srd_sub hsn (by omega) (Nat.le_refl _)⟩); exact ⟨(((rot_chg hrot (by omega) (by omega)).mono (by omega) (by omega)).trans (hA.1.mono (by omega) (by omega))).trans (hB.1.mono (by omega) (by omega)), srd_join (srd_out hA.2 hB.1 (.inl (Nat.le_refl _))) hB.2 (crs_chg hcr hA.1 hB.1)⟩
                  · have pr44 : ¬ (((s : Nat) : Int) : Int) < ((mid : Nat) : Int) := of_decide_eq_false h44
                    refine C_skip ?_
                    refine x_then ?_
                    refine D_weak [(3, (.int .i64 ((b : Nat) : Int))), (4, (.pointer (some ⟨g1, 0, none⟩))), (16, (.int .i64 ((mid : Nat) : Int))), (22, (.int .i64 ((mid + m - s : Nat) : Int)))] ⟨rfl, rfl, rfl, rfl, trivial⟩ ?_
                    refine C_seq ?_
                    have hA : Chg e1 e1 a mid ∧ Srd lt e1 a mid := by first | exact hA0 | exact ⟨Chg.refl _ _ _, srd_sub hsd.1 (Nat.le_refl _) (by omega)⟩ | exact ⟨Chg.refl _ _ _, srd_sub hsd.2.1 (by omega) (Nat.le_refl _)⟩
                    have hsm := srd_out hsd.2.2.1 hA.1 (.inr (Nat.le_refl _))
                    have hsn := srd_out hsd.2.2.2 hA.1 (.inr (by omega))
                    refine C_reg ?_
                    refine p1 rfl <| p1 rfl <| p1 rfl <| p1 rfl ?_
                    refine gs 167 rfl rfl (fun h47 => ?_) (fun h47 => ?_)
                    · have pr47 : (((mid : Nat) : Int) : Int) < ((mid + m - s : Nat) : Int) := of_decide_eq_true h47
                      refine p1 rfl <| p1 rfl <| p1 rfl <| p1 rfl ?_
                      refine D_end ?_
                      refine x_then ?_
                      refine C_if _ rfl (fun h48 => ?_) (fun h48 => ?_)
                      · have pr48 : (((mid + m - s : Nat) : Int) : Int) < ((b : Nat) : Int) := of_decide_eq_true h48
                        refine C_reg ?_
                        refine q1 rfl (lbw 1 a_77 rfl rfl rfl) ?_
                        refine p1 rfl <| p1 rfl <| p1 rfl ?_
                        refine li rfl (csrt b_79 rfl rfl rfl rfl (fun w' hs => ih (b - mid) (by omega) _ w' e1 (hro.2.1.trans hp) mid (mid + m - s) b (by first | assumption | omega) (by first | assumption | omega) (by first | assumption | omega) hsm hsn (Nat.le_refl _) hs) fun e3 hB0 => ?_)
                        refine D_end ?_
                        refine R_0n rfl fun w' hs => ⟨rfl, e3, ?_, hs.fd [0, 1] 1 rfl⟩
                        have hB : Chg e1 e3 mid b ∧ Srd lt e3 mid b := (by first | exact hB0 | exact ⟨Chg.refl _ _ _, srd_sub hsm (Nat.le_refl _) (by omega)⟩ | exact ⟨Chg.refl _ _ _, srd_sub hsn (by omega) (Nat.le_refl _)⟩); exact ⟨(((rot_chg hrot (by omega) (by omega)).mono (by omega) (by omega)).trans (hA.1.mono (by omega) (by omega))).trans (hB.1.mono (by omega) (by omega)), srd_join (srd_out hA.2 hB.1 (.inl (Nat.le_refl _))) hB.2 (crs_chg hcr hA.1 hB.1)⟩
                      · have pr48 : ¬ (((mid + m - s : Nat) : Int) : Int) < ((b : Nat) : Int) := of_decide_eq_false h48
                        refine C_skip ?_
                        refine R_0n rfl fun w' hs => ⟨rfl, e1, ?_, hs.fd [0, 1] 1 rfl⟩
                        have hB : Chg e1 e1 mid b ∧ Srd lt e1 mid b := (by first | exact hB0 | exact ⟨Chg.refl _ _ _, srd_sub hsm (Nat.le_refl _) (by omega)⟩ | exact ⟨Chg.refl _ _ _, srd_sub hsn (by omega) (Nat.le_refl _)⟩); exact ⟨(((rot_chg hrot (by omega) (by omega)).mono (by omega) (by omega)).trans (hA.1.mono (by omega) (by omega))).trans (hB.1.mono (by omega) (by omega)), srd_join (srd_out hA.2 hB.1 (.inl (Nat.le_refl _))) hB.2 (crs_chg hcr hA.1 hB.1)⟩
                    · have pr47 : ¬ (((mid : Nat) : Int) : Int) < ((mid + m - s : Nat) : Int) := of_decide_eq_false h47
                      refine n1 rfl ?_
                      refine n1 rfl ?_
                      refine n1 rfl ?_
                      refine p1 rfl ?_
                      refine D_end ?_
                      refine x_then ?_
                      refine C_f rfl ?_
                      refine C_skip ?_
                      refine R_0n rfl fun w' hs => ⟨rfl, e1, ?_, hs.fd [0, 1] 1 rfl⟩
                      have hB : Chg e1 e1 mid b ∧ Srd lt e1 mid b := (by first | exact hB0 | exact ⟨Chg.refl _ _ _, srd_sub hsm (Nat.le_refl _) (by omega)⟩ | exact ⟨Chg.refl _ _ _, srd_sub hsn (by omega) (Nat.le_refl _)⟩); exact ⟨(((rot_chg hrot (by omega) (by omega)).mono (by omega) (by omega)).trans (hA.1.mono (by omega) (by omega))).trans (hB.1.mono (by omega) (by omega)), srd_join (srd_out hA.2 hB.1 (.inl (Nat.le_refl _))) hB.2 (crs_chg hcr hA.1 hB.1)⟩
                · have pr43 : ¬ (((a : Nat) : Int) : Int) < ((s : Nat) : Int) := of_decide_eq_false h43
                  refine n1 rfl ?_
                  refine n1 rfl ?_
                  refine n1 rfl ?_
                  refine p1 rfl ?_
                  refine D_end ?_
                  refine x_then ?_
                  refine C_f rfl ?_
                  refine C_skip ?_
                  refine x_then ?_
                  refine D_weak [(3, (.int .i64 ((b : Nat) : Int))), (4, (.pointer (some ⟨g1, 0, none⟩))), (16, (.int .i64 ((mid : Nat) : Int))), (22, (.int .i64 ((mid + m - s : Nat) : Int)))] ⟨rfl, rfl, rfl, rfl, trivial⟩ ?_
                  refine C_seq ?_
                  have hA : Chg e1 e1 a mid ∧ Srd lt e1 a mid := by first | exact hA0 | exact ⟨Chg.refl _ _ _, srd_sub hsd.1 (Nat.le_refl _) (by omega)⟩ | exact ⟨Chg.refl _ _ _, srd_sub hsd.2.1 (by omega) (Nat.le_refl _)⟩
                  have hsm := srd_out hsd.2.2.1 hA.1 (.inr (Nat.le_refl _))
                  have hsn := srd_out hsd.2.2.2 hA.1 (.inr (by omega))
                  refine C_reg ?_
                  refine p1 rfl <| p1 rfl <| p1 rfl <| p1 rfl ?_
                  refine gs 167 rfl rfl (fun h49 => ?_) (fun h49 => ?_)
                  · have pr49 : (((mid : Nat) : Int) : Int) < ((mid + m - s : Nat) : Int) := of_decide_eq_true h49
                    refine p1 rfl <| p1 rfl <| p1 rfl <| p1 rfl ?_
                    refine D_end ?_
                    refine x_then ?_
                    refine C_if _ rfl (fun h50 => ?_) (fun h50 => ?_)
                    · have pr50 : (((mid + m - s : Nat) : Int) : Int) < ((b : Nat) : Int) := of_decide_eq_true h50
                      refine C_reg ?_
                      refine q1 rfl (lbw 1 a_77 rfl rfl rfl) ?_
                      refine p1 rfl <| p1 rfl <| p1 rfl ?_
                      refine li rfl (csrt b_79 rfl rfl rfl rfl (fun w' hs => ih (b - mid) (by omega) _ w' e1 (hro.2.1.trans hp) mid (mid + m - s) b (by first | assumption | omega) (by first | assumption | omega) (by first | assumption | omega) hsm hsn (Nat.le_refl _) hs) fun e3 hB0 => ?_)
                      refine D_end ?_
                      refine R_0n rfl fun w' hs => ⟨rfl, e3, ?_, hs.fd [0, 1] 1 rfl⟩
                      have hB : Chg e1 e3 mid b ∧ Srd lt e3 mid b := (by first | exact hB0 | exact ⟨Chg.refl _ _ _, srd_sub hsm (Nat.le_refl _) (by omega)⟩ | exact ⟨Chg.refl _ _ _, srd_sub hsn (by omega) (Nat.le_refl _)⟩); exact ⟨(((rot_chg hrot (by omega) (by omega)).mono (by omega) (by omega)).trans (hA.1.mono (by omega) (by omega))).trans (hB.1.mono (by omega) (by omega)), srd_join (srd_out hA.2 hB.1 (.inl (Nat.le_refl _))) hB.2 (crs_chg hcr hA.1 hB.1)⟩
                    · have pr50 : ¬ (((mid + m - s : Nat) : Int) : Int) < ((b : Nat) : Int) := of_decide_eq_false h50
                      refine C_skip ?_
                      refine R_0n rfl fun w' hs => ⟨rfl, e1, ?_, hs.fd [0, 1] 1 rfl⟩
                      have hB : Chg e1 e1 mid b ∧ Srd lt e1 mid b := (by first | exact hB0 | exact ⟨Chg.refl _ _ _, srd_sub hsm (Nat.le_refl _) (by omega)⟩ | exact ⟨Chg.refl _ _ _, srd_sub hsn (by omega) (Nat.le_refl _)⟩); exact ⟨(((rot_chg hrot (by omega) (by omega)).mono (by omega) (by omega)).trans (hA.1.mono (by omega) (by omega))).trans (hB.1.mono (by omega) (by omega)), srd_join (srd_out hA.2 hB.1 (.inl (Nat.le_refl _))) hB.2 (crs_chg hcr hA.1 hB.1)⟩
                  · have pr49 : ¬ (((mid : Nat) : Int) : Int) < ((mid + m - s : Nat) : Int) := of_decide_eq_false h49
                    refine n1 rfl ?_
                    refine n1 rfl ?_
                    refine n1 rfl ?_
                    refine p1 rfl ?_
                    refine D_end ?_
                    refine x_then ?_
                    refine C_f rfl ?_
                    refine C_skip ?_
                    refine R_0n rfl fun w' hs => ⟨rfl, e1, ?_, hs.fd [0, 1] 1 rfl⟩
                    have hB : Chg e1 e1 mid b ∧ Srd lt e1 mid b := (by first | exact hB0 | exact ⟨Chg.refl _ _ _, srd_sub hsm (Nat.le_refl _) (by omega)⟩ | exact ⟨Chg.refl _ _ _, srd_sub hsn (by omega) (Nat.le_refl _)⟩); exact ⟨(((rot_chg hrot (by omega) (by omega)).mono (by omega) (by omega)).trans (hA.1.mono (by omega) (by omega))).trans (hB.1.mono (by omega) (by omega)), srd_join (srd_out hA.2 hB.1 (.inl (Nat.le_refl _))) hB.2 (crs_chg hcr hA.1 hB.1)⟩
              · have pr42 : ¬ (((m : Nat) : Int) : Int) < ((mid + m - s : Nat) : Int) := of_decide_eq_false h42
                refine C_skip ?_
                refine x_then ?_
                refine C_seq ?_
                refine C_seq ?_
                have hrot : Rot d d s m (mid + m - s) := by first | exact hro | exact rot_none (by omega) (by omega) (by omega)
                have hsea2 : Sea lt d (max a (mid + m - b)) (min m mid) (mid + m) s s := by rwa [show r = s from by omega] at hsea
                have hcr : Crs lt d a mid b := sym_crs ho rfl rfl hsea2 hs1 hs2 (by omega) (by omega) (by omega) (by omega) (by omega) (by omega) (by omega) (by omega) (by omega) hrot
                have hsd := rot_srd hrot hs1 hs2 (by omega) (by omega) (by omega) (by omega)
                rw [show s + (mid + m - s - m) = mid from by omega] at hsd
                refine C_reg ?_
                refine p1 rfl <| p1 rfl <| p1 rfl <| p1 rfl ?_
                refine gs 154 rfl rfl (fun h51 => ?_) (fun h51 => ?_)
                · have pr51 : (((a : Nat) : Int) : Int) < ((s : Nat) : Int) := of_decide_eq_true h51
                  refine p1 rfl <| p1 rfl <| p1 rfl <| p1 rfl ?_
                  refine D_end ?_
                  refine x_then ?_
                  refine C_if _ rfl (fun h52 => ?_) (fun h52 => ?_)
                  · have pr52 : (((s : Nat) : Int) : Int) < ((mid : Nat) : Int) := of_decide_eq_true h52
                    refine C_reg ?_
                    refine q1 rfl (lbw 0 a_77 rfl rfl rfl) ?_
                    refine p1 rfl <| p1 rfl <| p1 rfl ?_
                    refine D_fd [1] 0 rfl ?_
                    refine li rfl (csrt b_79 rfl rfl rfl rfl (fun w' hs => ih (mid - a) (by omega) _ w' d hp a s mid (by first | assumption | omega) (by first | assumption | omega) (by first | assumption | omega) hsd.1 hsd.2.1 (Nat.le_refl _) hs) fun e2 hA0 => ?_)
                    refine D_end ?_
                    refine x_then ?_
                    refine D_weak [(3, (.int .i64 ((b : Nat) : Int))), (4, (.pointer (some ⟨g1, 0, none⟩))), (16, (.int .i64 ((mid : Nat) : Int))), (22, (.int .i64 ((mid + m - s : Nat) : Int)))] ⟨rfl, rfl, rfl, rfl, trivial⟩ ?_
                    refine D_H (C e2 :: bx g1 [(.func (.func lf) #[] lc.toArray), (.func (.func sf) #[] sc.toArray)] :: Hs) rfl ?_
                    refine C_seq ?_
                    have hA : Chg d e2 a mid ∧ Srd lt e2 a mid := by first | exact hA0 | exact ⟨Chg.refl _ _ _, srd_sub hsd.1 (Nat.le_refl _) (by omega)⟩ | exact ⟨Chg.refl _ _ _, srd_sub hsd.2.1 (by omega) (Nat.le_refl _)⟩
                    have hsm := srd_out hsd.2.2.1 hA.1 (.inr (Nat.le_refl _))
                    have hsn := srd_out hsd.2.2.2 hA.1 (.inr (by omega))
                    refine C_reg ?_
                    refine p1 rfl <| p1 rfl <| p1 rfl <| p1 rfl ?_
                    refine gs 167 rfl rfl (fun h53 => ?_) (fun h53 => ?_)
                    · have pr53 : (((mid : Nat) : Int) : Int) < ((mid + m - s : Nat) : Int) := of_decide_eq_true h53
                      refine p1 rfl <| p1 rfl <| p1 rfl <| p1 rfl ?_
                      refine D_end ?_
                      refine x_then ?_
                      refine C_if _ rfl (fun h54 => ?_) (fun h54 => ?_)
                      · have pr54 : (((mid + m - s : Nat) : Int) : Int) < ((b : Nat) : Int) := of_decide_eq_true h54
                        refine C_reg ?_
                        refine q1 rfl (lbw 1 a_77 rfl rfl rfl) ?_
                        refine p1 rfl <| p1 rfl <| p1 rfl ?_
                        refine li rfl (csrt b_79 rfl rfl rfl rfl (fun w' hs => ih (b - mid) (by omega) _ w' e2 (hA0.1.perm.trans hp) mid (mid + m - s) b (by first | assumption | omega) (by first | assumption | omega) (by first | assumption | omega) hsm hsn (Nat.le_refl _) hs) fun e3 hB0 => ?_)
                        refine D_end ?_
                        refine R_0n rfl fun w' hs => ⟨rfl, e3, ?_, hs.fd [0, 1] 1 rfl⟩
                        have hB : Chg e2 e3 mid b ∧ Srd lt e3 mid b := (by first | exact hB0 | exact ⟨Chg.refl _ _ _, srd_sub hsm (Nat.le_refl _) (by omega)⟩ | exact ⟨Chg.refl _ _ _, srd_sub hsn (by omega) (Nat.le_refl _)⟩); exact ⟨(((rot_chg hrot (by omega) (by omega)).mono (by omega) (by omega)).trans (hA.1.mono (by omega) (by omega))).trans (hB.1.mono (by omega) (by omega)), srd_join (srd_out hA.2 hB.1 (.inl (Nat.le_refl _))) hB.2 (crs_chg hcr hA.1 hB.1)⟩
                      · have pr54 : ¬ (((mid + m - s : Nat) : Int) : Int) < ((b : Nat) : Int) := of_decide_eq_false h54
                        refine C_skip ?_
                        refine R_0n rfl fun w' hs => ⟨rfl, e2, ?_, hs.fd [0, 1] 1 rfl⟩
                        have hB : Chg e2 e2 mid b ∧ Srd lt e2 mid b := (by first | exact hB0 | exact ⟨Chg.refl _ _ _, srd_sub hsm (Nat.le_refl _) (by omega)⟩ | exact ⟨Chg.refl _ _ _, srd_sub hsn (by omega) (Nat.le_refl _)⟩); exact ⟨(((rot_chg hrot (by omega) (by omega)).mono (by omega) (by omega)).trans (hA.1.mono (by omega) (by omega))).trans (hB.1.mono (by omega) (by omega)), srd_join (srd_out hA.2 hB.1 (.inl (Nat.le_refl _))) hB.2 (crs_chg hcr hA.1 hB.1)⟩
                    · have pr53 : ¬ (((mid : Nat) : Int) : Int) < ((mid + m - s : Nat) : Int) := of_decide_eq_false h53
                      refine n1 rfl ?_
                      refine n1 rfl ?_
                      refine n1 rfl ?_
                      refine p1 rfl ?_
                      refine D_end ?_
                      refine x_then ?_
                      refine C_f rfl ?_
                      refine C_skip ?_
                      refine R_0n rfl fun w' hs => ⟨rfl, e2, ?_, hs.fd [0, 1] 1 rfl⟩
                      have hB : Chg e2 e2 mid b ∧ Srd lt e2 mid b := (by first | exact hB0 | exact ⟨Chg.refl _ _ _, srd_sub hsm (Nat.le_refl _) (by omega)⟩ | exact ⟨Chg.refl _ _ _, srd_sub hsn (by omega) (Nat.le_refl _)⟩); exact ⟨(((rot_chg hrot (by omega) (by omega)).mono (by omega) (by omega)).trans (hA.1.mono (by omega) (by omega))).trans (hB.1.mono (by omega) (by omega)), srd_join (srd_out hA.2 hB.1 (.inl (Nat.le_refl _))) hB.2 (crs_chg hcr hA.1 hB.1)⟩
                  · have pr52 : ¬ (((s : Nat) : Int) : Int) < ((mid : Nat) : Int) := of_decide_eq_false h52
                    refine C_skip ?_
                    refine x_then ?_
                    refine C_seq ?_
                    have hA : Chg d d a mid ∧ Srd lt d a mid := by first | exact hA0 | exact ⟨Chg.refl _ _ _, srd_sub hsd.1 (Nat.le_refl _) (by omega)⟩ | exact ⟨Chg.refl _ _ _, srd_sub hsd.2.1 (by omega) (Nat.le_refl _)⟩
                    have hsm := srd_out hsd.2.2.1 hA.1 (.inr (Nat.le_refl _))
                    have hsn := srd_out hsd.2.2.2 hA.1 (.inr (by omega))
                    refine C_reg ?_
                    refine p1 rfl <| p1 rfl <| p1 rfl <| p1 rfl ?_
                    refine gs 167 rfl rfl (fun h55 => ?_) (fun h55 => ?_)
                    · have pr55 : (((mid : Nat) : Int) : Int) < ((mid + m - s : Nat) : Int) := of_decide_eq_true h55
                      refine p1 rfl <| p1 rfl <| p1 rfl <| p1 rfl ?_
                      refine D_end ?_
                      refine x_then ?_
                      refine D_weak [(3, (.int .i64 ((b : Nat) : Int))), (4, (.pointer (some ⟨g1, 0, none⟩))), (16, (.int .i64 ((mid : Nat) : Int))), (22, (.int .i64 ((mid + m - s : Nat) : Int))), (171, (.bool (decide ((((mid + m - s : Nat) : Int) : Int) < ((b : Nat) : Int)))))] ⟨rfl, rfl, rfl, rfl, rfl, trivial⟩ ?_
                      refine C_if _ rfl (fun h56 => ?_) (fun h56 => ?_)
                      · have pr56 : (((mid + m - s : Nat) : Int) : Int) < ((b : Nat) : Int) := of_decide_eq_true h56
                        refine C_reg ?_
                        refine q1 rfl (lbw 0 a_77 rfl rfl rfl) ?_
                        refine p1 rfl <| p1 rfl <| p1 rfl ?_
                        refine D_fd [1] 0 rfl ?_
                        refine li rfl (csrt b_79 rfl rfl rfl rfl (fun w' hs => ih (b - mid) (by omega) _ w' d hp mid (mid + m - s) b (by first | assumption | omega) (by first | assumption | omega) (by first | assumption | omega) hsm hsn (Nat.le_refl _) hs) fun e3 hB0 => ?_)
                        refine D_end ?_
                        refine R_0n rfl fun w' hs => ⟨rfl, e3, ?_, hs.fd [0, 1] 1 rfl⟩
                        have hB : Chg d e3 mid b ∧ Srd lt e3 mid b := (by first | exact hB0 | exact ⟨Chg.refl _ _ _, srd_sub hsm (Nat.le_refl _) (by omega)⟩ | exact ⟨Chg.refl _ _ _, srd_sub hsn (by omega) (Nat.le_refl _)⟩); exact ⟨(((rot_chg hrot (by omega) (by omega)).mono (by omega) (by omega)).trans (hA.1.mono (by omega) (by omega))).trans (hB.1.mono (by omega) (by omega)), srd_join (srd_out hA.2 hB.1 (.inl (Nat.le_refl _))) hB.2 (crs_chg hcr hA.1 hB.1)⟩
                      · have pr56 : ¬ (((mid + m - s : Nat) : Int) : Int) < ((b : Nat) : Int) := of_decide_eq_false h56
                        refine C_skip ?_
                        refine R_0n rfl fun w' hs => ⟨rfl, d, ?_, hs.fd [] 1 rfl⟩
                        have hB : Chg d d mid b ∧ Srd lt d mid b := (by first | exact hB0 | exact ⟨Chg.refl _ _ _, srd_sub hsm (Nat.le_refl _) (by omega)⟩ | exact ⟨Chg.refl _ _ _, srd_sub hsn (by omega) (Nat.le_refl _)⟩); exact ⟨(((rot_chg hrot (by omega) (by omega)).mono (by omega) (by omega)).trans (hA.1.mono (by omega) (by omega))).trans (hB.1.mono (by omega) (by omega)), srd_join (srd_out hA.2 hB.1 (.inl (Nat.le_refl _))) hB.2 (crs_chg hcr hA.1 hB.1)⟩
                    · have pr55 : ¬ (((mid : Nat) : Int) : Int) < ((mid + m - s : Nat) : Int) := of_decide_eq_false h55
                      refine n1 rfl ?_
                      refine n1 rfl ?_
                      refine n1 rfl ?_
                      refine p1 rfl ?_
                      refine D_end ?_
                      refine x_then ?_
                      refine D_weak [(3, (.int .i64 ((b : Nat) : Int))), (4, (.pointer (some ⟨g1, 0, none⟩))), (16, (.int .i64 ((mid : Nat) : Int))), (22, (.int .i64 ((mid + m - s : Nat) : Int))), (171, (.bool false))] ⟨rfl, rfl, rfl, rfl, rfl, trivial⟩ ?_
                      refine C_f rfl ?_
                      refine C_skip ?_
                      refine R_0n rfl fun w' hs => ⟨rfl, d, ?_, hs.fd [] 1 rfl⟩
                      have hB : Chg d d mid b ∧ Srd lt d mid b := (by first | exact hB0 | exact ⟨Chg.refl _ _ _, srd_sub hsm (Nat.le_refl _) (by omega)⟩ | exact ⟨Chg.refl _ _ _, srd_sub hsn (by omega) (Nat.le_refl _)⟩); exact ⟨(((rot_chg hrot (by omega) (by omega)).mono (by omega) (by omega)).trans (hA.1.mono (by omega) (by omega))).trans (hB.1.mono (by omega) (by omega)), srd_join (srd_out hA.2 hB.1 (.inl (Nat.le_refl _))) hB.2 (crs_chg hcr hA.1 hB.1)⟩
                · have pr51 : ¬ (((a : Nat) : Int) : Int) < ((s : Nat) : Int) := of_decide_eq_false h51
                  refine n1 rfl ?_
                  refine n1 rfl ?_
                  refine n1 rfl ?_
                  refine p1 rfl ?_
                  refine D_end ?_
                  refine x_then ?_
                  refine C_f rfl ?_
                  refine C_skip ?_
                  refine x_then ?_
                  refine C_seq ?_
                  have hA : Chg d d a mid ∧ Srd lt d a mid := by first | exact hA0 | exact ⟨Chg.refl _ _ _, srd_sub hsd.1 (Nat.le_refl _) (by omega)⟩ | exact ⟨Chg.refl _ _ _, srd_sub hsd.2.1 (by omega) (Nat.le_refl _)⟩
                  have hsm := srd_out hsd.2.2.1 hA.1 (.inr (Nat.le_refl _))
                  have hsn := srd_out hsd.2.2.2 hA.1 (.inr (by omega))
                  refine C_reg ?_
                  refine p1 rfl <| p1 rfl <| p1 rfl <| p1 rfl ?_
                  refine gs 167 rfl rfl (fun h57 => ?_) (fun h57 => ?_)
                  · have pr57 : (((mid : Nat) : Int) : Int) < ((mid + m - s : Nat) : Int) := of_decide_eq_true h57
                    refine p1 rfl <| p1 rfl <| p1 rfl <| p1 rfl ?_
                    refine D_end ?_
                    refine x_then ?_
                    refine D_weak [(3, (.int .i64 ((b : Nat) : Int))), (4, (.pointer (some ⟨g1, 0, none⟩))), (16, (.int .i64 ((mid : Nat) : Int))), (22, (.int .i64 ((mid + m - s : Nat) : Int))), (171, (.bool (decide ((((mid + m - s : Nat) : Int) : Int) < ((b : Nat) : Int)))))] ⟨rfl, rfl, rfl, rfl, rfl, trivial⟩ ?_
                    refine C_if _ rfl (fun h58 => ?_) (fun h58 => ?_)
                    · have pr58 : (((mid + m - s : Nat) : Int) : Int) < ((b : Nat) : Int) := of_decide_eq_true h58
                      refine C_reg ?_
                      refine q1 rfl (lbw 0 a_77 rfl rfl rfl) ?_
                      refine p1 rfl <| p1 rfl <| p1 rfl ?_
                      refine D_fd [1] 0 rfl ?_
                      refine li rfl (csrt b_79 rfl rfl rfl rfl (fun w' hs => ih (b - mid) (by omega) _ w' d hp mid (mid + m - s) b (by first | assumption | omega) (by first | assumption | omega) (by first | assumption | omega) hsm hsn (Nat.le_refl _) hs) fun e3 hB0 => ?_)
                      refine D_end ?_
                      refine R_0n rfl fun w' hs => ⟨rfl, e3, ?_, hs.fd [0, 1] 1 rfl⟩
                      have hB : Chg d e3 mid b ∧ Srd lt e3 mid b := (by first | exact hB0 | exact ⟨Chg.refl _ _ _, srd_sub hsm (Nat.le_refl _) (by omega)⟩ | exact ⟨Chg.refl _ _ _, srd_sub hsn (by omega) (Nat.le_refl _)⟩); exact ⟨(((rot_chg hrot (by omega) (by omega)).mono (by omega) (by omega)).trans (hA.1.mono (by omega) (by omega))).trans (hB.1.mono (by omega) (by omega)), srd_join (srd_out hA.2 hB.1 (.inl (Nat.le_refl _))) hB.2 (crs_chg hcr hA.1 hB.1)⟩
                    · have pr58 : ¬ (((mid + m - s : Nat) : Int) : Int) < ((b : Nat) : Int) := of_decide_eq_false h58
                      refine C_skip ?_
                      refine R_0n rfl fun w' hs => ⟨rfl, d, ?_, hs.fd [] 1 rfl⟩
                      have hB : Chg d d mid b ∧ Srd lt d mid b := (by first | exact hB0 | exact ⟨Chg.refl _ _ _, srd_sub hsm (Nat.le_refl _) (by omega)⟩ | exact ⟨Chg.refl _ _ _, srd_sub hsn (by omega) (Nat.le_refl _)⟩); exact ⟨(((rot_chg hrot (by omega) (by omega)).mono (by omega) (by omega)).trans (hA.1.mono (by omega) (by omega))).trans (hB.1.mono (by omega) (by omega)), srd_join (srd_out hA.2 hB.1 (.inl (Nat.le_refl _))) hB.2 (crs_chg hcr hA.1 hB.1)⟩
                  · have pr57 : ¬ (((mid : Nat) : Int) : Int) < ((mid + m - s : Nat) : Int) := of_decide_eq_false h57
                    refine n1 rfl ?_
                    refine n1 rfl ?_
                    refine n1 rfl ?_
                    refine p1 rfl ?_
                    refine D_end ?_
                    refine x_then ?_
                    refine D_weak [(3, (.int .i64 ((b : Nat) : Int))), (4, (.pointer (some ⟨g1, 0, none⟩))), (16, (.int .i64 ((mid : Nat) : Int))), (22, (.int .i64 ((mid + m - s : Nat) : Int))), (171, (.bool false))] ⟨rfl, rfl, rfl, rfl, rfl, trivial⟩ ?_
                    refine C_f rfl ?_
                    refine C_skip ?_
                    refine R_0n rfl fun w' hs => ⟨rfl, d, ?_, hs.fd [] 1 rfl⟩
                    have hB : Chg d d mid b ∧ Srd lt d mid b := (by first | exact hB0 | exact ⟨Chg.refl _ _ _, srd_sub hsm (Nat.le_refl _) (by omega)⟩ | exact ⟨Chg.refl _ _ _, srd_sub hsn (by omega) (Nat.le_refl _)⟩); exact ⟨(((rot_chg hrot (by omega) (by omega)).mono (by omega) (by omega)).trans (hA.1.mono (by omega) (by omega))).trans (hB.1.mono (by omega) (by omega)), srd_join (srd_out hA.2 hB.1 (.inl (Nat.le_refl _))) hB.2 (crs_chg hcr hA.1 hB.1)⟩
            · have pr41 : ¬ (((s : Nat) : Int) : Int) < ((m : Nat) : Int) := of_decide_eq_false h41
              refine n1 rfl ?_
              refine n1 rfl ?_
              refine n1 rfl ?_
              refine p1 rfl ?_
              refine D_end ?_
              refine x_then ?_
              refine D_weak [(1, (.int .i64 ((a : Nat) : Int))), (2, (.int .i64 ((m : Nat) : Int))), (3, (.int .i64 ((b : Nat) : Int))), (4, (.pointer (some ⟨g1, 0, none⟩))), (16, (.int .i64 ((mid : Nat) : Int))), (18, (.int .i64 ((s : Nat) : Int))), (22, (.int .i64 ((mid + m - s : Nat) : Int))), (145, (.bool false))] ⟨rfl, rfl, rfl, rfl, rfl, rfl, rfl, rfl, trivial⟩ ?_
              refine C_f rfl ?_
              refine C_skip ?_
              refine x_then ?_
              refine C_seq ?_
              refine C_seq ?_
              have hrot : Rot d d s m (mid + m - s) := by first | exact hro | exact rot_none (by omega) (by omega) (by omega)
              have hsea2 : Sea lt d (max a (mid + m - b)) (min m mid) (mid + m) s s := by rwa [show r = s from by omega] at hsea
              have hcr : Crs lt d a mid b := sym_crs ho rfl rfl hsea2 hs1 hs2 (by omega) (by omega) (by omega) (by omega) (by omega) (by omega) (by omega) (by omega) (by omega) hrot
              have hsd := rot_srd hrot hs1 hs2 (by omega) (by omega) (by omega) (by omega)
              rw [show s + (mid + m - s - m) = mid from by omega] at hsd
              refine C_reg ?_
              refine p1 rfl <| p1 rfl <| p1 rfl <| p1 rfl ?_
              refine gs 154 rfl rfl (fun h59 => ?_) (fun h59 => ?_)
              · have pr59 : (((a : Nat) : Int) : Int) < ((s : Nat) : Int) := of_decide_eq_true h59
                refine p1 rfl <| p1 rfl <| p1 rfl <| p1 rfl ?_
                refine D_end ?_
                refine x_then ?_
                refine C_if _ rfl (fun h60 => ?_) (fun h60 => ?_)
                · have pr60 : (((s : Nat) : Int) : Int) < ((mid : Nat) : Int) := of_decide_eq_true h60
                  refine C_reg ?_
                  refine q1 rfl (lbw 0 a_77 rfl rfl rfl) ?_
                  refine p1 rfl <| p1 rfl <| p1 rfl ?_
                  refine D_fd [1] 0 rfl ?_
                  refine li rfl (csrt b_79 rfl rfl rfl rfl (fun w' hs => ih (mid - a) (by omega) _ w' d hp a s mid (by first | assumption | omega) (by first | assumption | omega) (by first | assumption | omega) hsd.1 hsd.2.1 (Nat.le_refl _) hs) fun e2 hA0 => ?_)
                  refine D_end ?_
                  refine x_then ?_
                  refine D_weak [(3, (.int .i64 ((b : Nat) : Int))), (4, (.pointer (some ⟨g1, 0, none⟩))), (16, (.int .i64 ((mid : Nat) : Int))), (22, (.int .i64 ((mid + m - s : Nat) : Int)))] ⟨rfl, rfl, rfl, rfl, trivial⟩ ?_
                  refine D_H (C e2 :: bx g1 [(.func (.func lf) #[] lc.toArray), (.func (.func sf) #[] sc.toArray)] :: Hs) rfl ?_
                  refine C_seq ?_
                  have hA : Chg d e2 a mid ∧ Srd lt e2 a mid := by first | exact hA0 | exact ⟨Chg.refl _ _ _, srd_sub hsd.1 (Nat.le_refl _) (by omega)⟩ | exact ⟨Chg.refl _ _ _, srd_sub hsd.2.1 (by omega) (Nat.le_refl _)⟩
                  have hsm := srd_out hsd.2.2.1 hA.1 (.inr (Nat.le_refl _))
                  have hsn := srd_out hsd.2.2.2 hA.1 (.inr (by omega))
                  refine C_reg ?_
                  refine p1 rfl <| p1 rfl <| p1 rfl <| p1 rfl ?_
                  refine gs 167 rfl rfl (fun h61 => ?_) (fun h61 => ?_)
                  · have pr61 : (((mid : Nat) : Int) : Int) < ((mid + m - s : Nat) : Int) := of_decide_eq_true h61
                    refine p1 rfl <| p1 rfl <| p1 rfl <| p1 rfl ?_
                    refine D_end ?_
                    refine x_then ?_
                    refine C_if _ rfl (fun h62 => ?_) (fun h62 => ?_)
                    · have pr62 : (((mid + m - s : Nat) : Int) : Int) < ((b : Nat) : Int) := of_decide_eq_true h62
                      refine C_reg ?_
                      refine q1 rfl (lbw 1 a_77 rfl rfl rfl) ?_
                      refine p1 rfl <| p1 rfl <| p1 rfl ?_
                      refine li rfl (csrt b_79 rfl rfl rfl rfl (fun w' hs => ih (b - mid) (by omega) _ w' e2 (hA0.1.perm.trans hp) mid (mid + m - s) b (by first | assumption | omega) (by first | assumption | omega) (by first | assumption | omega) hsm hsn (Nat.le_refl _) hs) fun e3 hB0 => ?_)
                      refine D_end ?_
                      refine R_0n rfl fun w' hs => ⟨rfl, e3, ?_, hs.fd [0, 1] 1 rfl⟩
                      have hB : Chg e2 e3 mid b ∧ Srd lt e3 mid b := (by first | exact hB0 | exact ⟨Chg.refl _ _ _, srd_sub hsm (Nat.le_refl _) (by omega)⟩ | exact ⟨Chg.refl _ _ _, srd_sub hsn (by omega) (Nat.le_refl _)⟩); exact ⟨(((rot_chg hrot (by omega) (by omega)).mono (by omega) (by omega)).trans (hA.1.mono (by omega) (by omega))).trans (hB.1.mono (by omega) (by omega)), srd_join (srd_out hA.2 hB.1 (.inl (Nat.le_refl _))) hB.2 (crs_chg hcr hA.1 hB.1)⟩
                    · have pr62 : ¬ (((mid + m - s : Nat) : Int) : Int) < ((b : Nat) : Int) := of_decide_eq_false h62
                      refine C_skip ?_
                      refine R_0n rfl fun w' hs => ⟨rfl, e2, ?_, hs.fd [0, 1] 1 rfl⟩
                      have hB : Chg e2 e2 mid b ∧ Srd lt e2 mid b := (by first | exact hB0 | exact ⟨Chg.refl _ _ _, srd_sub hsm (Nat.le_refl _) (by omega)⟩ | exact ⟨Chg.refl _ _ _, srd_sub hsn (by omega) (Nat.le_refl _)⟩); exact ⟨(((rot_chg hrot (by omega) (by omega)).mono (by omega) (by omega)).trans (hA.1.mono (by omega) (by omega))).trans (hB.1.mono (by omega) (by omega)), srd_join (srd_out hA.2 hB.1 (.inl (Nat.le_refl _))) hB.2 (crs_chg hcr hA.1 hB.1)⟩
                  · have pr61 : ¬ (((mid : Nat) : Int) : Int) < ((mid + m - s : Nat) : Int) := of_decide_eq_false h61
                    refine n1 rfl ?_
                    refine n1 rfl ?_
                    refine n1 rfl ?_
                    refine p1 rfl ?_
                    refine D_end ?_
                    refine x_then ?_
                    refine C_f rfl ?_
                    refine C_skip ?_
                    refine R_0n rfl fun w' hs => ⟨rfl, e2, ?_, hs.fd [0, 1] 1 rfl⟩
                    have hB : Chg e2 e2 mid b ∧ Srd lt e2 mid b := (by first | exact hB0 | exact ⟨Chg.refl _ _ _, srd_sub hsm (Nat.le_refl _) (by omega)⟩ | exact ⟨Chg.refl _ _ _, srd_sub hsn (by omega) (Nat.le_refl _)⟩); exact ⟨(((rot_chg hrot (by omega) (by omega)).mono (by omega) (by omega)).trans (hA.1.mono (by omega) (by omega))).trans (hB.1.mono (by omega) (by omega)), srd_join (srd_out hA.2 hB.1 (.inl (Nat.le_refl _))) hB.2 (crs_chg hcr hA.1 hB.1)⟩
                · have pr60 : ¬ (((s : Nat) : Int) : Int) < ((mid : Nat) : Int) := of_decide_eq_false h60
                  refine C_skip ?_
                  refine x_then ?_
                  refine C_seq ?_
                  have hA : Chg d d a mid ∧ Srd lt d a mid := by first | exact hA0 | exact ⟨Chg.refl _ _ _, srd_sub hsd.1 (Nat.le_refl _) (by omega)⟩ | exact ⟨Chg.refl _ _ _, srd_sub hsd.2.1 (by omega) (Nat.le_refl _)⟩
                  have hsm := srd_out hsd.2.2.1 hA.1 (.inr (Nat.le_refl _))
                  have hsn := srd_out hsd.2.2.2 hA.1 (.inr (by omega))
                  refine C_reg ?_
                  refine p1 rfl <| p1 rfl <| p1 rfl <| p1 rfl ?_
                  refine gs 167 rfl rfl (fun h63 => ?_) (fun h63 => ?_)
                  · have pr63 : (((mid : Nat) : Int) : Int) < ((mid + m - s : Nat) : Int) := of_decide_eq_true h63
                    refine p1 rfl <| p1 rfl <| p1 rfl <| p1 rfl ?_
                    refine D_end ?_
                    refine x_then ?_
                    refine D_weak [(3, (.int .i64 ((b : Nat) : Int))), (4, (.pointer (some ⟨g1, 0, none⟩))), (16, (.int .i64 ((mid : Nat) : Int))), (22, (.int .i64 ((mid + m - s : Nat) : Int))), (171, (.bool (decide ((((mid + m - s : Nat) : Int) : Int) < ((b : Nat) : Int)))))] ⟨rfl, rfl, rfl, rfl, rfl, trivial⟩ ?_
                    refine C_if _ rfl (fun h64 => ?_) (fun h64 => ?_)
                    · have pr64 : (((mid + m - s : Nat) : Int) : Int) < ((b : Nat) : Int) := of_decide_eq_true h64
                      refine C_reg ?_
                      refine q1 rfl (lbw 0 a_77 rfl rfl rfl) ?_
                      refine p1 rfl <| p1 rfl <| p1 rfl ?_
                      refine D_fd [1] 0 rfl ?_
                      refine li rfl (csrt b_79 rfl rfl rfl rfl (fun w' hs => ih (b - mid) (by omega) _ w' d hp mid (mid + m - s) b (by first | assumption | omega) (by first | assumption | omega) (by first | assumption | omega) hsm hsn (Nat.le_refl _) hs) fun e3 hB0 => ?_)
                      refine D_end ?_
                      refine R_0n rfl fun w' hs => ⟨rfl, e3, ?_, hs.fd [0, 1] 1 rfl⟩
                      have hB : Chg d e3 mid b ∧ Srd lt e3 mid b := (by first | exact hB0 | exact ⟨Chg.refl _ _ _, srd_sub hsm (Nat.le_refl _) (by omega)⟩ | exact ⟨Chg.refl _ _ _, srd_sub hsn (by omega) (Nat.le_refl _)⟩); exact ⟨(((rot_chg hrot (by omega) (by omega)).mono (by omega) (by omega)).trans (hA.1.mono (by omega) (by omega))).trans (hB.1.mono (by omega) (by omega)), srd_join (srd_out hA.2 hB.1 (.inl (Nat.le_refl _))) hB.2 (crs_chg hcr hA.1 hB.1)⟩
                    · have pr64 : ¬ (((mid + m - s : Nat) : Int) : Int) < ((b : Nat) : Int) := of_decide_eq_false h64
                      refine C_skip ?_
                      refine R_0n rfl fun w' hs => ⟨rfl, d, ?_, hs.fd [] 1 rfl⟩
                      have hB : Chg d d mid b ∧ Srd lt d mid b := (by first | exact hB0 | exact ⟨Chg.refl _ _ _, srd_sub hsm (Nat.le_refl _) (by omega)⟩ | exact ⟨Chg.refl _ _ _, srd_sub hsn (by omega) (Nat.le_refl _)⟩); exact ⟨(((rot_chg hrot (by omega) (by omega)).mono (by omega) (by omega)).trans (hA.1.mono (by omega) (by omega))).trans (hB.1.mono (by omega) (by omega)), srd_join (srd_out hA.2 hB.1 (.inl (Nat.le_refl _))) hB.2 (crs_chg hcr hA.1 hB.1)⟩
                  · have pr63 : ¬ (((mid : Nat) : Int) : Int) < ((mid + m - s : Nat) : Int) := of_decide_eq_false h63
                    refine n1 rfl ?_
                    refine n1 rfl ?_
                    refine n1 rfl ?_
                    refine p1 rfl ?_
                    refine D_end ?_
                    refine x_then ?_
                    refine D_weak [(3, (.int .i64 ((b : Nat) : Int))), (4, (.pointer (some ⟨g1, 0, none⟩))), (16, (.int .i64 ((mid : Nat) : Int))), (22, (.int .i64 ((mid + m - s : Nat) : Int))), (171, (.bool false))] ⟨rfl, rfl, rfl, rfl, rfl, trivial⟩ ?_
                    refine C_f rfl ?_
                    refine C_skip ?_
                    refine R_0n rfl fun w' hs => ⟨rfl, d, ?_, hs.fd [] 1 rfl⟩
                    have hB : Chg d d mid b ∧ Srd lt d mid b := (by first | exact hB0 | exact ⟨Chg.refl _ _ _, srd_sub hsm (Nat.le_refl _) (by omega)⟩ | exact ⟨Chg.refl _ _ _, srd_sub hsn (by omega) (Nat.le_refl _)⟩); exact ⟨(((rot_chg hrot (by omega) (by omega)).mono (by omega) (by omega)).trans (hA.1.mono (by omega) (by omega))).trans (hB.1.mono (by omega) (by omega)), srd_join (srd_out hA.2 hB.1 (.inl (Nat.le_refl _))) hB.2 (crs_chg hcr hA.1 hB.1)⟩
              · have pr59 : ¬ (((a : Nat) : Int) : Int) < ((s : Nat) : Int) := of_decide_eq_false h59
                refine n1 rfl ?_
                refine n1 rfl ?_
                refine n1 rfl ?_
                refine p1 rfl ?_
                refine D_end ?_
                refine x_then ?_
                refine C_f rfl ?_
                refine C_skip ?_
                refine x_then ?_
                refine C_seq ?_
                have hA : Chg d d a mid ∧ Srd lt d a mid := by first | exact hA0 | exact ⟨Chg.refl _ _ _, srd_sub hsd.1 (Nat.le_refl _) (by omega)⟩ | exact ⟨Chg.refl _ _ _, srd_sub hsd.2.1 (by omega) (Nat.le_refl _)⟩
                have hsm := srd_out hsd.2.2.1 hA.1 (.inr (Nat.le_refl _))
                have hsn := srd_out hsd.2.2.2 hA.1 (.inr (by omega))
                refine C_reg ?_
                refine p1 rfl <| p1 rfl <| p1 rfl <| p1 rfl ?_
                refine gs 167 rfl rfl (fun h65 => ?_) (fun h65 => ?_)
                · have pr65 : (((mid : Nat) : Int) : Int) < ((mid + m - s : Nat) : Int) := of_decide_eq_true h65
                  refine p1 rfl <| p1 rfl <| p1 rfl <| p1 rfl ?_
                  refine D_end ?_
                  refine x_then ?_
                  refine D_weak [(3, (.int .i64 ((b : Nat) : Int))), (4, (.pointer (some ⟨g1, 0, none⟩))), (16, (.int .i64 ((mid : Nat) : Int))), (22, (.int .i64 ((mid + m - s : Nat) : Int))), (171, (.bool (decide ((((mid + m - s : Nat) : Int) : Int) < ((b : Nat) : Int)))))] ⟨rfl, rfl, rfl, rfl, rfl, trivial⟩ ?_
                  refine C_if _ rfl (fun h66 => ?_) (fun h66 => ?_)
                  · have pr66 : (((mid + m - s : Nat) : Int) : Int) < ((b : Nat) : Int) := of_decide_eq_true h66
                    refine C_reg ?_
                    refine q1 rfl (lbw 0 a_77 rfl rfl rfl) ?_
                    refine p1 rfl <| p1 rfl <| p1 rfl ?_
                    refine D_fd [1] 0 rfl ?_
                    refine li rfl (csrt b_79 rfl rfl rfl rfl (fun w' hs => ih (b - mid) (by omega) _ w' d hp mid (mid + m - s) b (by first | assumption | omega) (by first | assumption | omega) (by first | assumption | omega) hsm hsn (Nat.le_refl _) hs) fun e3 hB0 => ?_)
                    refine D_end ?_
                    refine R_0n rfl fun w' hs => ⟨rfl, e3, ?_, hs.fd [0, 1] 1 rfl⟩
                    have hB : Chg d e3 mid b ∧ Srd lt e3 mid b := (by first | exact hB0 | exact ⟨Chg.refl _ _ _, srd_sub hsm (Nat.le_refl _) (by omega)⟩ | exact ⟨Chg.refl _ _ _, srd_sub hsn (by omega) (Nat.le_refl _)⟩); exact ⟨(((rot_chg hrot (by omega) (by omega)).mono (by omega) (by omega)).trans (hA.1.mono (by omega) (by omega))).trans (hB.1.mono (by omega) (by omega)), srd_join (srd_out hA.2 hB.1 (.inl (Nat.le_refl _))) hB.2 (crs_chg hcr hA.1 hB.1)⟩
                  · have pr66 : ¬ (((mid + m - s : Nat) : Int) : Int) < ((b : Nat) : Int) := of_decide_eq_false h66
                    refine C_skip ?_
                    refine R_0n rfl fun w' hs => ⟨rfl, d, ?_, hs.fd [] 1 rfl⟩
                    have hB : Chg d d mid b ∧ Srd lt d mid b := (by first | exact hB0 | exact ⟨Chg.refl _ _ _, srd_sub hsm (Nat.le_refl _) (by omega)⟩ | exact ⟨Chg.refl _ _ _, srd_sub hsn (by omega) (Nat.le_refl _)⟩); exact ⟨(((rot_chg hrot (by omega) (by omega)).mono (by omega) (by omega)).trans (hA.1.mono (by omega) (by omega))).trans (hB.1.mono (by omega) (by omega)), srd_join (srd_out hA.2 hB.1 (.inl (Nat.le_refl _))) hB.2 (crs_chg hcr hA.1 hB.1)⟩
                · have pr65 : ¬ (((mid : Nat) : Int) : Int) < ((mid + m - s : Nat) : Int) := of_decide_eq_false h65
                  refine n1 rfl ?_
                  refine n1 rfl ?_
                  refine n1 rfl ?_
                  refine p1 rfl ?_
                  refine D_end ?_
                  refine x_then ?_
                  refine D_weak [(3, (.int .i64 ((b : Nat) : Int))), (4, (.pointer (some ⟨g1, 0, none⟩))), (16, (.int .i64 ((mid : Nat) : Int))), (22, (.int .i64 ((mid + m - s : Nat) : Int))), (171, (.bool false))] ⟨rfl, rfl, rfl, rfl, rfl, trivial⟩ ?_
                  refine C_f rfl ?_
                  refine C_skip ?_
                  refine R_0n rfl fun w' hs => ⟨rfl, d, ?_, hs.fd [] 1 rfl⟩
                  have hB : Chg d d mid b ∧ Srd lt d mid b := (by first | exact hB0 | exact ⟨Chg.refl _ _ _, srd_sub hsm (Nat.le_refl _) (by omega)⟩ | exact ⟨Chg.refl _ _ _, srd_sub hsn (by omega) (Nat.le_refl _)⟩); exact ⟨(((rot_chg hrot (by omega) (by omega)).mono (by omega) (by omega)).trans (hA.1.mono (by omega) (by omega))).trans (hB.1.mono (by omega) (by omega)), srd_join (srd_out hA.2 hB.1 (.inl (Nat.le_refl _))) hB.2 (crs_chg hcr hA.1 hB.1)⟩

theorem sort_stable_func {α : Type} [Inhabited α] {C : List α → Chunk} {lt : α → α → Bool} {d0 : List α} {lf sf : Nat} {lc sc : List Value} {w0 : World} (S : Srt Try.prog C lt d0 lf lc sf sc w0) (ho : Ordr lt) (hmx : d0.length ≤ 2305843009213693951) (Hs : List Chunk) (w : World) (d : List α) (hp : List.Perm d d0) (n : Nat) (hn : n = d0.length) (hst : St w0 (C d :: Hs) w) : Calls Try.prog 55 [(.agg #[(.func (.func lf) #[] lc.toArray), (.func (.func sf) #[] sc.toArray)]), (.int .i64 ((n : Nat) : Int))].toArray w (fun e_ w' => e_ = .returned (.tuple #[]) ∧ ∃ e, (List.Perm e d ∧ Srd lt e 0 n) ∧ St w0 (C e :: Hs) w') := by
  have hdl : d.length = d0.length := hp.length_eq
  refine enterS 57 Try.func55 rfl rfl rfl hst ?_
  refine C_seq ?_
  refine C_reg ?_
  refine li rfl (D_box rfl rfl rfl rfl rfl fun g1 => ?_)
  refine D_end ?_
  refine x_then ?_
  refine D_H (bx g1 [(.func (.func lf) #[] lc.toArray), (.func (.func sf) #[] sc.toArray)] :: C d :: Hs) rfl ?_
  refine C_seq ?_
  refine C_reg ?_
  refine p1 rfl ?_
  refine D_end ?_
  refine x_then ?_
  refine C_seq ?_
  refine C_reg ?_
  refine p1 rfl <| p1 rfl <| p1 rfl ?_
  refine D_end ?_
  refine x_then ?_
  refine C_seq ?_
  refine C_block ?_
  refine C_loop (fun m_ ac w' => ∃ (a : Nat), ∃ (b : Nat), ∃ (e : List α), (b = a + 20) ∧ (a ≤ n) ∧ (∃ q0, a = q0 * 20) ∧ (List.Perm e d) ∧ (Bld lt e 20 a) ∧ m_ = n - a ∧ Fits ac 57 [(1, (.int .i64 ((n : Nat) : Int))), (2, (.pointer (some ⟨g1, 0, none⟩))), (4, (.int .i64 20)), (5, (.int .i64 ((a : Nat) : Int))), (6, (.int .i64 ((b : Nat) : Int)))] ∧ St w0 (bx g1 [(.func (.func lf) #[] lc.toArray), (.func (.func sf) #[] sc.toArray)] :: C e :: Hs) w') ?_ ?_
  · refine fun ac w' hf hs => ⟨_, 0, 20, d, ?_, ?_, ?_, ?_, ?_, rfl, hf.weak ⟨rfl, rfl, rfl, rfl, rfl, trivial⟩, hs⟩
    · first | assumption | omega | simp
    · first | assumption | omega | simp
    · exact ⟨0, rfl⟩
    · exact List.Perm.refl _
    · exact bld_zero _ (by omega)
  · rintro m_ ac w' ⟨a, b, e, hb, han, hq, hpe, hB, rfl, hf, hs⟩
    refine D.use ?_ hf hs
    clear hf hs ac w'
    refine C_seq ?_
    refine C_seq ?_
    refine C_reg ?_
    refine p1 rfl <| p1 rfl <| p1 rfl ?_
    refine D_end ?_
    refine x_then ?_
    refine D_H (bx g1 [(.func (.func lf) #[] lc.toArray), (.func (.func sf) #[] sc.toArray)] :: C e :: Hs) rfl ?_
    refine C_if _ rfl (fun h2 => ?_) (fun h2 => ?_)
    · have pr2 : (((b : Nat) : Int) : Int) ≤ ((n : Nat) : Int) := of_decide_eq_true h2
      refine C_skip ?_
      refine x_then ?_
      refine C_block ?_
      refine C_seq ?_
      refine C_reg ?_
      refine q1 rfl (lbw 0 a_77 rfl rfl rfl) ?_
      refine p1 rfl <| p1 rfl ?_
      refine D_fd [1] 0 rfl ?_
      refine li rfl (csrt b_78 rfl rfl rfl rfl (fun w' hs => sort_insertionSort_func S ho hmx _ w' e (hpe.trans hp) a b (by first | assumption | omega) (by first | assumption | omega) hs) fun e2 he2 => ?_)
      refine D_end ?_
      refine x_then ?_
      refine D_H (C e2 :: bx g1 [(.func (.func lf) #[] lc.toArray), (.func (.func sf) #[] sc.toArray)] :: Hs) rfl ?_
      refine C_seq ?_
      refine C_reg ?_
      refine p1 rfl <| p1 rfl ?_
      refine D_end ?_
      refine x_then ?_
      refine C_reg ?_
      refine p1 rfl <| p1 rfl ?_
      refine q1 rfl (D_add rfl rfl rfl (r := ((b + 20 : Nat) : Int)) (by omega) (by omega)) ?_
      refine p1 rfl ?_
      refine D_end ?_
      refine x_blk ?_
      refine x_then ?_
      refine fun ac w' hf hs => ⟨_, ?_, b, b + 20, e2, ?_, ?_, ?_, ?_, ?_, rfl, hf.weak ⟨rfl, rfl, rfl, rfl, rfl, trivial⟩, hs.fd [0, 1] 0 rfl⟩
      · omega
      · first | assumption | omega | simp
      · first | assumption | omega | simp
      · exact (bld_step hB hq (by omega) hb he2.1 he2.2).2
      · exact he2.1.perm.trans hpe
      · exact (bld_step hB hq (by omega) hb he2.1 he2.2).1
    · have pr2 : ¬ (((b : Nat) : Int) : Int) ≤ ((n : Nat) : Int) := of_decide_eq_false h2
      refine C_exit ?_
      refine x_then_exit ?_
      refine x_then_exit ?_
      refine x_blk_eq ?_
      refine x_then ?_
      refine C_seq ?_
      refine C_reg ?_
      refine q1 rfl (lbw 0 a_77 rfl rfl rfl) ?_
      refine p1 rfl <| p1 rfl ?_
      refine D_fd [1] 0 rfl ?_
      refine li rfl (csrt b_78 rfl rfl rfl rfl (fun w' hs => sort_insertionSort_func S ho hmx _ w' e (hpe.trans hp) a n (by first | assumption | omega) (by first | assumption | omega) hs) fun e3 he3 => ?_)
      refine D_end ?_
      refine x_then ?_
      refine D_H (C e3 :: bx g1 [(.func (.func lf) #[] lc.toArray), (.func (.func sf) #[] sc.toArray)] :: Hs) rfl ?_
      refine C_block ?_
      refine C_loop (fun m_ ac w' => ∃ (bs : Nat), ∃ (e : List α), (20 ≤ bs) ∧ (bs ≤ 2 * n + 20) ∧ (List.Perm e d) ∧ (Blk lt e bs n 0) ∧ m_ = n - bs ∧ Fits ac 57 [(1, (.int .i64 ((n : Nat) : Int))), (2, (.pointer (some ⟨g1, 0, none⟩))), (4, (.int .i64 ((bs : Nat) : Int)))] ∧ St w0 (C e :: bx g1 [(.func (.func lf) #[] lc.toArray), (.func (.func sf) #[] sc.toArray)] :: Hs) w') ?_ ?_
      · refine fun ac w' hf hs => ⟨_, 20, e3, ?_, ?_, ?_, ?_, rfl, hf.weak ⟨rfl, rfl, rfl, trivial⟩, hs⟩
        · first | assumption | omega | simp
        · first | assumption | omega | simp
        · exact he3.1.perm.trans hpe
        · exact bld_fin (bld_keep hB he3.1) hq he3.2 (by omega)
      · rintro m_ ac w' ⟨bs, e, hbs, hbx, hpe, hK, rfl, hf, hs⟩
        refine D.use ?_ hf hs
        clear hf hs ac w'
        refine C_seq ?_
        refine C_seq ?_
        refine C_reg ?_
        refine p1 rfl <| p1 rfl <| p1 rfl ?_
        refine D_end ?_
        refine x_then ?_
        refine D_H (C e :: bx g1 [(.func (.func lf) #[] lc.toArray), (.func (.func sf) #[] sc.toArray)] :: Hs) rfl ?_
        refine C_if _ rfl (fun h3 => ?_) (fun h3 => ?_)
        · have pr3 : (((bs : Nat) : Int) : Int) < ((n : Nat) : Int) := of_decide_eq_true h3
          refine C_skip ?_
          refine x_then ?_
          refine C_block ?_
          refine C_seq ?_
          refine C_reg ?_
          refine p1 rfl ?_
          refine q1 rfl (D_mulN (m := 2) (n := bs) rfl rfl rfl (by omega)) ?_
          refine p1 rfl <| p1 rfl ?_
          refine D_end ?_
          refine x_then ?_
          refine C_seq ?_
          refine C_block ?_
          refine C_loop (fun m_ ac w' => ∃ (a : Nat), ∃ (b : Nat), ∃ (e : List α), (b = a + 2 * bs) ∧ (a ≤ n) ∧ (∃ q0, a = q0 * (2 * bs)) ∧ (List.Perm e d) ∧ (Bld lt e (2 * bs) a) ∧ (Blk lt e bs n a) ∧ m_ = n - a ∧ Fits ac 57 [(1, (.int .i64 ((n : Nat) : Int))), (2, (.pointer (some ⟨g1, 0, none⟩))), (4, (.int .i64 ((bs : Nat) : Int))), (5, (.int .i64 ((a : Nat) : Int))), (6, (.int .i64 ((b : Nat) : Int)))] ∧ St w0 (C e :: bx g1 [(.func (.func lf) #[] lc.toArray), (.func (.func sf) #[] sc.toArray)] :: Hs) w') ?_ ?_
          · refine fun ac w' hf hs => ⟨_, 0, 2 * bs, e, ?_, ?_, ?_, ?_, ?_, ?_, rfl, hf.weak ⟨rfl, rfl, rfl, rfl, rfl, trivial⟩, hs⟩
            · first | assumption | omega | simp
            · first | assumption | omega | simp
            · exact ⟨0, by omega⟩
            · exact hpe
            · exact bld_zero _ (by omega)
            · exact hK
          · rintro m_ ac w' ⟨a, b, e, hb, han, hq, hpe2, hB2, hK2, rfl, hf, hs⟩
            refine D.use ?_ hf hs
            clear hf hs ac w'
            refine C_seq ?_
            refine C_seq ?_
            refine C_reg ?_
            refine p1 rfl <| p1 rfl <| p1 rfl ?_
            refine D_end ?_
            refine x_then ?_
            refine C_if _ rfl (fun h4 => ?_) (fun h4 => ?_)
            · have pr4 : (((b : Nat) : Int) : Int) ≤ ((n : Nat) : Int) := of_decide_eq_true h4
              refine C_skip ?_
              refine x_then ?_
              refine C_block ?_
              refine C_seq ?_
              refine C_reg ?_
              refine q1 rfl (lbw 1 a_77 rfl rfl rfl) ?_
              refine p1 rfl <| p1 rfl <| p1 rfl ?_
              refine q1 rfl (D_add rfl rfl rfl (r := ((a + bs : Nat) : Int)) (by omega) (by omega)) ?_
              refine p1 rfl ?_
              refine li rfl (csrt b_79 rfl rfl rfl rfl (fun w' hs => sort_symMerge_func S ho hmx (b - a) _ w' e (hpe2.trans hp) a (a + bs) b (by first | assumption | omega) (by first | assumption | omega) (by first | assumption | omega) (srd_min (blk_two hK2 hq).1 (by omega)) (by have hq2 := (blk_two hK2 hq).2; rw [show b = a + bs + bs from by omega]; exact srd_min hq2 (by omega)) (Nat.le_refl _) hs) fun e4 he4 => ?_)
              refine D_end ?_
              refine x_then ?_
              refine D_H (C e4 :: bx g1 [(.func (.func lf) #[] lc.toArray), (.func (.func sf) #[] sc.toArray)] :: Hs) rfl ?_
              refine C_seq ?_
              refine C_reg ?_
              refine p1 rfl <| p1 rfl ?_
              refine D_end ?_
              refine x_then ?_
              refine C_reg ?_
              refine p1 rfl <| p1 rfl ?_
              refine q1 rfl (D_mulN (m := 2) (n := bs) rfl rfl rfl (by omega)) ?_
              refine q1 rfl (D_add rfl rfl rfl (r := ((b + 2 * bs : Nat) : Int)) (by omega) (by omega)) ?_
              refine p1 rfl ?_
              refine D_end ?_
              refine x_blk ?_
              refine x_then ?_
              refine fun ac w' hf hs => ⟨_, ?_, b, b + 2 * bs, e4, ?_, ?_, ?_, ?_, ?_, ?_, rfl, hf.weak ⟨rfl, rfl, rfl, rfl, rfl, trivial⟩, hs⟩
              · omega
              · first | assumption | omega | simp
              · first | assumption | omega | simp
              · exact (bld_step hB2 hq (by omega) hb he4.1 he4.2).2
              · exact he4.1.perm.trans hpe2
              · exact (bld_step hB2 hq (by omega) hb he4.1 he4.2).1
              · exact blk_out hK2 he4.1 (by omega)
            · have pr4 : ¬ (((b : Nat) : Int) : Int) ≤ ((n : Nat) : Int) := of_decide_eq_false h4
              refine C_exit ?_
              refine x_then_exit ?_
              refine x_then_exit ?_
              refine x_blk_eq ?_
              refine x_then ?_
              refine C_seq ?_
              refine C_seq ?_
              refine C_reg ?_
              refine p1 rfl <| p1 rfl ?_
              refine q1 rfl (D_add rfl rfl rfl (r := ((a + bs : Nat) : Int)) (by omega) (by omega)) ?_
              refine p1 rfl ?_
              refine D_end ?_
              refine x_then ?_
              refine C_seq ?_
              refine C_reg ?_
              refine p1 rfl <| p1 rfl <| p1 rfl ?_
              refine D_end ?_
              refine x_then ?_
              refine C_if _ rfl (fun h5 => ?_) (fun h5 => ?_)
              · have pr5 : (((a + bs : Nat) : Int) : Int) < ((n : Nat) : Int) := of_decide_eq_true h5
                refine C_reg ?_
                refine q1 rfl (lbw 1 a_77 rfl rfl rfl) ?_
                refine p1 rfl <| p1 rfl <| p1 rfl ?_
                refine li rfl (csrt b_79 rfl rfl rfl rfl (fun w' hs => sort_symMerge_func S ho hmx (n - a) _ w' e (hpe2.trans hp) a (a + bs) n (by first | assumption | omega) (by first | assumption | omega) (by first | assumption | omega) (srd_min (blk_two hK2 hq).1 (by omega)) (srd_min2 (blk_two hK2 hq).2 (by omega)) (Nat.le_refl _) hs) fun e5 he5 => ?_)
                refine D_end ?_
                refine x_then ?_
                refine D_weak [(1, (.int .i64 ((n : Nat) : Int))), (2, (.pointer (some ⟨g1, 0, none⟩))), (4, (.int .i64 ((bs : Nat) : Int)))] ⟨rfl, rfl, rfl, trivial⟩ ?_
                refine D_H (C e5 :: bx g1 [(.func (.func lf) #[] lc.toArray), (.func (.func sf) #[] sc.toArray)] :: Hs) rfl ?_
                have hfin : List.Perm e5 d ∧ Blk lt e5 (bs * 2) n 0 := by rw [Nat.mul_comm bs 2]; first | exact ⟨he5.1.perm.trans hpe2, bld_fin (bld_keep hB2 he5.1) hq he5.2 (by omega)⟩ | exact ⟨hpe2, bld_fin hB2 hq (srd_min2 (blk_two hK2 hq).1 (by omega)) (by omega)⟩
                refine C_reg ?_
                refine p1 rfl ?_
                refine q1 rfl (D_mulN (m := bs) (n := 2) rfl rfl rfl (by omega)) ?_
                refine p1 rfl ?_
                refine D_end ?_
                refine x_blk ?_
                refine x_then ?_
                refine fun ac w' hf hs => ⟨_, ?_, bs * 2, e5, ?_, ?_, ?_, ?_, rfl, hf.weak ⟨rfl, rfl, rfl, trivial⟩, hs⟩
                · omega
                · first | assumption | omega | simp
                · first | assumption | omega | simp
                · exact hfin.1
                · exact hfin.2
              · have pr5 : ¬ (((a + bs : Nat) : Int) : Int) < ((n : Nat) : Int) := of_decide_eq_false h5
                refine C_skip ?_
                refine x_then ?_
                have hfin : List.Perm e d ∧ Blk lt e (bs * 2) n 0 := by rw [Nat.mul_comm bs 2]; first | exact ⟨he5.1.perm.trans hpe2, bld_fin (bld_keep hB2 he5.1) hq he5.2 (by omega)⟩ | exact ⟨hpe2, bld_fin hB2 hq (srd_min2 (blk_two hK2 hq).1 (by omega)) (by omega)⟩
                refine C_reg ?_
                refine p1 rfl ?_
                refine q1 rfl (D_mulN (m := bs) (n := 2) rfl rfl rfl (by omega)) ?_
                refine p1 rfl ?_
                refine D_end ?_
                refine x_blk ?_
                refine x_then ?_
                refine fun ac w' hf hs => ⟨_, ?_, bs * 2, e, ?_, ?_, ?_, ?_, rfl, hf.weak ⟨rfl, rfl, rfl, trivial⟩, hs⟩
                · omega
                · first | assumption | omega | simp
                · first | assumption | omega | simp
                · exact hfin.1
                · exact hfin.2
        · have pr3 : ¬ (((bs : Nat) : Int) : Int) < ((n : Nat) : Int) := of_decide_eq_false h3
          refine C_exit ?_
          refine x_then_exit ?_
          refine x_then_exit ?_
          refine x_blk_eq ?_
          refine R_0n rfl fun w' hs => ⟨rfl, e, ?_, hs.fd [0, 1] 1 rfl⟩
          exact ⟨hpe, blk_all hK (by omega)⟩

theorem sort_SliceStable {α : Type} [Inhabited α] {C : List α → Chunk} {lt : α → α → Bool} {d0 : List α} {lf sf : Nat} {lc sc : List Value} {w0 : World} (S : Srt Try.prog C lt d0 lf lc sf sc w0) (ho : Ordr lt) (hmx : d0.length ≤ 2305843009213693951) (Hs : List Chunk) (w : World) (d : List α) (hp : List.Perm d d0) {t e_ n c : Nat} {i : TypeInfo} {p : Option Addr} (hi : Try.prog.info? t = some i) (hdd : i.desc = .slice e_) (hpk : Try.prog.packed t = false) (hn : n = d0.length) (hsw : ∀ w, (Extern.ReflectliteSwapper.swapper "internal/reflectlite" (Extern.ReflectliteValue.valueError "Swapper") #[.iface t (.slice p n c)]).run Try.prog w = .ok (.func (.func sf) #[] sc.toArray) w) (hst : St w0 (C d :: Hs) w) : Calls Try.prog 33 [(.iface t (.slice p n c)), (.func (.func lf) #[] lc.toArray)].toArray w (fun e_ w' => e_ = .returned (.tuple #[]) ∧ ∃ e, (List.Perm e d ∧ Srd lt e 0 n) ∧ St w0 (C e :: Hs) w') := by
  have hdl : d.length = d0.length := hp.length_eq
  refine enterS 16 Try.func33 rfl rfl rfl hst ?_
  refine C_seq ?_
  refine C_reg ?_
  refine p1 rfl ?_
  refine li rfl (D_vof Try.func53 (by kernel_rfl) (by kernel_rfl) (by kernel_rfl) (by kernel_rfl) hi hdd rfl rfl rfl rfl fun g1 => ?_)
  refine li rfl (D_alloc y_71 rfl rfl rfl rfl fun g2 => ?_)
  refine li rfl (D_stb (vs := [(typeHandle Try.prog t), (.pointer (some ⟨g1, 0, none⟩)), (.int .u64 151)]) (cs' := [(typeHandle Try.prog t), (.pointer (some ⟨g1, 0, none⟩)), (.int .u64 151)]) 0 z_71 rfl rfl rfl rfl rfl rfl (ocons rfl (ocons rfl (ocons rfl onil))) (by simp) rfl ?_)
  refine D_end ?_
  refine x_then ?_
  refine D_H (bx g2 [(typeHandle Try.prog t), (.pointer (some ⟨g1, 0, none⟩)), (.int .u64 151)] :: bx g1 [(.slice p n c)] :: C d :: Hs) rfl ?_
  refine C_seq ?_
  refine C_reg ?_
  refine p1 rfl ?_
  refine q1 rfl (D_swr Try.func54 (by kernel_rfl) (by kernel_rfl) (by kernel_rfl) (by kernel_rfl) hsw rfl rfl) ?_
  refine p1 rfl ?_
  refine D_end ?_
  refine x_then ?_
  refine C_reg ?_
  refine p1 rfl <| p1 rfl ?_
  refine q1 rfl (D_build (vs := [(0, (.func (.func lf) #[] lc.toArray)), (1, (.func (.func sf) #[] sc.toArray))]) (cs := [(.func (.func lf) #[] lc.toArray), (.func (.func sf) #[] sc.toArray)]) rfl (fun _ => by kernel_rfl) rfl) ?_
  refine q1 rfl (lbw 0 a_71 rfl rfl rfl) ?_
  refine q1 rfl (D_vln 1 Try.func56 (by kernel_rfl) (by kernel_rfl) (by kernel_rfl) (by kernel_rfl) hi hdd hpk rfl rfl rfl) ?_
  refine D_fd [2] 0 rfl ?_
  refine li rfl (csrt b_55 rfl rfl rfl rfl (fun w' hs => sort_stable_func S ho hmx _ w' d hp n (by first | assumption | omega) hs) fun e2 he2 => ?_)
  refine D_end ?_
  refine R_0n rfl fun w' hs => ⟨rfl, e2, ?_, hs.fd [0, 2, 2] 2 rfl⟩
  exact he2
end Go.Sy.Sorts
