/-
  What the rounds of solvable beliefs are like.
  Conditions: none.
-/
import Derived.Test.YtkdghbglefhcjaaLab
namespace Go.Sy

def inAll (g : Nat → Int) (r : Reason) : Prop := (∀ y ∈ r.In, 0 ≤ g y.toNat) ∧ ∀ y ∈ r.Out, g y.toNat < 0
structure RI (b : Beliefs) (s : RS) : Prop where
  i1 : ∀ x, s.g x = -1 ∨ (0 ≤ s.g x ∧ s.g x < s.rd)
  i2 : ∀ x, 0 ≤ s.g x → strat b x ≤ s.lev
  i3 : ∀ x, 0 ≤ s.g x → ∃ r ∈ b.Reasons, r.For = (x : Int) ∧ supG s.g (s.g x) r = true
  i4 : ∀ r ∈ b.Reasons, strat b r.For.toNat < s.lev → inAll s.g r → 0 ≤ s.g r.For.toNat
theorem supG_iff {g : Nat → Int} {rd : Int} {r : Reason} : supG g rd r = true ↔ (∀ y ∈ r.In, 0 ≤ g y.toNat ∧ g y.toNat < rd) ∧ ∀ y ∈ r.Out, g y.toNat < 0 := by
  simp only [supG, Bool.and_eq_true, List.all_eq_true, decide_eq_true_eq]
theorem RI.itr {b : Beliefs} (ho : okB b = true) (hs : HasSol b) : ∀ k, RI b (itr b k)
  | 0 => ⟨fun x => .inl rfl, fun x h => absurd h (by show ¬ (0 : Int) ≤ -1; omega), fun x h => absurd h (by show ¬ (0 : Int) ≤ -1; omega), fun r _ h => absurd h (by have := strat_nn b r.For.toNat; show ¬ strat b r.For.toNat < ((0 : Nat) : Int); omega)⟩
  | k + 1 => by
    have ih := RI.itr ho hs k
    show RI b (stpR b (Sy.itr b k))
    generalize Sy.itr b k = s at ih
    have hss := strat_sol hs
    unfold stpR
    split
    · rename_i hc
      -- a round
      have hold : ∀ x, 0 ≤ s.g x → upR b s.lev s.rd s.g x = s.g x := fun x hx => by
        unfold upR
        rw [if_neg]
        intro hcm
        obtain ⟨_, _, _, _, hlt, _⟩ := comes_parts hcm
        omega
      have hnew : ∀ x, upR b s.lev s.rd s.g x = s.g x ∨ (comes b s.lev s.rd s.g x = true ∧ upR b s.lev s.rd s.g x = s.rd) := fun x => by
        unfold upR
        by_cases h : comes b s.lev s.rd s.g x = true
        · rw [if_pos h]; exact .inr ⟨h, rfl⟩
        · rw [if_neg h]; exact .inl rfl
      refine ⟨fun x => ?_, fun x hx => ?_, fun x hx => ?_, fun r hr hl hin => ?_⟩
      · show upR b s.lev s.rd s.g x = -1 ∨ (0 ≤ upR b s.lev s.rd s.g x ∧ upR b s.lev s.rd s.g x < ((s.rd + 1 : Nat) : Int))
        have := ih.i1 x
        rcases hnew x with e | ⟨_, e⟩ <;> rw [e] <;> omega
      · show strat b x ≤ s.lev
        rcases hnew x with e | ⟨hcm, _⟩
        · exact ih.i2 x (by rw [← e]; exact hx)
        · obtain ⟨_, _, _, _, _, h, _⟩ := comes_parts hcm
          omega
      · show ∃ r ∈ b.Reasons, r.For = (x : Int) ∧ supG (upR b s.lev s.rd s.g) (upR b s.lev s.rd s.g x) r = true
        have out : ∀ r ∈ b.Reasons, r.For = (x : Int) → strat b x ≤ s.lev → (∀ y ∈ r.Out, s.g y.toNat < 0) → ∀ y ∈ r.Out, upR b s.lev s.rd s.g y.toNat < 0 := fun r hr hf hle h y hy => by
          rcases hnew y.toNat with e | ⟨hcm, _⟩
          · rw [e]; exact h y hy
          · obtain ⟨_, _, _, _, _, h5, _⟩ := comes_parts hcm
            have := (hss.2 r hr).2 y hy
            rw [hf, Int.toNat_natCast] at this
            omega
        rcases hnew x with e | ⟨hcm, e⟩
        · have hx' : 0 ≤ s.g x := by rw [← e]; exact hx
          obtain ⟨r, hr, hf, hsp⟩ := ih.i3 x hx'
          rw [supG_iff] at hsp
          refine ⟨r, hr, hf, ?_⟩
          rw [supG_iff, e]
          refine ⟨fun y hy => ?_, out r hr hf (ih.i2 x hx') hsp.2⟩
          have := hsp.1 y hy
          rw [hold _ this.1]; exact this
        · obtain ⟨r, hr, hf, _, _, hst, hsp⟩ := comes_parts hcm
          rw [supG_iff] at hsp
          refine ⟨r, hr, hf, ?_⟩
          rw [supG_iff, e]
          refine ⟨fun y hy => ?_, out r hr hf (by omega) hsp.2⟩
          have := hsp.1 y hy
          rw [hold _ this.1]; exact this
      · show 0 ≤ upR b s.lev s.rd s.g r.For.toNat
        have hl : strat b r.For.toNat < s.lev := hl
        have h2 : inAll s.g r := by
          refine ⟨fun y hy => ?_, fun y hy => ?_⟩
          · have h1 : 0 ≤ upR b s.lev s.rd s.g y.toNat := hin.1 y hy
            rcases hnew y.toNat with e | ⟨hcm, _⟩
            · rw [e] at h1; exact h1
            · obtain ⟨_, _, _, _, _, h5, _⟩ := comes_parts hcm
              have := (hss.2 r hr).1 y hy
              omega
          · have h1 : upR b s.lev s.rd s.g y.toNat < 0 := hin.2 y hy
            rcases hnew y.toNat with e | ⟨hcm, e⟩
            · rw [e] at h1; exact h1
            · rw [e] at h1; omega
        have h3 := ih.i4 r hr hl h2
        rw [hold _ h3]; exact h3
    · rename_i hc
      refine ⟨ih.i1, fun x hx => ?_, ih.i3, fun r hr hl hin => ?_⟩
      · have := ih.i2 x hx
        show strat b x ≤ ((s.lev + 1 : Nat) : Int)
        omega
      · have hl : strat b r.For.toNat < ((s.lev + 1 : Nat) : Int) := hl
        by_cases h : strat b r.For.toNat < s.lev
        · exact ih.i4 r hr h hin
        · refine Classical.byContradiction fun hneg => hc ?_
          rw [List.any_eq_true]
          refine ⟨r, hr, ?_⟩
          simp only [comesR, Bool.and_eq_true, decide_eq_true_eq]
          refine ⟨⟨by omega, ?_⟩, ?_⟩
          · have hneg : ¬ 0 ≤ s.g r.For.toNat := hneg
            omega
          · rw [supG_iff]
            refine ⟨fun y hy => ?_, hin.2⟩
            have := hin.1 y hy
            have h1 := ih.i1 y.toNat
            have : 0 ≤ s.g y.toNat := this
            omega
/-- enough steps -/
theorem itr_end {b : Beliefs} {n : Nat} (hn : b.Nodes = n) (ho : okB b = true) : ∀ k, k ≤ (itr b k).lev + cnt n (nn (itr b k).g)
  | 0 => Nat.zero_le _
  | k + 1 => by
    have ih := itr_end hn ho k
    show k + 1 ≤ (stpR b (itr b k)).lev + cnt n (nn (stpR b (itr b k)).g)
    unfold stpR
    split
    · rename_i h
      have := up_cnt hn ho h
      simp only
      omega
    · simp only
      omega
structure RF (b : Beliefs) (g : Nat → Int) : Prop where
  f1 : ∀ x, g x = -1 ∨ (0 ≤ g x ∧ g x ≤ b.Nodes)
  f3 : ∀ x, 0 ≤ g x → ∃ r ∈ b.Reasons, r.For = (x : Int) ∧ supG g (g x) r = true
  f4 : ∀ r ∈ b.Reasons, inAll g r → 0 ≤ g r.For.toNat
theorem rnds_facts {b : Beliefs} (ho : okB b = true) (hs : HasSol b) : RF b (rnds b) := by
  have hbn := okB_nodes ho
  obtain ⟨n, hn⟩ : ∃ n : Nat, b.Nodes = (n : Int) := ⟨b.Nodes.toNat, by omega⟩
  have h1 := itr_end hn ho (2 * n)
  have h2 := cnt_le n (nn (itr b (2 * n)).g)
  have hlev : n ≤ (itr b (2 * n)).lev := by omega
  have hall : ∀ x : Nat, (x : Int) < b.Nodes → strat b x < (itr b (2 * n)).lev := fun x hx => by
    have := strat_lt hs hx
    omega
  have e := rnds_eq ho hs ⟨2 * n, rfl⟩ hall
  have hri := RI.itr ho hs (2 * n)
  have hrd := Rch.rd_n hn ho (s := itr b (2 * n)) ⟨2 * n, rfl⟩
  rw [e]
  refine ⟨fun x => ?_, hri.i3, fun r hr hin => ?_⟩
  · have := hri.i1 x
    omega
  · have hF := isR_for (okB_m ho hr)
    exact hri.i4 r hr (hall _ (by omega)) hin

/-! ### no absences -/
inductive Dv (b : Beliefs) : Nat → Prop
  | mk (r : Reason) : r ∈ b.Reasons → (∀ y ∈ r.In, Dv b y.toNat) → Dv b r.For.toNat
theorem lbs_dv {b : Beliefs} (ho : okB b = true) (hs : HasSol b) (hno : ∀ r ∈ b.Reasons, r.Out = []) (x : Nat) : lbs b x = true ↔ Dv b x := by
  have hf := rnds_facts ho hs
  have key : ∀ (m : Nat) (x : Nat), 0 ≤ rnds b x → rnds b x < m → Dv b x := by
    intro m
    induction m with
    | zero => intro x h1 h2; omega
    | succ m ih =>
      intro x h1 h2
      obtain ⟨r, hr, e, hsp⟩ := hf.f3 x h1
      rw [supG_iff] at hsp
      have : x = r.For.toNat := by omega
      rw [this]
      refine .mk r hr (fun y hy => ?_)
      have := hsp.1 y hy
      exact ih _ this.1 (by omega)
  constructor
  · intro h
    have h := of_decide_eq_true h
    exact key ((rnds b x).toNat + 1) x h (by omega)
  · intro h
    refine decide_eq_true ?_
    induction h with
    | mk r hr _ ih => exact hf.f4 r hr ⟨ih, fun y hy => by rw [hno r hr] at hy; cases hy⟩
end Go.Sy
