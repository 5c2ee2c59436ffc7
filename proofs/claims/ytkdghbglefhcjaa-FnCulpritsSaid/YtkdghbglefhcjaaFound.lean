/-
  Foundations: the reasons on which a node stands.
  Conditions: none.
-/
import Derived.Test.YtkdghbglefhcjaaFrame
namespace Go.Sy
open Go Go.RowKit

section
variable {P : Program} {N : Nat} {w0 : World} {H : List Chunk} {L : Fm} {Q : Exit → Act → World → Prop} {o : Oper} {d : Nat} {K : Act → World → Prop}
/-- a call that takes an owned list and hands back an owned list -/
theorem cmv {α β : Type} [Gd α] [Tid α] [Gd β] [Tid β] {f : Nat} {as : List Operand} {vs : List Value} {tys : Array TypeId} {v : Value} {l : List α} {l' : List β} (hb : hasBody P f = true)
    (ho : o.op = .call ⟨.value (.func f), as.toArray, tys⟩) (ha : evs L as = some vs) (hd : o.dst = some d) (hN : Nat.blt d N = true)
    (hc : ∀ w, St w0 (ov [v] l :: H) w → Calls P f vs.toArray w (fun e w' => ∃ u, e = .returned u ∧ St w0 (ov [u] l' :: H) w'))
    (k : ∀ u, D N w0 (ov [u] l' :: H) ((d, u) :: L) K) : D N w0 (ov [v] l :: H) L (fun a w => o.wp P a w K Q) :=
  D_call (σ := Value) (val := fun u => u) (H' := fun u => ov [u] l' :: H) (J := fun _ => True) hb ho ha hd hN
    (fun w hs => (hc w hs).mono fun _ _ ⟨u, he, hst⟩ => ⟨u, he, trivial, hst⟩) (fun u _ => k u)
theorem mv_nil {α : Type} [Gd α] [Tid α] {w : World} : St w [ov [.slice none 0 0] ([] : List α)] w := (St.start w).nul (c := ov [.slice none 0 0] ([] : List α)) ow_nil
theorem mv_res {α : Type} [Gd α] [Tid α] {w w' : World} {e : Ending} {l : List α} (h : ∃ u, e = .returned u ∧ St w [ov [u] l] w') : Res w l e w' := by
  obtain ⟨u, he, hst⟩ := h
  rw [he]
  exact res_of (k := 0) (cs := [u]) hst rfl rfl
end

def inOf (b : Beliefs) (s : Int) : List Int := match b.Reasons[s.toNat]? with | some r => r.In | none => []
def fndG (b : Beliefs) (sp : Int → Int) : Nat → Int → List Int → List Int
  | 0, _, acc => acc
  | f + 1, x, acc => if sp x < 0 ∨ acc.contains (sp x) = true then acc else (inOf b (sp x)).foldl (fun a y => fndG b sp f y a) acc ++ [sp x]
def flT (b : Beliefs) (sp : Int → Int) (m : Nat) (l : List Int) (k : Nat) (acc : List Int) : List Int := (l.take k).foldl (fun a y => fndG b sp m y a) acc
theorem flT_zero (b : Beliefs) (sp : Int → Int) (m : Nat) (l acc : List Int) : acc = flT b sp m l 0 acc := rfl
theorem flT_step {b : Beliefs} {sp : Int → Int} {m k : Nat} {l acc : List Int} {y : Int} (h : l[k]? = some y) : fndG b sp m y (flT b sp m l k acc) = flT b sp m l (k + 1) acc := by
  unfold flT
  rw [take_snoc h, List.foldl_append]; rfl
theorem fnd_stop {b : Beliefs} {sp : Int → Int} {f : Nat} {x : Int} {l : List Int} (h : sp x < 0 ∨ l.contains (sp x) = true) : l = fndG b sp f x l := by
  cases f with
  | zero => rfl
  | succ f => unfold fndG; rw [if_pos h]
theorem fnd_go {b : Beliefs} {sp : Int → Int} {f m k : Nat} {x : Int} {l : List Int} {r : Reason} (hm : f = m + 1) (h : ¬ sp x < 0) (h2 : l.contains (sp x) = false) (hr : b.Reasons[(sp x).toNat]? = some r) (hk : r.In.length ≤ k) : flT b sp m r.In k l ++ [sp x] = fndG b sp f x l := by
  subst hm
  unfold fndG
  rw [if_neg (by rw [h2]; rintro (h3 | h3); (· exact h h3); (· cases h3))]
  unfold flT inOf
  rw [List.take_of_length_le hk, hr]

def SpOk (b : Beliefs) (rl : List Int) (sp : Int → Int) : Prop := ∀ x, sp x = -1 ∨ ∃ (k : Nat) (r : Reason), sp x = (k : Int) ∧ b.Reasons[k]? = some r ∧ hasFor rl x r = true ∧ 0 ≤ x ∧ x < b.Nodes ∧ 0 ≤ atZ rl x.toNat
theorem spL_ok (b : Beliefs) (rl : List Int) : SpOk b rl (suppL b rl) := fun x => suppL_rng b rl x
theorem spO_ok (b : Beliefs) : SpOk b (roundsOf b) (suppOf b) := fun x => by
  cases h : isStrat b with
  | false => exact .inl (suppOf_f h).symm
  | true => rw [← suppOf_t h]; exact suppL_rng b _ x
theorem hasFor_for {l : List Int} {x : Int} {r : Reason} (h : hasFor l x r = true) : r.For = x := by
  simp only [hasFor, Bool.and_eq_true, decide_eq_true_eq] at h
  exact h.1
theorem hasFor_in {l : List Int} {x y : Int} {r : Reason} (h : hasFor l x r = true) (hy : y ∈ r.In) : 0 ≤ atZ l y.toNat ∧ atZ l y.toNat < atZ l x.toNat := by
  simp only [hasFor, supL, Bool.and_eq_true, List.all_eq_true] at h
  have := h.2.1 y hy
  simpa only [befL, Bool.and_eq_true, decide_eq_true_eq] using this
def El (b : Beliefs) (rl : List Int) (m : Int) (y : Int) : Prop := ∃ (k : Nat) (r : Reason), y = (k : Int) ∧ b.Reasons[k]? = some r ∧ atZ rl r.For.toNat ≤ m
theorem El.mono {b : Beliefs} {rl : List Int} {m m' y : Int} (h : El b rl m y) (hm : m ≤ m') : El b rl m' y := by
  obtain ⟨k, r, h1, h2, h3⟩ := h
  exact ⟨k, r, h1, h2, by omega⟩
theorem inOf_at {b : Beliefs} {k : Nat} {r : Reason} {s : Int} (hs : s = (k : Int)) (hr : b.Reasons[k]? = some r) : inOf b s = r.In := by
  unfold inOf
  rw [hs, Int.toNat_natCast, hr]
theorem mem_fnd {b : Beliefs} {rl : List Int} {sp : Int → Int} (hsp : SpOk b rl sp) : ∀ (f : Nat) (x : Int) (acc : List Int) (y : Int), y ∈ fndG b sp f x acc → y ∈ acc ∨ El b rl (atZ rl x.toNat) y
  | 0, _, _, _, h => .inl h
  | f + 1, x, acc, y, h => by
    unfold fndG at h
    by_cases hc : sp x < 0 ∨ acc.contains (sp x) = true
    · rw [if_pos hc] at h; exact .inl h
    · rw [if_neg hc] at h
      rcases hsp x with e | ⟨k, r, e, hr, hf, _⟩
      · exact absurd (.inl (by omega)) hc
      · rw [inOf_at e hr] at h
        have fold : ∀ (l : List Int) (a : List Int), (∀ z ∈ l, z ∈ r.In) → y ∈ l.foldl (fun a z => fndG b sp f z a) a → y ∈ a ∨ El b rl (atZ rl x.toNat) y := by
          intro l
          induction l with
          | nil => intro a _ h; exact .inl h
          | cons z l ih =>
            intro a hl h
            rcases ih _ (fun q hq => hl q (by simp [hq])) h with h | h
            · rcases mem_fnd hsp f z a y h with h | h
              · exact .inl h
              · have := hasFor_in hf (hl z (by simp))
                exact .inr (h.mono (by omega))
            · exact .inr h
        rcases List.mem_append.1 h with h | h
        · exact fold r.In acc (fun _ h => h) h
        · rw [List.mem_singleton] at h
          exact .inr ⟨k, r, by omega, hr, by rw [hasFor_for hf]; exact Int.le_refl _⟩
def Good (b : Beliefs) (acc : List Int) : Prop := acc.Nodup ∧ ∀ y ∈ acc, 0 ≤ y ∧ y < b.Reasons.length
theorem Good.nil (b : Beliefs) : Good b [] := ⟨List.nodup_nil, fun y h => by cases h⟩
theorem good_len {b : Beliefs} {acc : List Int} (h : Good b acc) : acc.length ≤ b.Reasons.length := by
  have key : ∀ acc : List Int, Good b acc → acc.length ≤ cnt b.Reasons.length (fun i => acc.contains (i : Int)) := by
    intro acc
    induction acc with
    | nil => intro _; exact Nat.zero_le _
    | cons y acc ih =>
      intro h
      have h1 := (List.nodup_cons.1 h.1)
      have h2 := ih ⟨h1.2, fun z hz => h.2 z (by simp [hz])⟩
      have h3 := h.2 y (by simp)
      have e : ((y.toNat : Nat) : Int) = y := by omega
      have := cnt_lt (n := b.Reasons.length) (y := y.toNat) (f := fun i => acc.contains (i : Int)) (g := fun i => (y :: acc).contains (i : Int)) (fun z _ hz => by
        rw [List.contains_iff_mem] at hz ⊢
        exact List.mem_cons_of_mem _ hz) (by omega) (by
        simp only [e]
        rw [Bool.eq_false_iff]
        intro hc
        exact h1.1 (List.contains_iff_mem.1 hc)) (by
        simp only [e]
        rw [List.contains_iff_mem]
        exact List.mem_cons_self)
      simp only [List.length_cons]
      omega
  exact Nat.le_trans (key acc h) (cnt_le _ _)
theorem good_fnd {b : Beliefs} {rl : List Int} {sp : Int → Int} (hsp : SpOk b rl sp) : ∀ (f : Nat) (x : Int) (acc : List Int), Good b acc → Good b (fndG b sp f x acc)
  | 0, _, _, h => h
  | f + 1, x, acc, h => by
    unfold fndG
    by_cases hc : sp x < 0 ∨ acc.contains (sp x) = true
    · rw [if_pos hc]; exact h
    · rw [if_neg hc]
      rcases hsp x with e | ⟨k, r, e, hr, hf, _⟩
      · exact absurd (.inl (by omega)) hc
      · rw [inOf_at e hr]
        have fold : ∀ (l : List Int) (a : List Int), (∀ z ∈ l, z ∈ r.In) → Good b a → (∀ y ∈ a, y ∈ acc ∨ ∃ m, El b rl m y ∧ m < atZ rl x.toNat) → Good b (l.foldl (fun a z => fndG b sp f z a) a) ∧ ∀ y ∈ l.foldl (fun a z => fndG b sp f z a) a, y ∈ acc ∨ ∃ m, El b rl m y ∧ m < atZ rl x.toNat := by
          intro l
          induction l with
          | nil => intro a _ h1 h2; exact ⟨h1, h2⟩
          | cons z l ih =>
            intro a hl h1 h2
            refine ih _ (fun q hq => hl q (by simp [hq])) (good_fnd hsp f z a h1) (fun y hy => ?_)
            rcases mem_fnd hsp f z a y hy with h | h
            · exact h2 y h
            · exact .inr ⟨_, h, (hasFor_in hf (hl z (by simp))).2⟩
        obtain ⟨g1, g2⟩ := fold r.In acc (fun _ h => h) h (fun y hy => .inl hy)
        refine ⟨?_, fun y hy => ?_⟩
        · rw [List.nodup_append]
          refine ⟨g1.1, by simp, fun a ha c hc2 => ?_⟩
          rw [List.mem_singleton] at hc2
          subst hc2
          intro eq
          subst eq
          rcases g2 _ ha with h | ⟨m, ⟨k', r', e1, e2, e3⟩, hm⟩
          · exact hc (.inr (List.contains_iff_mem.2 h))
          · have : k' = k := by omega
            subst this
            rw [hr] at e2
            simp only [Option.some.injEq] at e2
            subst e2
            rw [hasFor_for hf] at e3
            omega
        · rcases List.mem_append.1 hy with hy | hy
          · exact g1.2 y hy
          · rw [List.mem_singleton] at hy
            have := lt_of_some hr
            omega
theorem good_flT {b : Beliefs} {rl : List Int} {sp : Int → Int} (hsp : SpOk b rl sp) (m : Nat) (l : List Int) (k : Nat) {acc : List Int} (h : Good b acc) : Good b (flT b sp m l k acc) := by
  unfold flT
  generalize l.take k = l'
  induction l' generalizing acc with
  | nil => exact h
  | cons z l ih => exact ih (good_fnd hsp m z acc h)

theorem rnds_25 {b : Beliefs} (ho : okB b = true) (hs : HasSol b) (x : Nat) : atZ (vec b.Nodes.toNat (rnds b)) x < ((25 : Nat) : Int) := by
  have hbn := okB_nodes ho
  by_cases h : x < b.Nodes.toNat
  · rw [atZ_vec h]
    have := (rnds_facts ho hs).f1 x
    omega
  · unfold atZ
    rw [List.getElem?_eq_none (by rw [vec_len]; omega)]
    decide
theorem rnds_25' (b : Beliefs) (x : Nat) : atZ (roundsOf b) x < ((25 : Nat) : Int) := by
  cases h : isStrat b with
  | false => rw [← roundsOf_f h]; unfold atZ; simp
  | true => rw [roundsOf_t h]; exact rnds_25 (isB_ok2 (strat_b h)) (strat_has h) x
noncomputable def foundOf (b : Beliefs) (x : Int) : List Int := fndG b (suppOf b) 25 x []
theorem found_f {b : Beliefs} {x : Int} (h : isStrat b = false) : [] = foundOf b x := fnd_stop (.inl (by rw [← suppOf_f h]; decide))
theorem found_t {b : Beliefs} {x : Int} (h : isStrat b = true) : fndG b (suppL b (vec b.Nodes.toNat (rnds b))) 25 x [] = foundOf b x := by
  unfold foundOf
  have : suppOf b = suppL b (vec b.Nodes.toNat (rnds b)) := by
    funext y
    rw [← suppOf_t h, roundsOf_t h]
  rw [this]
theorem found_good (b : Beliefs) (x : Int) : Good b (foundOf b x) := good_fnd (spO_ok b) 25 x [] (Good.nil b)
theorem found_len {b : Beliefs} (x : Int) : (foundOf b x).length ≤ 60 := by
  cases h : isStrat b with
  | false => rw [← found_f h]; simp
  | true =>
    have := good_len (found_good b x)
    have := isB_len (strat_b h)
    omega
end Go.Sy
