/-
  Which node depends on which: by paths, by Warshall's table, by a search.
  Conditions: none.
-/
import Derived.Test.YtkdghbglefhcjaaBase
import Derived.Test.YtkdghbglefhcjaaVec
namespace Go.Sy

/-! ### valid beliefs -/
theorem asc_at {l : List Int} {n : Int} (h : asc l n = true) {j : Nat} {y : Int} (hj : l[j]? = some y) : 0 ≤ y ∧ y < n := by
  unfold asc at h
  rw [List.all_eq_true] at h
  have := h j (by have := lt_of_some hj; simpa using this)
  unfold ascAt at this
  rw [hj] at this
  simp only [Bool.and_eq_true, Bool.not_eq_true', decide_eq_false_iff_not] at this
  omega
theorem asc_lt {l : List Int} {n : Int} (h : asc l n = true) {j : Nat} {x y : Int} (hx : l[j]? = some x) (hy : l[j + 1]? = some y) : x < y := by
  unfold asc at h
  rw [List.all_eq_true] at h
  have := h (j + 1) (by have := lt_of_some hy; simpa using this)
  unfold ascAt at this
  rw [hy] at this
  simp only [Nat.add_sub_cancel, hx, Bool.and_eq_true, Bool.or_eq_true, Bool.not_eq_true', decide_eq_false_iff_not] at this
  rcases this.2 with h | h
  · simp at h
  · omega
theorem asc_ge {l : List Int} {n : Int} (h : asc l n = true) : ∀ (j : Nat) (y : Int), l[j]? = some y → (j : Int) ≤ y
  | 0, y, hy => by have := (asc_at h hy).1; omega
  | j + 1, y, hy => by
    obtain ⟨x, hx⟩ := some_of_lt (l := l) (i := j) (by have := lt_of_some hy; omega)
    have h1 := asc_ge h j x hx
    have h2 := asc_lt h hx hy
    omega
theorem asc_len {l : List Int} {n : Int} (h : asc l n = true) : (l.length : Int) ≤ max n 0 := by
  cases hl : l.length with
  | zero => omega
  | succ k =>
    obtain ⟨y, hy⟩ := some_of_lt (l := l) (i := k) (by omega)
    have h1 := asc_ge h k y hy
    have h2 := (asc_at h hy).2
    omega
theorem isB_r {b : Beliefs} (h : isBeliefs b = true) {k : Nat} {r : Reason} (hr : b.Reasons[k]? = some r) : isReason r b.Nodes = true := by
  simp only [isBeliefs, Bool.and_eq_true, List.all_eq_true] at h
  exact h.2 r (List.mem_of_getElem? hr)
theorem isR_for {r : Reason} {n : Int} (h : isReason r n = true) : 0 ≤ r.For ∧ r.For < n := by
  simp only [isReason, Bool.and_eq_true, decide_eq_true_eq] at h
  exact h.1.1
theorem isR_in {r : Reason} {n : Int} (h : isReason r n = true) : asc r.In n = true := by
  simp only [isReason, Bool.and_eq_true, decide_eq_true_eq] at h
  exact h.1.2
theorem isR_out {r : Reason} {n : Int} (h : isReason r n = true) : asc r.Out n = true := by
  simp only [isReason, Bool.and_eq_true, decide_eq_true_eq] at h
  exact h.2
theorem isB_len {b : Beliefs} (h : isBeliefs b = true) : b.Reasons.length ≤ 60 := by
  simp only [isBeliefs, Bool.and_eq_true, decide_eq_true_eq] at h
  exact h.1.2

/-! ### edges and paths -/
def rE (r : Reason) (x y : Nat) : Bool := r.For == (x : Int) && (r.In.contains (y : Int) || r.Out.contains (y : Int))
def eT (rs : List Reason) (k : Nat) (x y : Nat) : Bool := (rs.take k).any (fun r => rE r x y)
def edge (b : Beliefs) (x y : Nat) : Bool := b.Reasons.any (fun r => rE r x y)

theorem eT_zero (rs : List Reason) (x y : Nat) : eT rs 0 x y = false := rfl
theorem eT_all {b : Beliefs} {k : Nat} (h : b.Reasons.length ≤ k) (x y : Nat) : eT b.Reasons k x y = edge b x y := by
  unfold eT edge
  rw [List.take_of_length_le h]
theorem eT_step {rs : List Reason} {k : Nat} {r : Reason} (hr : rs[k]? = some r) (x y : Nat) :
    eT rs (k + 1) x y = ((eT rs k x y || (r.For == (x : Int) && r.In.contains (y : Int))) || (r.For == (x : Int) && r.Out.contains (y : Int))) := by
  unfold eT
  rw [take_snoc hr, List.any_append]
  simp only [List.any_cons, List.any_nil, Bool.or_false, rE, Bool.or_assoc, Bool.and_or_distrib_left]

theorem eL_step {f base : Nat → Nat → Bool} {z y0 : Int} {l : List Int} {m : Nat} (hf : ∀ x y, f x y = (base x y || (z == (x : Int) && (l.take m).contains (y : Int)))) (h0 : 0 ≤ z) (hy : l[m]? = some y0) (h1 : 0 ≤ y0) :
    ∀ x y, upd2 f z.toNat y0.toNat true x y = (base x y || (z == (x : Int) && (l.take (m + 1)).contains (y : Int))) := by
  intro x y
  have e1 : (l.take (m + 1)).contains (y : Int) = ((l.take m).contains (y : Int) || (y0 == (y : Int))) := by
    rw [take_snoc hy, Bool.eq_iff_iff]
    simp only [List.contains_iff_mem, List.mem_append, List.mem_singleton, Bool.or_eq_true, beq_iff_eq]
    exact ⟨fun h => h.imp id Eq.symm, fun h => h.imp id Eq.symm⟩
  rw [e1]
  unfold upd2 upd
  by_cases hx : x = z.toNat
  · rw [if_pos hx]
    have hz : z = (x : Int) := by omega
    by_cases hyy : y = y0.toNat
    · rw [if_pos hyy]
      have : y0 = (y : Int) := by omega
      simp [hz, this]
    · rw [if_neg hyy, ← hx, hf]
      have : (y0 == (y : Int)) = false := by rw [beq_eq_false_iff_ne]; omega
      simp [hz, this]
  · rw [if_neg hx, hf]
    have : (z == (x : Int)) = false := by rw [beq_eq_false_iff_ne]; omega
    simp [this]
theorem eL_zero {base : Nat → Nat → Bool} {z : Int} {l : List Int} (x y : Nat) : base x y = (base x y || (z == (x : Int) && (l.take 0).contains (y : Int))) := by simp
theorem eL_done {f base : Nat → Nat → Bool} {z : Int} {l : List Int} {m : Nat} (hm : l.length ≤ m) (hf : ∀ x y, f x y = (base x y || (z == (x : Int) && (l.take m).contains (y : Int)))) : ∀ x y, f x y = (base x y || (z == (x : Int) && l.contains (y : Int))) := by
  rw [List.take_of_length_le hm] at hf
  exact hf

theorem edge_lt {b : Beliefs} (h : isBeliefs b = true) {n : Nat} (hn : b.Nodes = n) {x y : Nat} (he : edge b x y = true) : x < n ∧ y < n := by
  unfold edge at he
  rw [List.any_eq_true] at he
  obtain ⟨r, hr, he⟩ := he
  obtain ⟨k, hk⟩ := List.getElem?_of_mem hr
  have hv := isB_r h hk
  simp only [rE, Bool.and_eq_true, Bool.or_eq_true, beq_iff_eq, List.contains_iff_mem] at he
  have h1 := isR_for hv
  refine ⟨by omega, ?_⟩
  rcases he.2 with hm | hm
  · obtain ⟨j, hj⟩ := List.getElem?_of_mem hm
    have := asc_at (isR_in hv) hj
    omega
  · obtain ⟨j, hj⟩ := List.getElem?_of_mem hm
    have := asc_at (isR_out hv) hj
    omega

def Dep (b : Beliefs) (x y : Nat) : Prop := Relation.TransGen (fun x y => edge b x y = true) x y
open Classical in
noncomputable def dep (b : Beliefs) (x y : Nat) : Bool := decide (Dep b x y)
theorem dep_iff {b : Beliefs} {x y : Nat} : dep b x y = true ↔ Dep b x y := by unfold dep; simp

/-! ### Warshall's table -/
def wst (f : Nat → Nat → Bool) (k x y : Nat) : Bool := f x y || (f x k && f k y)
def wars (f : Nat → Nat → Bool) : Nat → Nat → Nat → Bool
  | 0 => f
  | k + 1 => wst (wars f k) k

inductive Pk (E : Nat → Nat → Prop) (k : Nat) : Nat → Nat → Prop
  | one {x y : Nat} : E x y → Pk E k x y
  | cons {x z y : Nat} : E x z → z < k → Pk E k z y → Pk E k x y

theorem Pk.mono {E : Nat → Nat → Prop} {k k' x y : Nat} (h : Pk E k x y) (hk : k ≤ k') : Pk E k' x y := by
  induction h with
  | one e => exact .one e
  | cons e hz _ ih => exact .cons e (by omega) ih
theorem Pk.join {E : Nat → Nat → Prop} {k x z y : Nat} (h : Pk E k x z) (hz : z < k) (h2 : Pk E k z y) : Pk E k x y := by
  induction h with
  | one e => exact .cons e hz h2
  | cons e hz' _ ih => exact .cons e hz' (ih hz h2)
theorem Pk.split {E : Nat → Nat → Prop} {k x y : Nat} (h : Pk E (k + 1) x y) : Pk E k x y ∨ (Pk E k x k ∧ Pk E k k y) := by
  induction h with
  | one e => exact .inl (.one e)
  | @cons x z y e hz _ ih =>
    by_cases hk : z = k
    · subst hk
      right
      refine ⟨.one e, ?_⟩
      rcases ih with h | h
      · exact h
      · exact h.2
    · have hz' : z < k := by omega
      rcases ih with h | h
      · exact .inl (.cons e hz' h)
      · exact .inr ⟨.cons e hz' h.1, h.2⟩
theorem wars_iff (f : Nat → Nat → Bool) : ∀ (k x y : Nat), wars f k x y = true ↔ Pk (fun x y => f x y = true) k x y
  | 0, x, y => ⟨fun h => .one h, fun h => by
      cases h with
      | one e => exact e
      | cons _ hz _ => omega⟩
  | k + 1, x, y => by
    have h1 := wars_iff f k x y
    have h2 := wars_iff f k x k
    have h3 := wars_iff f k k y
    show wst (wars f k) k x y = true ↔ _
    unfold wst
    rw [Bool.or_eq_true, Bool.and_eq_true, h1, h2, h3]
    refine ⟨fun h => ?_, Pk.split⟩
    rcases h with h | ⟨ha, hb⟩
    · exact h.mono (by omega)
    · exact (ha.mono (by omega)).join (by omega) (hb.mono (by omega))
theorem Pk_dep {b : Beliefs} (h : isBeliefs b = true) {n : Nat} (hn : b.Nodes = n) {x y : Nat} : Pk (fun x y => edge b x y = true) n x y ↔ Dep b x y := by
  constructor
  · intro h
    induction h with
    | one e => exact .single e
    | cons e _ _ ih => exact Relation.TransGen.trans (.single e) ih
  · intro hd
    induction hd with
    | single e => exact .one e
    | tail hz e ih => exact ih.join (edge_lt h hn e).1 (.one e)
theorem wars_dep {b : Beliefs} (h : isBeliefs b = true) {n : Nat} (hn : b.Nodes = n) (x y : Nat) : wars (edge b) n x y = dep b x y := by
  rw [Bool.eq_iff_iff, wars_iff, Pk_dep h hn, dep_iff]

theorem ws_step {f g : Nat → Nat → Bool} {n k i j : Nat} {v : Bool} (hi : i < n) (hj : j < n) (hk : k < n) (hf : ∀ x y, x < n → y < n → f x y = if x < i ∨ (x = i ∧ y < j) then wst g k x y else g x y) (hv : v = (f i j || (f i k && f k j))) :
    ∀ x y, x < n → y < n → upd2 f i j v x y = if x < i ∨ (x = i ∧ y < j + 1) then wst g k x y else g x y := by
  intro x y hx hy
  unfold upd2 upd
  by_cases e1 : x = i
  · rw [if_pos e1]
    by_cases e2 : y = j
    · rw [if_pos e2, if_pos (by omega)]
      rw [hv, hf i j hi hj, hf i k hi hk, hf k j hk hj, if_neg (by omega)]
      subst e1; subst e2
      unfold wst
      have a : (if x < x ∨ (x = x ∧ k < y) then g x k || (g x k && g k k) else g x k) = g x k := by
        split
        · cases g x k <;> simp
        · rfl
      have c : (if k < x ∨ (k = x ∧ y < y) then g k y || (g k k && g k y) else g k y) = g k y := by
        split
        · cases g k y <;> simp
        · rfl
      rw [a, c]
    · rw [if_neg e2, ← e1, hf x y hx hy]
      subst e1
      by_cases h : y < j
      · rw [if_pos (by omega), if_pos (by omega)]
      · rw [if_neg (by omega), if_neg (by omega)]
  · rw [if_neg e1, hf x y hx hy]
    by_cases h : x < i
    · rw [if_pos (by omega), if_pos (by omega)]
    · rw [if_neg (by omega), if_neg (by omega)]
theorem ws_v1 {a b c : Bool} (h : a = true) : true = (a || (b && c)) := by rw [h]; rfl
theorem ws_v2 {a b c : Bool} (h : a = false) (h2 : b = true) : c = (a || (b && c)) := by rw [h, h2]; rfl
theorem ws_v3 {a b c : Bool} (h : a = false) (h2 : b = false) : false = (a || (b && c)) := by rw [h, h2]; rfl
theorem ws_row {f g : Nat → Nat → Bool} {n k i j : Nat} (hj : n ≤ j) (hf : ∀ x y, x < n → y < n → f x y = if x < i ∨ (x = i ∧ y < j) then wst g k x y else g x y) :
    ∀ x y, x < n → y < n → f x y = if x < i + 1 then wst g k x y else g x y := by
  intro x y hx hy
  rw [hf x y hx hy]
  by_cases h : x < i + 1
  · rw [if_pos (by omega), if_pos h]
  · rw [if_neg (by omega), if_neg h]
theorem ws_row0 {f g : Nat → Nat → Bool} {n k i : Nat} (hf : ∀ x y, x < n → y < n → f x y = if x < i then wst g k x y else g x y) :
    ∀ x y, x < n → y < n → f x y = if x < i ∨ (x = i ∧ y < 0) then wst g k x y else g x y := by
  intro x y hx hy
  rw [hf x y hx hy]
  by_cases h : x < i
  · rw [if_pos (by omega), if_pos (by omega)]
  · rw [if_neg (by omega), if_neg (by omega)]
theorem ws_all {f h : Nat → Nat → Bool} {n k i : Nat} (hi : n ≤ i) (hf : ∀ x y, x < n → y < n → f x y = if x < i then wst (wars h k) k x y else wars h k x y) : ∀ x y, x < n → y < n → f x y = wars h (k + 1) x y := by
  intro x y hx hy
  rw [hf x y hx hy, if_pos (by omega)]
  rfl
theorem mat_congr {α : Type} {n : Nat} {f g : Nat → Nat → α} (h : ∀ x y, x < n → y < n → f x y = g x y) : mat n f = mat n g :=
  vec_congr fun x hx => vec_congr fun y hy => h x y hx hy
/-- rows that are made one after another -/
def rowsT (n k : Nat) : List (List Bool) := vec n (fun j => if j < k then vec n (fun _ => false) else [])
theorem rowsT_zero (n : Nat) : List.replicate n [] = rowsT n 0 := by
  rw [vec_rep]
  exact vec_congr fun j _ => by simp
theorem rowsT_set {n k : Nat} : (rowsT n k).set k (List.replicate n false) = rowsT n (k + 1) := by
  unfold rowsT
  rw [vec_set, vec_rep]
  refine vec_congr fun j _ => ?_
  unfold upd
  show (if j = k then vec n (fun _ => false) else if j < k then vec n (fun _ => false) else []) = _
  by_cases h : j = k
  · rw [if_pos h, if_pos (by omega)]
  · rw [if_neg h]
    by_cases h2 : j < k
    · rw [if_pos h2, if_pos (by omega)]
    · rw [if_neg h2, if_neg (by omega)]
theorem rowsT_len (n k : Nat) : (rowsT n k).length = n := vec_len _ _
theorem rowsT_done {n k : Nat} (h : n ≤ k) : rowsT n k = mat n (fun _ _ => false) := vec_congr fun j hj => by rw [if_pos (by omega)]

/-! ### the search -/
def cnt (n : Nat) (g : Nat → Bool) : Nat := (List.range n).countP g
theorem cnt_le (n : Nat) (g : Nat → Bool) : cnt n g ≤ n := by
  have := List.countP_le_length (p := g) (l := List.range n)
  simpa [cnt] using this
theorem cnt_zero (n : Nat) : cnt n (fun _ => false) = 0 := by simp [cnt]
theorem cnt_upd {n y : Nat} {g : Nat → Bool} (hy : y < n) (h : g y = false) : cnt n (upd g y true) = cnt n g + 1 := by
  induction n with
  | zero => omega
  | succ n ih =>
    unfold cnt at *
    rw [List.range_succ, List.countP_append, List.countP_append]
    by_cases e : y = n
    · subst e
      have : (List.range y).countP (upd g y true) = (List.range y).countP g := by
        apply List.countP_congr
        intro a ha
        have : a ≠ y := by have := List.mem_range.1 ha; omega
        rw [upd_ne this]
      rw [this]
      simp [upd, h]
    · rw [ih (by omega)]
      have : upd g y true n = g n := upd_ne (fun e2 => e e2.symm)
      simp only [List.countP_cons, List.countP_nil, this]
      omega

structure Bfs (b : Beliefs) (n : Nat) (x : Nat) (td : List Int) (g : Nat → Bool) : Prop where
  hd : td[0]? = some (x : Int)
  rng : ∀ t ∈ td, 0 ≤ t ∧ t < n
  snd : ∀ y, g y = true → Dep b x y
  tod : ∀ t ∈ td, t = (x : Int) ∨ Dep b x t.toNat
  mem : ∀ y, y < n → g y = true → (y : Int) ∈ td
  len : td.length = 1 + cnt n g
def BfsD (b : Beliefs) (td : List Int) (g : Nat → Bool) (i : Nat) : Prop := ∀ p, p < i → ∀ t, td[p]? = some t → ∀ y : Nat, edge b t.toNat y = true → g y = true
def BfsR (b : Beliefs) (t : Int) (g : Nat → Bool) (k : Nat) : Prop := ∀ y : Nat, eT b.Reasons k t.toNat y = true → g y = true
def BfsL (l : List Int) (g : Nat → Bool) (j : Nat) : Prop := ∀ (p : Nat) y, p < j → l[p]? = some y → g y.toNat = true

theorem Bfs.init {b : Beliefs} {n x : Nat} (hx : x < n) : Bfs b n x [(x : Int)] (fun _ => false) where
  hd := rfl
  rng := fun t ht => by simp only [List.mem_singleton] at ht; omega
  snd := fun y h => by cases h
  tod := fun t ht => by simp only [List.mem_singleton] at ht; exact .inl ht
  mem := fun y _ h => by cases h
  len := by rw [cnt_zero]; rfl
theorem upd_true {g : Nat → Bool} {a y : Nat} (h : g y = true) : upd g a true y = true := by unfold upd; split <;> simp [h]
theorem Bfs.add {b : Beliefs} {n x : Nat} {td : List Int} {g : Nat → Bool} (h : Bfs b n x td g) {i : Nat} {t y : Int} (ht : td[i]? = some t) (h0 : 0 ≤ y ∧ y < n) (he : edge b t.toNat y.toNat = true) (hg : g y.toNat = false) : Bfs b n x (td ++ [y]) (upd g y.toNat true) := by
  have hdep : Dep b x y.toNat := by
    rcases h.tod t (List.mem_of_getElem? ht) with e | e
    · subst e
      exact .single (by simpa using he)
    · exact Relation.TransGen.tail e he
  refine ⟨?_, ?_, ?_, ?_, ?_, ?_⟩
  · rw [List.getElem?_append_left (lt_of_some h.hd)]; exact h.hd
  · intro q hq
    rcases List.mem_append.1 hq with hq | hq
    · exact h.rng q hq
    · simp only [List.mem_singleton] at hq; subst hq; exact h0
  · intro z hz
    unfold upd at hz
    split at hz
    · rename_i e; rw [e]; exact hdep
    · exact h.snd z hz
  · intro q hq
    rcases List.mem_append.1 hq with hq | hq
    · exact h.tod q hq
    · simp only [List.mem_singleton] at hq; subst hq; exact .inr hdep
  · intro z hz hgz
    unfold upd at hgz
    split at hgz
    · rename_i e
      have : (z : Int) = y := by omega
      rw [this]; simp
    · exact List.mem_append_left _ (h.mem z hz hgz)
  · rw [List.length_append, h.len, cnt_upd (by omega) hg]; rfl
theorem Bfs.len_le {b : Beliefs} {n x : Nat} {td : List Int} {g : Nat → Bool} (h : Bfs b n x td g) : td.length ≤ n + 1 := by
  have := cnt_le n g
  rw [h.len]; omega
theorem BfsD.add {b : Beliefs} {td : List Int} {g : Nat → Bool} {i a : Nat} {z : Int} (h : BfsD b td g i) (hi : i ≤ td.length) : BfsD b (td ++ [z]) (upd g a true) i := by
  intro p hp t ht y hy
  rw [List.getElem?_append_left (by omega)] at ht
  exact upd_true (h p hp t ht y hy)
theorem BfsR.add {b : Beliefs} {t : Int} {g : Nat → Bool} {k a : Nat} (h : BfsR b t g k) : BfsR b t (upd g a true) k := fun y hy => upd_true (h y hy)
theorem BfsL.add {l : List Int} {g : Nat → Bool} {j : Nat} {y : Int} (h : BfsL l g j) (hy : l[j]? = some y) : BfsL l (upd g y.toNat true) (j + 1) := by
  intro p z hp hz
  by_cases e : p = j
  · subst e
    rw [hy] at hz
    simp only [Option.some.injEq] at hz
    subst hz
    exact upd_self _ _ _
  · exact upd_true (h p z (by omega) hz)
theorem BfsL.had {l : List Int} {g : Nat → Bool} {j : Nat} {y : Int} (h : BfsL l g j) (hy : l[j]? = some y) (hg : g y.toNat = true) : BfsL l g (j + 1) := by
  intro p z hp hz
  by_cases e : p = j
  · subst e
    rw [hy] at hz
    simp only [Option.some.injEq] at hz
    subst hz
    exact hg
  · exact h p z (by omega) hz
theorem BfsR.done {b : Beliefs} {t : Int} {g : Nat → Bool} {k j : Nat} {r : Reason} (h : BfsR b t g k) (hr : b.Reasons[k]? = some r) (hl : BfsL (r.In ++ r.Out) g j) (hj : (r.In ++ r.Out).length ≤ j) : BfsR b t g (k + 1) := by
  intro y hy
  rw [eT_step hr] at hy
  simp only [Bool.or_eq_true, Bool.and_eq_true, List.contains_iff_mem] at hy
  have key : (y : Int) ∈ r.In ++ r.Out → g y = true := fun hm => by
    obtain ⟨p, hp⟩ := List.getElem?_of_mem hm
    have := hl p _ (by have := lt_of_some hp; omega) hp
    simpa using this
  rcases hy with (hy | hy) | hy
  · exact h y hy
  · exact key (List.mem_append_left _ hy.2)
  · exact key (List.mem_append_right _ hy.2)
theorem BfsR.skip {b : Beliefs} {t : Int} {g : Nat → Bool} {k : Nat} {r : Reason} (h : BfsR b t g k) (hr : b.Reasons[k]? = some r) (ht : 0 ≤ t) (hne : r.For ≠ t) : BfsR b t g (k + 1) := by
  intro y hy
  rw [eT_step hr] at hy
  have : (r.For == ((t.toNat : Nat) : Int)) = false := by rw [beq_eq_false_iff_ne]; omega
  simp only [this, Bool.false_and, Bool.or_false] at hy
  exact h y hy
theorem BfsD.next {b : Beliefs} {td : List Int} {g : Nat → Bool} {i k : Nat} {t : Int} (h : BfsD b td g i) (ht : td[i]? = some t) (hr : BfsR b t g k) (hk : b.Reasons.length ≤ k) : BfsD b td g (i + 1) := by
  intro p hp t' ht' y hy
  by_cases e : p = i
  · subst e
    rw [ht] at ht'
    simp only [Option.some.injEq] at ht'
    subst ht'
    exact hr y (by rw [eT_all hk]; exact hy)
  · exact h p (by omega) t' ht' y hy
theorem edge_of {b : Beliefs} {k j : Nat} {r : Reason} {t y : Int} (hr : b.Reasons[k]? = some r) (ht : r.For = t) (h0 : 0 ≤ t) (hy : (r.In ++ r.Out)[j]? = some y) (h1 : 0 ≤ y) : edge b t.toNat y.toNat = true := by
  unfold edge
  rw [List.any_eq_true]
  refine ⟨r, List.mem_of_getElem? hr, ?_⟩
  have hm := List.mem_append.1 (List.mem_of_getElem? hy)
  have e1 : ((t.toNat : Nat) : Int) = t := by omega
  have e2 : ((y.toNat : Nat) : Int) = y := by omega
  simp only [rE, e1, e2, ht, Bool.and_eq_true, Bool.or_eq_true, List.contains_iff_mem, beq_self_eq_true, true_and]
  exact hm
theorem nodes_of {b : Beliefs} {k j : Nat} {r : Reason} {y : Int} (hb : isBeliefs b = true) (hr : b.Reasons[k]? = some r) (hy : (r.In ++ r.Out)[j]? = some y) : 0 ≤ y ∧ y < b.Nodes := by
  have hv := isB_r hb hr
  rcases List.mem_append.1 (List.mem_of_getElem? hy) with hm | hm
  · obtain ⟨p, hp⟩ := List.getElem?_of_mem hm
    exact asc_at (isR_in hv) hp
  · obtain ⟨p, hp⟩ := List.getElem?_of_mem hm
    exact asc_at (isR_out hv) hp
theorem Bfs.done {b : Beliefs} {n x : Nat} {td : List Int} {g : Nat → Bool} {i : Nat} (hb : isBeliefs b = true) (hn : b.Nodes = n) (h : Bfs b n x td g) (hd : BfsD b td g i) (hi : td.length ≤ i) : vec n g = vec n (dep b x) := by
  refine vec_congr fun y hy => ?_
  rw [Bool.eq_iff_iff, dep_iff]
  refine ⟨h.snd y, fun hdep => ?_⟩
  have : ∀ y, Dep b x y → g y = true := fun y hdep => by
    unfold Dep at hdep
    induction hdep with
    | single e => exact hd 0 (by have := lt_of_some h.hd; omega) _ h.hd _ (by simpa using e)
    | @tail z y' hz e ih =>
      have hzn := (edge_lt hb hn e).1
      obtain ⟨p, hp⟩ := List.getElem?_of_mem (h.mem z hzn ih)
      exact hd p (by have := lt_of_some hp; omega) _ hp _ (by simpa using e)
  exact this y hdep

/-! ### what the functions answer -/
theorem inR_t {x a c : Int} (h : inR x a c = true) : a ≤ x ∧ x ≤ c := by
  simp only [inR, Bool.and_eq_true, decide_eq_true_eq] at h
  exact h
theorem inR_f {x a c : Int} (h : inR x a c = false) : ¬ (a ≤ x ∧ x ≤ c) := by
  intro h2
  rw [Bool.eq_false_iff] at h
  exact h (by simp [inR, h2.1, h2.2])
noncomputable def depOn (b : Beliefs) (x y : Int) : Bool := isBeliefs b && decide (0 ≤ x ∧ x < b.Nodes ∧ 0 ≤ y ∧ y < b.Nodes) && dep b x.toNat y.toNat
theorem depOn_nb {b : Beliefs} {x y : Int} (h : isBeliefs b = false) : false = depOn b x y := by simp [depOn, h]
theorem depOn_nr {b : Beliefs} {x y : Int} (h : ¬ (0 ≤ x ∧ x < b.Nodes ∧ 0 ≤ y ∧ y < b.Nodes)) : false = depOn b x y := by simp [depOn, decide_eq_false h]
theorem depOn_y {b : Beliefs} {x y : Int} (h : isBeliefs b = true) (h2 : 0 ≤ x ∧ x < b.Nodes ∧ 0 ≤ y ∧ y < b.Nodes) : dep b x.toNat y.toNat = depOn b x y := by simp [depOn, h, decide_eq_true h2]

noncomputable def stY (b : Beliefs) (r : Reason) (y : Int) : Bool := !(y == r.For || dep b y.toNat r.For.toNat)
noncomputable def stR (b : Beliefs) (r : Reason) : Bool := r.Out.all (stY b r)
noncomputable def isStrat (b : Beliefs) : Bool := isBeliefs b && b.Reasons.all (stR b)
theorem strat_nb {b : Beliefs} (h : isBeliefs b = false) : false = isStrat b := by simp [isStrat, h]
theorem strat_bad {b : Beliefs} {k m : Nat} {r : Reason} {y : Int} (hr : b.Reasons[k]? = some r) (hy : r.Out[m]? = some y) (h : stY b r y = false) : false = isStrat b := by
  unfold isStrat
  rw [all_bad (p := stR b) hr (all_bad (p := stY b r) hy h)]
  simp
theorem strat_ok {b : Beliefs} (h : isBeliefs b = true) (hi : ∀ i, i < b.Reasons.length → ∀ r, b.Reasons[i]? = some r → stR b r = true) : true = isStrat b := by
  unfold isStrat
  rw [h, all_of_idx hi]
  rfl
theorem stR_ok {b : Beliefs} {r : Reason} (hi : ∀ i, i < r.Out.length → ∀ y, r.Out[i]? = some y → stY b r y = true) : stR b r = true := all_of_idx hi
theorem stY_ok {b : Beliefs} {r : Reason} {y : Int} (h1 : (y == r.For) = false) (h2 : dep b y.toNat r.For.toNat = false) : stY b r y = true := by simp [stY, h1, h2]
theorem stY_eq {b : Beliefs} {r : Reason} {y : Int} (h1 : (y == r.For) = true) : stY b r y = false := by simp [stY, h1]
theorem stY_dep {b : Beliefs} {r : Reason} {y : Int} (h2 : dep b y.toNat r.For.toNat = true) : stY b r y = false := by simp [stY, h2]
theorem strat_b {b : Beliefs} (h : isStrat b = true) : isBeliefs b = true := by
  simp only [isStrat, Bool.and_eq_true] at h
  exact h.1
theorem strat_y {b : Beliefs} (h : isStrat b = true) {k m : Nat} {r : Reason} {y : Int} (hr : b.Reasons[k]? = some r) (hy : r.Out[m]? = some y) : stY b r y = true := by
  simp only [isStrat, Bool.and_eq_true, List.all_eq_true] at h
  have := h.2 r (List.mem_of_getElem? hr)
  simp only [stR, List.all_eq_true] at this
  exact this y (List.mem_of_getElem? hy)

/-- one premise by its number -/
def premAt (b : Beliefs) (k : Int) : Bool := match b.Reasons[k.toNat]? with | some r => isPremise r | none => false
noncomputable def isCase (b : Beliefs) (bad free : List Int) : Bool := isStrat b && asc bad b.Nodes && decide (free.length ≤ 8) && asc free b.Reasons.length && free.all (premAt b)
theorem case_n1 {b : Beliefs} {bad free : List Int} (h : isStrat b = false) : false = isCase b bad free := by simp [isCase, h]
theorem case_n2 {b : Beliefs} {bad free : List Int} (h : asc bad b.Nodes = false) : false = isCase b bad free := by simp [isCase, h]
theorem case_n3 {b : Beliefs} {bad free : List Int} (h : ¬ free.length ≤ 8) : false = isCase b bad free := by simp only [isCase, decide_eq_false h, Bool.and_false, Bool.false_and]
theorem case_n4 {b : Beliefs} {bad free : List Int} (h : asc free b.Reasons.length = false) : false = isCase b bad free := by simp [isCase, h]
theorem premAt_of {b : Beliefs} {k : Int} {r : Reason} (hr : b.Reasons[k.toNat]? = some r) : premAt b k = isPremise r := by simp [premAt, hr]
theorem case_n5 {b : Beliefs} {bad free : List Int} {j : Nat} {k : Int} {r : Reason} (hj : free[j]? = some k) (hr : b.Reasons[k.toNat]? = some r) (h : isPremise r = false) : false = isCase b bad free := by
  unfold isCase
  rw [all_bad (p := premAt b) hj (by rw [premAt_of hr]; exact h)]
  simp
theorem case_y {b : Beliefs} {bad free : List Int} (h1 : isStrat b = true) (h2 : asc bad b.Nodes = true) (h3 : free.length ≤ 8) (h4 : asc free b.Reasons.length = true) (h5 : ∀ i, i < free.length → ∀ k, free[i]? = some k → premAt b k = true) : true = isCase b bad free := by
  unfold isCase
  rw [h1, h2, h4, decide_eq_true h3, all_of_idx h5]
  rfl
theorem ascW_strat {b : Beliefs} (h : isStrat b = true) {l : List Int} : ascW l b.Nodes = asc l b.Nodes := by
  have := isBeliefs_nodes (strat_b h)
  exact ascW_eq (by omega)
theorem ascW_slen {b : Beliefs} (h : isStrat b = true) {l : List Int} : ascW l (b.Reasons.length : Int) = asc l (b.Reasons.length : Int) := by
  have := isB_len (strat_b h)
  exact ascW_eq (by omega)
theorem case_w2 {b : Beliefs} {bad free : List Int} (h : isStrat b = true) (h2 : ascW bad b.Nodes = false) : false = isCase b bad free := case_n2 (by rw [← ascW_strat h]; exact h2)
theorem case_w4 {b : Beliefs} {bad free : List Int} (h : isStrat b = true) (h2 : ascW free b.Reasons.length = false) : false = isCase b bad free := case_n4 (by rw [← ascW_slen h]; exact h2)
theorem case_wy {b : Beliefs} {bad free : List Int} (h1 : isStrat b = true) (h2 : ascW bad b.Nodes = true) (h3 : free.length ≤ 8) (h4 : ascW free b.Reasons.length = true) (h5 : ∀ i, i < free.length → ∀ k, free[i]? = some k → premAt b k = true) : true = isCase b bad free :=
  case_y h1 (by rw [← ascW_strat h1]; exact h2) h3 (by rw [← ascW_slen h1]; exact h4) h5
end Go.Sy
