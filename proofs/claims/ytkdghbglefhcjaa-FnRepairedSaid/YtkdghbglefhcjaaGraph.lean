/-
  Which node depends on which: by paths, by Warshall's table, by a search.
  Conditions: none.
-/
import Derived.Test.YtkdghbglefhcjaaBase
import Derived.Test.YtkdghbglefhcjaaOwn2
namespace Go.Sy

/-! ### valid beliefs -/
theorem asc_at {l : List Int} {n : Int} (h : asc l n = true) {j : Nat} {y : Int} (hj : l[j]? = some y) : 0 ≤ y ∧ y < n := by
  unfold asc at h
  rw [List.all_eq_true] at h
  have := h j (by have := lt_of_some hj; simpa using this)
  unfold ascAt at this
  rw [hj] at this
  simp only [Bool.and_eq_true, Bool.not_eq_true', decide_eq_false_iff_not] at this
  omega
theorem asc_lt {l : List Int} {n : Int} (h : asc l n = true) {j : Nat} {x y : Int} (hx : l[j]? = some x) (hy : l[j + 1]? = some y) : x < y := by
  unfold asc at h
  rw [List.all_eq_true] at h
  have := h (j + 1) (by have := lt_of_some hy; simpa using this)
  unfold ascAt at this
  rw [hy] at this
  simp only [Nat.add_sub_cancel, hx, Bool.and_eq_true, Bool.or_eq_true, Bool.not_eq_true', decide_eq_false_iff_not] at this
  rcases this.2 with h | h
  · simp at h
  · omega
theorem asc_ge {l : List Int} {n : Int} (h : asc l n = true) : ∀ (j : Nat) (y : Int), l[j]? = some y → (j : Int) ≤ y
  | 0, y, hy => by have := (asc_at h hy).1; omega
  | j + 1, y, hy => by
    obtain ⟨x, hx⟩ := some_of_lt (l := l) (i := j) (by have := lt_of_some hy; omega)
    have h1 := asc_ge h j x hx
    have h2 := asc_lt h hx hy
    omega
theorem asc_len {l : List Int} {n : Int} (h : asc l n = true) : (l.length : Int) ≤ max n 0 := by
  cases hl : l.length with
  | zero => omega
  | succ k =>
    obtain ⟨y, hy⟩ := some_of_lt (l := l) (i := k) (by omega)
    have h1 := asc_ge h k y hy
    have h2 := (asc_at h hy).2
    omega
theorem isB_r {b : Beliefs} (h : isBeliefs b = true) {k : Nat} {r : Reason} (hr : b.Reasons[k]? = some r) : isReason r b.Nodes = true := by
  simp only [isBeliefs, Bool.and_eq_true, List.all_eq_true] at h
  exact h.2 r (List.mem_of_getElem? hr)
theorem isR_for {r : Reason} {n : Int} (h : isReason r n = true) : 0 ≤ r.For ∧ r.For < n := by
  simp only [isReason, Bool.and_eq_true, decide_eq_true_eq] at h
  exact h.1.1
theorem isR_in {r : Reason} {n : Int} (h : isReason r n = true) : asc r.In n = true := by
  simp only [isReason, Bool.and_eq_true, decide_eq_true_eq] at h
  exact h.1.2
theorem isR_out {r : Reason} {n : Int} (h : isReason r n = true) : asc r.Out n = true := by
  simp only [isReason, Bool.and_eq_true, decide_eq_true_eq] at h
  exact h.2
theorem isB_len {b : Beliefs} (h : isBeliefs b = true) : b.Reasons.length ≤ 60 := by
  simp only [isBeliefs, Bool.and_eq_true, decide_eq_true_eq] at h
  exact h.1.2

/-! ### edges and paths -/
def rE (r : Reason) (x y : Nat) : Bool := r.For == (x : Int) && (r.In.contains (y : Int) || r.Out.contains (y : Int))
def eT (rs : List Reason) (k : Nat) (x y : Nat) : Bool := (rs.take k).any (fun r => rE r x y)
def edge (b : Beliefs) (x y : Nat) : Bool := b.Reasons.any (fun r => rE r x y)

theorem eT_zero (rs : List Reason) (x y : Nat) : eT rs 0 x y = false := rfl
theorem eT_all {b : Beliefs} {k : Nat} (h : b.Reasons.length ≤ k) (x y : Nat) : eT b.Reasons k x y = edge b x y := by
  unfold eT edge
  rw [List.take_of_length_le h]
theorem eT_step {rs : List Reason} {k : Nat} {r : Reason} (hr : rs[k]? = some r) (x y : Nat) :
    eT rs (k + 1) x y = ((eT rs k x y || (r.For == (x : Int) && r.In.contains (y : Int))) || (r.For == (x : Int) && r.Out.contains (y : Int))) := by
  unfold eT
  rw [take_snoc hr, List.any_append]
  simp only [List.any_cons, List.any_nil, Bool.or_false, rE, Bool.or_assoc, Bool.and_or_distrib_left]

theorem eL_step {f base : Nat → Nat → Bool} {z y0 : Int} {l : List Int} {m : Nat} (hf : ∀ x y, f x y = (base x y || (z == (x : Int) && (l.take m).contains (y : Int)))) (h0 : 0 ≤ z) (hy : l[m]? = some y0) (h1 : 0 ≤ y0) :
    ∀ x y, upd2 f z.toNat y0.toNat true x y = (base x y || (z == (x : Int) && (l.take (m + 1)).contains (y : Int))) := by
  intro x y
  have e1 : (l.take (m + 1)).contains (y : Int) = ((l.take m).contains (y : Int) || (y0 == (y : Int))) := by
    rw [take_snoc hy, Bool.eq_iff_iff]
    simp only [List.contains_iff_mem, List.mem_append, List.mem_singleton, Bool.or_eq_true, beq_iff_eq]
    exact ⟨fun h => h.imp id Eq.symm, fun h => h.imp id Eq.symm⟩
  rw [e1]
  unfold upd2 upd
  by_cases hx : x = z.toNat
  · rw [if_pos hx]
    have hz : z = (x : Int) := by omega
    by_cases hyy : y = y0.toNat
    · rw [if_pos hyy]
      have : y0 = (y : Int) := by omega
      simp [hz, this]
    · rw [if_neg hyy, ← hx, hf]
      have : (y0 == (y : Int)) = false := by rw [beq_eq_false_iff_ne]; omega
      simp [hz, this]
  · rw [if_neg hx, hf]
    have : (z == (x : Int)) = false := by rw [beq_eq_false_iff_ne]; omega
    simp [this]
theorem eL_zero {base : Nat → Nat → Bool} {z : Int} {l : List Int} (x y : Nat) : base x y = (base x y || (z == (x : Int) && (l.take 0).contains (y : Int))) := by simp
theorem eL_done {f base : Nat → Nat → Bool} {z : Int} {l : List Int} {m : Nat} (hm : l.length ≤ m) (hf : ∀ x y, f x y = (base x y || (z == (x : Int) && (l.take m).contains (y : Int)))) : ∀ x y, f x y = (base x y || (z == (x : Int) && l.contains (y : Int))) := by
  rw [List.take_of_length_le hm] at hf
  exact hf

theorem edge_lt {b : Beliefs} (h : isBeliefs b = true) {n : Nat} (hn : b.Nodes = n) {x y : Nat} (he : edge b x y = true) : x < n ∧ y < n := by
  unfold edge at he
  rw [List.any_eq_true] at he
  obtain ⟨r, hr, he⟩ := he
  obtain ⟨k, hk⟩ := List.getElem?_of_mem hr
  have hv := isB_r h hk
  simp only [rE, Bool.and_eq_true, Bool.or_eq_true, beq_iff_eq, List.contains_iff_mem] at he
  have h1 := isR_for hv
  refine ⟨by omega, ?_⟩
  rcases he.2 with hm | hm
  · obtain ⟨j, hj⟩ := List.getElem?_of_mem hm
    have := asc_at (isR_in hv) hj
    omega
  · obtain ⟨j, hj⟩ := List.getElem?_of_mem hm
    have := asc_at (isR_out hv) hj
    omega

def Dep (b : Beliefs) (x y : Nat) : Prop := Relation.TransGen (fun x y => edge b x y = true) x y
open Classical in
noncomputable def dep (b : Beliefs) (x y : Nat) : Bool := decide (Dep b x y)
theorem dep_iff {b : Beliefs} {x y : Nat} : dep b x y = true ↔ Dep b x y := by unfold dep; simp

/-! ### Warshall's table -/
def wst (f : Nat → Nat → Bool) (k x y : Nat) : Bool := f x y || (f x k && f k y)
def wars (f : Nat → Nat → Bool) : Nat → Nat → Nat → Bool
  | 0 => f
  | k + 1 => wst (wars f k) k

inductive Pk (E : Nat → Nat → Prop) (k : Nat) : Nat → Nat → Prop
  | one {x y : Nat} : E x y → Pk E k x y
  | cons {x z y : Nat} : E x z → z < k → Pk E k z y → Pk E k x y

theorem Pk.mono {E : Nat → Nat → Prop} {k k' x y : Nat} (h : Pk E k x y) (hk : k ≤ k') : Pk E k' x y := by
  induction h with
  | one e => exact .one e
  | cons e hz _ ih => exact .cons e (by omega) ih
theorem Pk.join {E : Nat → Nat → Prop} {k x z y : Nat} (h : Pk E k x z) (hz : z < k) (h2 : Pk E k z y) : Pk E k x y := by
  induction h with
  | one e => exact .cons e hz h2
  | cons e hz' _ ih => exact .cons e hz' (ih hz h2)
theorem Pk.split {E : Nat → Nat → Prop} {k x y : Nat} (h : Pk E (k + 1) x y) : Pk E k x y ∨ (Pk E k x k ∧ Pk E k k y) := by
  induction h with
  | one e => exact .inl (.one e)
  | @cons x z y e hz _ ih =>
    by_cases hk : z = k
    · subst hk
      right
      refine ⟨.one e, ?_⟩
      rcases ih with h | h
      · exact h
      · exact h.2
    · have hz' : z < k := by omega
      rcases ih with h | h
      · exact .inl (.cons e hz' h)
      · exact .inr ⟨.cons e hz' h.1, h.2⟩
theorem wars_iff (f : Nat → Nat → Bool) : ∀ (k x y : Nat), wars f k x y = true ↔ Pk (fun x y => f x y = true) k x y
  | 0, x, y => ⟨fun h => .one h, fun h => by
      cases h with
      | one e => exact e
      | cons _ hz _ => omega⟩
  | k + 1, x, y => by
    have h1 := wars_iff f k x y
    have h2 := wars_iff f k x k
    have h3 := wars_iff f k k y
    show wst (wars f k) k x y = true ↔ _
    unfold wst
    rw [Bool.or_eq_true, Bool.and_eq_true, h1, h2, h3]
    refine ⟨fun h => ?_, Pk.split⟩
    rcases h with h | ⟨ha, hb⟩
    · exact h.mono (by omega)
    · exact (ha.mono (by omega)).join (by omega) (hb.mono (by omega))
theorem Pk_dep {b : Beliefs} (h : isBeliefs b = true) {n : Nat} (hn : b.Nodes = n) {x y : Nat} : Pk (fun x y => edge b x y = true) n x y ↔ Dep b x y := by
  constructor
  · intro h
    induction h with
    | one e => exact .single e
    | cons e _ _ ih => exact Relation.TransGen.trans (.single e) ih
  · intro hd
    induction hd with
    | single e => exact .one e
    | tail hz e ih => exact ih.join (edge_lt h hn e).1 (.one e)
theorem wars_dep {b : Beliefs} (h : isBeliefs b = true) {n : Nat} (hn : b.Nodes = n) (x y : Nat) : wars (edge b) n x y = dep b x y := by
  rw [Bool.eq_iff_iff, wars_iff, Pk_dep h hn, dep_iff]

theorem ws_step {f g : Nat → Nat → Bool} {n k i j : Nat} {v : Bool} (hi : i < n) (hj : j < n) (hk : k < n) (hf : ∀ x y, x < n → y < n → f x y = if x < i ∨ (x = i ∧ y < j) then wst g k x y else g x y) (hv : v = (f i j || (f i k && f k j))) :
    ∀ x y, x < n → y < n → upd2 f i j v x y = if x < i ∨ (x = i ∧ y < j + 1) then wst g k x y else g x y := by
  intro x y hx hy
  unfold upd2 upd
  by_cases e1 : x = i
  · rw [if_pos e1]
    by_cases e2 : y = j
    · rw [if_pos e2, if_pos (by omega)]
      rw [hv, hf i j hi hj, hf i k hi hk, hf k j hk hj, if_neg (by omega)]
      subst e1; subst e2
      unfold wst
      have a : (if x < x ∨ (x = x ∧ k < y) then g x k || (g x k && g k k) else g x k) = g x k := by
        split
        · cases g x k <;> simp
        · rfl
      have c : (if k < x ∨ (k = x ∧ y < y) then g k y || (g k k && g k y) else g k y) = g k y := by
        split
        · cases g k y <;> simp
        · rfl
      rw [a, c]
    · rw [if_neg e2, ← e1, hf x y hx hy]
      subst e1
      by_cases h : y < j
      · rw [if_pos (by omega), if_pos (by omega)]
      · rw [if_neg (by omega), if_neg (by omega)]
  · rw [if_neg e1, hf x y hx hy]
    by_cases h : x < i
    · rw [if_pos (by omega), if_pos (by omega)]
    · rw [if_neg (by omega), if_neg (by omega)]
theorem ws_v1 {a b c : Bool} (h : a = true) : true = (a || (b && c)) := by rw [h]; rfl
theorem ws_v2 {a b c : Bool} (h : a = false) (h2 : b = true) : c = (a || (b && c)) := by rw [h, h2]; rfl
theorem ws_v3 {a b c : Bool} (h : a = false) (h2 : b = false) : false = (a || (b && c)) := by rw [h, h2]; rfl
theorem ws_row {f g : Nat → Nat → Bool} {n k i j : Nat} (hj : n ≤ j) (hf : ∀ x y, x < n → y < n → f x y = if x < i ∨ (x = i ∧ y < j) then wst g k x y else g x y) :
    ∀ x y, x < n → y < n → f x y = if x < i + 1 then wst g k x y else g x y := by
  intro x y hx hy
  rw [hf x y hx hy]
  by_cases h : x < i + 1
  · rw [if_pos (by omega), if_pos h]
  · rw [if_neg (by omega), if_neg h]
theorem ws_row0 {f g : Nat → Nat → Bool} {n k i : Nat} (hf : ∀ x y, x < n → y < n → f x y = if x < i then wst g k x y else g x y) :
    ∀ x y, x < n → y < n → f x y = if x < i ∨ (x = i ∧ y < 0) then wst g k x y else g x y := by
  intro x y hx hy
  rw [hf x y hx hy]
  by_cases h : x < i
  · rw [if_pos (by omega), if_pos (by omega)]
  · rw [if_neg (by omega), if_neg (by omega)]
theorem ws_all {f h : Nat → Nat → Bool} {n k i : Nat} (hi : n ≤ i) (hf : ∀ x y, x < n → y < n → f x y = if x < i then wst (wars h k) k x y else wars h k x y) : ∀ x y, x < n → y < n → f x y = wars h (k + 1) x y := by
  intro x y hx hy
  rw [hf x y hx hy, if_pos (by omega)]
  rfl
theorem mat_congr {α : Type} {n : Nat} {f g : Nat → Nat → α} (h : ∀ x y, x < n → y < n → f x y = g x y) : mat n f = mat n g :=
  vec_congr fun x hx => vec_congr fun y hy => h x y hx hy
/-- rows that are made one after another -/
def rowsT (n k : Nat) : List (List Bool) := vec n (fun j => if j < k then vec n (fun _ => false) else [])
theorem rowsT_zero (n : Nat) : List.replicate n [] = rowsT n 0 := by
  rw [vec_rep]
  exact vec_congr fun j _ => by simp
theorem rowsT_set {n k : Nat} : (rowsT n k).set k (List.replicate n false) = rowsT n (k + 1) := by
  unfold rowsT
  rw [vec_set, vec_rep]
  refine vec_congr fun j _ => ?_
  unfold upd
  show (if j = k then vec n (fun _ => false) else if j < k then vec n (fun _ => false) else []) = _
  by_cases h : j = k
  · rw [if_pos h, if_pos (by omega)]
  · rw [if_neg h]
    by_cases h2 : j < k
    · rw [if_pos h2, if_pos (by omega)]
    · rw [if_neg h2, if_neg (by omega)]
theorem rowsT_len (n k : Nat) : (rowsT n k).length = n := vec_len _ _
theorem rowsT_done {n k : Nat} (h : n ≤ k) : rowsT n k = mat n (fun _ _ => false) := vec_congr fun j hj => by rw [if_pos (by omega)]

/-! ### the search -/
def cnt (n : Nat) (g : Nat → Bool) : Nat := (List.range n).countP g
theorem cnt_le (n : Nat) (g : Nat → Bool) : cnt n g ≤ n := by
  have := List.countP_le_length (p := g) (l := List.range n)
  simpa [cnt] using this
theorem cnt_zero (n : Nat) : cnt n (fun _ => false) = 0 := by simp [cnt]
theorem cnt_upd {n y : Nat} {g : Nat → Bool} (hy : y < n) (h : g y = false) : cnt n (upd g y true) = cnt n g + 1 := by
  induction n with
  | zero => omega
  | succ n ih =>
    unfold cnt at *
    rw [List.range_succ, List.countP_append, List.countP_append]
    by_cases e : y = n
    · subst e
      have : (List.range y).countP (upd g y true) = (List.range y).countP g := by
        apply List.countP_congr
        intro a ha
        have : a ≠ y := by have := List.mem_range.1 ha; omega
        rw [upd_ne this]
      rw [this]
      simp [upd, h]
    · rw [ih (by omega)]
      have : upd g y true n = g n := upd_ne (fun e2 => e e2.symm)
      simp only [List.countP_cons, List.countP_nil, this]
      omega

structure Bfs (b : Beliefs) (n : Nat) (x : Nat) (td : List Int) (g : Nat → Bool) : Prop where
  hd : td[0]? = some (x : Int)
  rng : ∀ t ∈ td, 0 ≤ t ∧ t < n
  snd : ∀ y, g y = true → Dep b x y
  tod : ∀ t ∈ td, t = (x : Int) ∨ Dep b x t.toNat
  mem : ∀ y, y < n → g y = true → (y : Int) ∈ td
  len : td.length = 1 + cnt n g
def BfsD (b : Beliefs) (td : List Int) (g : Nat → Bool) (i : Nat) : Prop := ∀ p, p < i → ∀ t, td[p]? = some t → ∀ y : Nat, edge b t.toNat y = true → g y = true
def BfsR (b : Beliefs) (t : Int) (g : Nat → Bool) (k : Nat) : Prop := ∀ y : Nat, eT b.Reasons k t.toNat y = true → g y = true
def BfsL (l : List Int) (g : Nat → Bool) (j : Nat) : Prop := ∀ (p : Nat) y, p < j → l[p]? = some y → g y.toNat = true

theorem Bfs.init {b : Beliefs} {n x : Nat} (hx : x < n) : Bfs b n x [(x : Int)] (fun _ => false) where
  hd := rfl
  rng := fun t ht => by simp only [List.mem_singleton] at ht; omega
  snd := fun y h => by cases h
  tod := fun t ht => by simp only [List.mem_singleton] at ht; exact .inl ht
  mem := fun y _ h => by cases h
  len := by rw [cnt_zero]; rfl
theorem upd_true {g : Nat → Bool} {a y : Nat} (h : g y = true) : upd g a true y = true := by unfold upd; split <;> simp [h]
theorem Bfs.add {b : Beliefs} {n x : Nat} {td : List Int} {g : Nat → Bool} (h : Bfs b n x td g) {i : Nat} {t y : Int} (ht : td[i]? = some t) (h0 : 0 ≤ y ∧ y < n) (he : edge b t.toNat y.toNat = true) (hg : g y.toNat = false) : Bfs b n x (td ++ [y]) (upd g y.toNat true) := by
  have hdep : Dep b x y.toNat := by
    rcases h.tod t (List.mem_of_getElem? ht) with e | e
    · subst e
      exact .single (by simpa using he)
    · exact Relation.TransGen.tail e he
  refine ⟨?_, ?_, ?_, ?_, ?_, ?_⟩
  · rw [List.getElem?_append_left (lt_of_some h.hd)]; exact h.hd
  · intro q hq
    rcases List.mem_append.1 hq with hq | hq
    · exact h.rng q hq
    · simp only [List.mem_singleton] at hq; subst hq; exact h0
  · intro z hz
    unfold upd at hz
    split at hz
    · rename_i e; rw [e]; exact hdep
    · exact h.snd z hz
  · intro q hq
    rcases List.mem_append.1 hq with hq | hq
    · exact h.tod q hq
    · simp only [List.mem_singleton] at hq; subst hq; exact .inr hdep
  · intro z hz hgz
    unfold upd at hgz
    split at hgz
    · rename_i e
      have : (z : Int) = y := by omega
      rw [this]; simp
    · exact List.mem_append_left _ (h.mem z hz hgz)
  · rw [List.length_append, h.len, cnt_upd (by omega) hg]; rfl
theorem Bfs.len_le {b : Beliefs} {n x : Nat} {td : List Int} {g : Nat → Bool} (h : Bfs b n x td g) : td.length ≤ n + 1 := by
  have := cnt_le n g
  rw [h.len]; omega
theorem BfsD.add {b : Beliefs} {td : List Int} {g : Nat → Bool} {i a : Nat} {z : Int} (h : BfsD b td g i) (hi : i ≤ td.length) : BfsD b (td ++ [z]) (upd g a true) i := by
  intro p hp t ht y hy
  rw [List.getElem?_append_left (by omega)] at ht
  exact upd_true (h p hp t ht y hy)
theorem BfsR.add {b : Beliefs} {t : Int} {g : Nat → Bool} {k a : Nat} (h : BfsR b t g k) : BfsR b t (upd g a true) k := fun y hy => upd_true (h y hy)
theorem BfsL.add {l : List Int} {g : Nat → Bool} {j : Nat} {y : Int} (h : BfsL l g j) (hy : l[j]? = some y) : BfsL l (upd g y.toNat true) (j + 1) := by
  intro p z hp hz
  by_cases e : p = j
  · subst e
    rw [hy] at hz
    simp only [Option.some.injEq] at hz
    subst hz
    exact upd_self _ _ _
  · exact upd_true (h p z (by omega) hz)
theorem BfsL.had {l : List Int} {g : Nat → Bool} {j : Nat} {y : Int} (h : BfsL l g j) (hy : l[j]? = some y) (hg : g y.toNat = true) : BfsL l g (j + 1) := by
  intro p z hp hz
  by_cases e : p = j
  · subst e
    rw [hy] at hz
    simp only [Option.some.injEq] at hz
    subst hz
    exact hg
  · exact h p z (by omega) hz
theorem BfsR.done {b : Beliefs} {t : Int} {g : Nat → Bool} {k j : Nat} {r : Reason} (h : BfsR b t g k) (hr : b.Reasons[k]? = some r) (hl : BfsL (r.In ++ r.Out) g j) (hj : (r.In ++ r.Out).length ≤ j) : BfsR b t g (k + 1) := by
  intro y hy
  rw [eT_step hr] at hy
  simp only [Bool.or_eq_true, Bool.and_eq_true, List.contains_iff_mem] at hy
  have key : (y : Int) ∈ r.In ++ r.Out → g y = true := fun hm => by
    obtain ⟨p, hp⟩ := List.getElem?_of_mem hm
    have := hl p _ (by have := lt_of_some hp; omega) hp
    simpa using this
  rcases hy with (hy | hy) | hy
  · exact h y hy
  · exact key (List.mem_append_left _ hy.2)
  · exact key (List.mem_append_right _ hy.2)
theorem BfsR.skip {b : Beliefs} {t : Int} {g : Nat → Bool} {k : Nat} {r : Reason} (h : BfsR b t g k) (hr : b.Reasons[k]? = some r) (ht : 0 ≤ t) (hne : r.For ≠ t) : BfsR b t g (k + 1) := by
  intro y hy
  rw [eT_step hr] at hy
  have : (r.For == ((t.toNat : Nat) : Int)) = false := by rw [beq_eq_false_iff_ne]; omega
  simp only [this, Bool.false_and, Bool.or_false] at hy
  exact h y hy
theorem BfsD.next {b : Beliefs} {td : List Int} {g : Nat → Bool} {i k : Nat} {t : Int} (h : BfsD b td g i) (ht : td[i]? = some t) (hr : BfsR b t g k) (hk : b.Reasons.length ≤ k) : BfsD b td g (i + 1) := by
  intro p hp t' ht' y hy
  by_cases e : p = i
  · subst e
    rw [ht] at ht'
    simp only [Option.some.injEq] at ht'
    subst ht'
    exact hr y (by rw [eT_all hk]; exact hy)
  · exact h p (by omega) t' ht' y hy
theorem edge_of {b : Beliefs} {k j : Nat} {r : Reason} {t y : Int} (hr : b.Reasons[k]? = some r) (ht : r.For = t) (h0 : 0 ≤ t) (hy : (r.In ++ r.Out)[j]? = some y) (h1 : 0 ≤ y) : edge b t.toNat y.toNat = true := by
  unfold edge
  rw [List.any_eq_true]
  refine ⟨r, List.mem_of_getElem? hr, ?_⟩
  have hm := List.mem_append.1 (List.mem_of_getElem? hy)
  have e1 : ((t.toNat : Nat) : Int) = t := by omega
  have e2 : ((y.toNat : Nat) : Int) = y := by omega
  simp only [rE, e1, e2, ht, Bool.and_eq_true, Bool.or_eq_true, List.contains_iff_mem, beq_self_eq_true, true_and]
  exact hm
theorem nodes_of {b : Beliefs} {k j : Nat} {r : Reason} {y : Int} (hb : isBeliefs b = true) (hr : b.Reasons[k]? = some r) (hy : (r.In ++ r.Out)[j]? = some y) : 0 ≤ y ∧ y < b.Nodes := by
  have hv := isB_r hb hr
  rcases List.mem_append.1 (List.mem_of_getElem? hy) with hm | hm
  · obtain ⟨p, hp⟩ := List.getElem?_of_mem hm
    exact asc_at (isR_in hv) hp
  · obtain ⟨p, hp⟩ := List.getElem?_of_mem hm
    exact asc_at (isR_out hv) hp
theorem Bfs.done {b : Beliefs} {n x : Nat} {td : List Int} {g : Nat → Bool} {i : Nat} (hb : isBeliefs b = true) (hn : b.Nodes = n) (h : Bfs b n x td g) (hd : BfsD b td g i) (hi : td.length ≤ i) : vec n g = vec n (dep b x) := by
  refine vec_congr fun y hy => ?_
  rw [Bool.eq_iff_iff, dep_iff]
  refine ⟨h.snd y, fun hdep => ?_⟩
  have : ∀ y, Dep b x y → g y = true := fun y hdep => by
    unfold Dep at hdep
    induction hdep with
    | single e => exact hd 0 (by have := lt_of_some h.hd; omega) _ h.hd _ (by simpa using e)
    | @tail z y' hz e ih =>
      have hzn := (edge_lt hb hn e).1
      obtain ⟨p, hp⟩ := List.getElem?_of_mem (h.mem z hzn ih)
      exact hd p (by have := lt_of_some hp; omega) _ hp _ (by simpa using e)
  exact this y hdep

/-! ### what the functions answer -/
theorem inR_t {x a c : Int} (h : inR x a c = true) : a ≤ x ∧ x ≤ c := by
  simp only [inR, Bool.and_eq_true, decide_eq_true_eq] at h
  exact h
theorem inR_f {x a c : Int} (h : inR x a c = false) : ¬ (a ≤ x ∧ x ≤ c) := by
  intro h2
  rw [Bool.eq_false_iff] at h
  exact h (by simp [inR, h2.1, h2.2])
noncomputable def depOn (b : Beliefs) (x y : Int) : Bool := isBeliefs b && decide (0 ≤ x ∧ x < b.Nodes ∧ 0 ≤ y ∧ y < b.Nodes) && dep b x.toNat y.toNat
theorem depOn_nb {b : Beliefs} {x y : Int} (h : isBeliefs b = false) : false = depOn b x y := by simp [depOn, h]
theorem depOn_nr {b : Beliefs} {x y : Int} (h : ¬ (0 ≤ x ∧ x < b.Nodes ∧ 0 ≤ y ∧ y < b.Nodes)) : false = depOn b x y := by simp [depOn, decide_eq_false h]
theorem depOn_y {b : Beliefs} {x y : Int} (h : isBeliefs b = true) (h2 : 0 ≤ x ∧ x < b.Nodes ∧ 0 ≤ y ∧ y < b.Nodes) : dep b x.toNat y.toNat = depOn b x y := by simp [depOn, h, decide_eq_true h2]

noncomputable def stY (b : Beliefs) (r : Reason) (y : Int) : Bool := !(y == r.For || dep b y.toNat r.For.toNat)
noncomputable def stR (b : Beliefs) (r : Reason) : Bool := r.Out.all (stY b r)
noncomputable def isStrat (b : Beliefs) : Bool := isBeliefs b && b.Reasons.all (stR b)
theorem strat_nb {b : Beliefs} (h : isBeliefs b = false) : false = isStrat b := by simp [isStrat, h]
theorem strat_bad {b : Beliefs} {k m : Nat} {r : Reason} {y : Int} (hr : b.Reasons[k]? = some r) (hy : r.Out[m]? = some y) (h : stY b r y = false) : false = isStrat b := by
  unfold isStrat
  rw [all_bad (p := stR b) hr (all_bad (p := stY b r) hy h)]
  simp
theorem strat_ok {b : Beliefs} (h : isBeliefs b = true) (hi : ∀ i, i < b.Reasons.length → ∀ r, b.Reasons[i]? = some r → stR b r = true) : true = isStrat b := by
  unfold isStrat
  rw [h, all_of_idx hi]
  rfl
theorem stR_ok {b : Beliefs} {r : Reason} (hi : ∀ i, i < r.Out.length → ∀ y, r.Out[i]? = some y → stY b r y = true) : stR b r = true := all_of_idx hi
theorem stY_ok {b : Beliefs} {r : Reason} {y : Int} (h1 : (y == r.For) = false) (h2 : dep b y.toNat r.For.toNat = false) : stY b r y = true := by simp [stY, h1, h2]
theorem stY_eq {b : Beliefs} {r : Reason} {y : Int} (h1 : (y == r.For) = true) : stY b r y = false := by simp [stY, h1]
theorem stY_dep {b : Beliefs} {r : Reason} {y : Int} (h2 : dep b y.toNat r.For.toNat = true) : stY b r y = false := by simp [stY, h2]
theorem strat_b {b : Beliefs} (h : isStrat b = true) : isBeliefs b = true := by
  simp only [isStrat, Bool.and_eq_true] at h
  exact h.1
theorem strat_y {b : Beliefs} (h : isStrat b = true) {k m : Nat} {r : Reason} {y : Int} (hr : b.Reasons[k]? = some r) (hy : r.Out[m]? = some y) : stY b r y = true := by
  simp only [isStrat, Bool.and_eq_true, List.all_eq_true] at h
  have := h.2 r (List.mem_of_getElem? hr)
  simp only [stR, List.all_eq_true] at this
  exact this y (List.mem_of_getElem? hy)

/-- one premise by its number -/
def premAt (b : Beliefs) (k : Int) : Bool := match b.Reasons[k.toNat]? with | some r => isPremise r | none => false
noncomputable def isCase (b : Beliefs) (bad free : List Int) : Bool := isStrat b && asc bad b.Nodes && decide (free.length ≤ 8) && asc free b.Reasons.length && free.all (premAt b)
theorem case_n1 {b : Beliefs} {bad free : List Int} (h : isStrat b = false) : false = isCase b bad free := by simp [isCase, h]
theorem case_n2 {b : Beliefs} {bad free : List Int} (h : asc bad b.Nodes = false) : false = isCase b bad free := by simp [isCase, h]
theorem case_n3 {b : Beliefs} {bad free : List Int} (h : ¬ free.length ≤ 8) : false = isCase b bad free := by simp only [isCase, decide_eq_false h, Bool.and_false, Bool.false_and]
theorem case_n4 {b : Beliefs} {bad free : List Int} (h : asc free b.Reasons.length = false) : false = isCase b bad free := by simp [isCase, h]
theorem premAt_of {b : Beliefs} {k : Int} {r : Reason} (hr : b.Reasons[k.toNat]? = some r) : premAt b k = isPremise r := by simp [premAt, hr]
theorem case_n5 {b : Beliefs} {bad free : List Int} {j : Nat} {k : Int} {r : Reason} (hj : free[j]? = some k) (hr : b.Reasons[k.toNat]? = some r) (h : isPremise r = false) : false = isCase b bad free := by
  unfold isCase
  rw [all_bad (p := premAt b) hj (by rw [premAt_of hr]; exact h)]
  simp
theorem case_y {b : Beliefs} {bad free : List Int} (h1 : isStrat b = true) (h2 : asc bad b.Nodes = true) (h3 : free.length ≤ 8) (h4 : asc free b.Reasons.length = true) (h5 : ∀ i, i < free.length → ∀ k, free[i]? = some k → premAt b k = true) : true = isCase b bad free := by
  unfold isCase
  rw [h1, h2, h4, decide_eq_true h3, all_of_idx h5]
  rfl
theorem ascW_strat {b : Beliefs} (h : isStrat b = true) {l : List Int} : ascW l b.Nodes = asc l b.Nodes := by
  have := isBeliefs_nodes (strat_b h)
  exact ascW_eq (by omega)
theorem ascW_slen {b : Beliefs} (h : isStrat b = true) {l : List Int} : ascW l (b.Reasons.length : Int) = asc l (b.Reasons.length : Int) := by
  have := isB_len (strat_b h)
  exact ascW_eq (by omega)
theorem case_w2 {b : Beliefs} {bad free : List Int} (h : isStrat b = true) (h2 : ascW bad b.Nodes = false) : false = isCase b bad free := case_n2 (by rw [← ascW_strat h]; exact h2)
theorem case_w4 {b : Beliefs} {bad free : List Int} (h : isStrat b = true) (h2 : ascW free b.Reasons.length = false) : false = isCase b bad free := case_n4 (by rw [← ascW_slen h]; exact h2)
theorem case_wy {b : Beliefs} {bad free : List Int} (h1 : isStrat b = true) (h2 : ascW bad b.Nodes = true) (h3 : free.length ≤ 8) (h4 : ascW free b.Reasons.length = true) (h5 : ∀ i, i < free.length → ∀ k, free[i]? = some k → premAt b k = true) : true = isCase b bad free :=
  case_y h1 (by rw [← ascW_strat h1]; exact h2) h3 (by rw [← ascW_slen h1]; exact h4) h5
end Go.Sy

namespace Go.Sy

/-- the first k elements, without those whose places p refuses -/
def keepT {α : Type} (p : Nat → Bool) (l : List α) (k : Nat) : List α := ((List.range k).filter p).filterMap (fun i => l[i]?)
def keep {α : Type} (p : Nat → Bool) (l : List α) : List α := keepT p l l.length
section
variable {α : Type} {p : Nat → Bool} {l : List α} {k : Nat} {x : α}
theorem keepT_zero : keepT p l 0 = [] := rfl
theorem keepT_t (hx : l[k]? = some x) (hp : p k = true) : keepT p l k ++ [x] = keepT p l (k + 1) := by
  unfold keepT
  rw [List.range_succ, List.filter_append, List.filterMap_append]
  simp [hp, hx]
theorem keepT_f (hp : p k = false) : keepT p l k = keepT p l (k + 1) := by
  unfold keepT
  rw [List.range_succ, List.filter_append, List.filterMap_append]
  simp [hp]
theorem keepT_len (p : Nat → Bool) (l : List α) (k : Nat) : (keepT p l k).length ≤ k := by
  unfold keepT
  refine Nat.le_trans (List.length_filterMap_le _ _) (Nat.le_trans (List.length_filter_le _ _) ?_)
  simp
theorem keepT_done (h : l.length ≤ k) (hk : k ≤ l.length) : keepT p l k = keep p l := by
  have : k = l.length := by omega
  subst this; rfl
theorem keep_mem (h : x ∈ keep p l) : x ∈ l := by
  unfold keep keepT at h
  rw [List.mem_filterMap] at h
  obtain ⟨i, _, hi⟩ := h
  exact List.mem_of_getElem? hi
theorem keep_len (p : Nat → Bool) (l : List α) : (keep p l).length ≤ l.length := keepT_len p l l.length
theorem keepT_cons (p : Nat → Bool) (x : α) (l : List α) (k : Nat) : keepT p (x :: l) (k + 1) = (if p 0 then [x] else []) ++ keepT (fun i => p (i + 1)) l k := by
  unfold keepT
  rw [List.range_succ_eq_map, List.filter_cons]
  have : (List.filter p (List.map Nat.succ (List.range k))).filterMap (fun i => (x :: l)[i]?) = ((List.range k).filter (fun i => p (i + 1))).filterMap (fun i => l[i]?) := by
    rw [List.filter_map, List.filterMap_map]
    rfl
  split
  · rename_i h
    simp [this, h]
  · rename_i h
    simp [this, h]
theorem keep_cons (p : Nat → Bool) (x : α) (l : List α) : keep p (x :: l) = (if p 0 then [x] else []) ++ keep (fun i => p (i + 1)) l := keepT_cons p x l l.length
theorem keep_sub (l : List α) (p : Nat → Bool) : List.Sublist (keep p l) l := by
  induction l generalizing p with
  | nil => exact List.nil_sublist _
  | cons x l ih =>
    rw [keep_cons]
    split
    · exact (ih _).cons_cons x
    · exact (ih _).cons x
end
theorem sumC_sub {α : Type} {c : α → Nat} {a b : List α} (h : List.Sublist a b) : sumC c a ≤ sumC c b := by
  induction h with
  | slnil => exact Nat.le_refl _
  | cons x _ ih => simp only [sumC, List.map_cons, List.sum_cons] at ih ⊢; omega
  | cons_cons x _ ih => simp only [sumC, List.map_cons, List.sum_cons] at ih ⊢; omega

theorem has_n {l : List Int} {n : Int} (h : ∀ i, i < l.length → l[i]? ≠ some n) : false = l.contains n := by
  symm
  rw [Bool.eq_false_iff]
  intro hc
  obtain ⟨i, hi⟩ := List.getElem?_of_mem (List.contains_iff_mem.1 hc)
  exact h i (List.getElem?_eq_some_iff.1 hi).1 hi
theorem has_y {l : List Int} {n x : Int} {i : Nat} (h : l[i]? = some x) (e : x = n) : true = l.contains n := by
  subst e
  symm
  rw [List.contains_iff_mem]
  exact List.mem_of_getElem? h

def notIn (l : List Int) (i : Nat) : Bool := !(l.contains (i : Int))
def dropR (b : Beliefs) (l : List Int) : Beliefs := ⟨b.Nodes, keep (notIn l) b.Reasons⟩
theorem notIn_t {l : List Int} {i : Nat} (h : l.contains (i : Int) = false) : notIn l i = true := by unfold notIn; rw [h]; rfl
theorem notIn_f {l : List Int} {i : Nat} (h : l.contains (i : Int) = true) : notIn l i = false := by unfold notIn; rw [h]; rfl
theorem sumR_keep (p : Nat → Bool) (l : List Reason) : sumC cR (keep p l) ≤ sumC cR l := sumC_sub (keep_sub l p)
theorem sumB_drop (b : Beliefs) (l : List Int) : sumC cR (dropR b l).Reasons ≤ sumC cR b.Reasons := sumR_keep _ _

def addB (b : Beliefs) (r : Reason) : Beliefs := ⟨b.Nodes, b.Reasons ++ [r]⟩
def addOk (b : Beliefs) (r : Reason) : Bool := isBeliefs b && isBeliefs (addB b r)
def addR (b : Beliefs) (r : Reason) : Beliefs := if addOk b r then addB b r else b
theorem addR_t {b : Beliefs} {r : Reason} (h1 : isBeliefs b = true) (h2 : isBeliefs (addB b r) = true) : addB b r = addR b r ∧ true = addOk b r := by
  have : addOk b r = true := by simp [addOk, h1, h2]
  simp [addR, this]
theorem addR_f1 {b : Beliefs} {r : Reason} (h1 : isBeliefs b = false) : b = addR b r ∧ false = addOk b r := by
  have : addOk b r = false := by simp [addOk, h1]
  simp [addR, this]
theorem addR_f2 {b : Beliefs} {r : Reason} (h1 : isBeliefs (addB b r) = false) : b = addR b r ∧ false = addOk b r := by
  have : addOk b r = false := by simp [addOk, h1]
  simp [addR, this]
theorem sumB_add (b : Beliefs) (r : Reason) : sumC cR (addR b r).Reasons ≤ sumC cR b.Reasons + cR r := by
  unfold addR
  split
  · simp [addB, sumC_snoc]
  · omega
end Go.Sy

namespace Go.Sy

/-! ### counting -/
theorem cnt_mono {n : Nat} {f g : Nat → Bool} (h : ∀ x, x < n → f x = true → g x = true) : cnt n f ≤ cnt n g := by
  unfold cnt
  apply List.countP_mono_left
  intro x hx
  exact h x (by simpa using hx)
theorem cnt_lt {n y : Nat} {f g : Nat → Bool} (h : ∀ x, x < n → f x = true → g x = true) (hy : y < n) (h1 : f y = false) (h2 : g y = true) : cnt n f + 1 ≤ cnt n g := by
  rw [← cnt_upd hy h1]
  apply cnt_mono
  intro x hx hf
  unfold upd at hf
  split at hf
  · rename_i e; rw [e]; exact h2
  · exact h x hx hf
theorem cnt_pos {n y : Nat} {g : Nat → Bool} (hy : y < n) (h : g y = true) : 1 ≤ cnt n g := by
  have := cnt_lt (f := fun _ => false) (g := g) (fun x _ e => by cases e) hy rfl h
  rw [cnt_zero] at this
  omega
theorem cnt_all {n : Nat} {g : Nat → Bool} (h : ∀ x, x < n → g x = true) : cnt n g = n := by
  unfold cnt
  have := (List.countP_eq_length (p := g) (l := List.range n)).2 (fun x hx => h x (by simpa using hx))
  simpa using this
theorem all_of_cnt {n : Nat} {g : Nat → Bool} (h : n ≤ cnt n g) : ∀ x, x < n → g x = true := by
  intro x hx
  cases hg : g x with
  | true => rfl
  | false =>
    have := cnt_lt (f := g) (g := fun _ => true) (fun _ _ _ => rfl) hx hg rfl
    have h2 := cnt_le n (fun _ => true)
    omega

/-! ### valid reasons over few nodes -/
def okB (b : Beliefs) : Bool := decide (0 ≤ b.Nodes) && decide (b.Nodes ≤ 24) && b.Reasons.all (fun r => isReason r b.Nodes)
theorem isB_ok2 {b : Beliefs} (h : isBeliefs b = true) : okB b = true := by
  simp only [isBeliefs, Bool.and_eq_true] at h
  simp only [okB, Bool.and_eq_true]
  exact ⟨h.1.1, h.2⟩
theorem okB_nodes {b : Beliefs} (h : okB b = true) : 0 ≤ b.Nodes ∧ b.Nodes ≤ 24 := by
  simp only [okB, Bool.and_eq_true, decide_eq_true_eq] at h
  exact h.1
theorem okB_m {b : Beliefs} (h : okB b = true) {r : Reason} (hr : r ∈ b.Reasons) : isReason r b.Nodes = true := by
  simp only [okB, Bool.and_eq_true, List.all_eq_true] at h
  exact h.2 r hr
theorem okB_r {b : Beliefs} (h : okB b = true) {k : Nat} {r : Reason} (hr : b.Reasons[k]? = some r) : isReason r b.Nodes = true := okB_m h (List.mem_of_getElem? hr)
theorem asc_m {l : List Int} {n : Int} (h : asc l n = true) {y : Int} (hy : y ∈ l) : 0 ≤ y ∧ y < n := by
  obtain ⟨j, hj⟩ := List.getElem?_of_mem hy
  exact asc_at h hj

/-! ### solutions -/
def SolR (r : Reason) (s : Nat → Int) : Prop := (∀ y ∈ r.In, s y.toNat ≤ s r.For.toNat) ∧ (∀ y ∈ r.Out, s y.toNat + 1 ≤ s r.For.toNat)
def Sol (b : Beliefs) (s : Nat → Int) : Prop := (∀ x, 0 ≤ s x) ∧ ∀ r ∈ b.Reasons, SolR r s
def HasSol (b : Beliefs) : Prop := ∃ s, Sol b s ∧ ∀ x : Nat, (x : Int) < b.Nodes → s x < b.Nodes

theorem exists_least {p : Nat → Prop} (h : ∃ k, p k) : ∃ k, p k ∧ ∀ j, p j → k ≤ j := by
  obtain ⟨k, hk⟩ := h
  induction k using Nat.strongRecOn with
  | _ k ih =>
    by_cases h : ∃ j, j < k ∧ p j
    · obtain ⟨j, hj, hp⟩ := h
      exact ih j hj hp
    · refine ⟨k, hk, fun j hj => ?_⟩
      by_cases e : k ≤ j
      · exact e
      · exact absurd ⟨j, by omega, hj⟩ h
open Classical in
noncomputable def leastN (p : Nat → Prop) : Nat := if h : ∃ k, p k then Classical.choose (exists_least h) else 0
theorem leastN_spec {p : Nat → Prop} (h : ∃ k, p k) : p (leastN p) ∧ ∀ j, p j → leastN p ≤ j := by
  unfold leastN
  rw [dif_pos h]
  exact Classical.choose_spec (exists_least h)

noncomputable def strat (b : Beliefs) (x : Nat) : Int := (leastN (fun k => ∃ s, Sol b s ∧ s x = (k : Int)) : Nat)
theorem strat_le {b : Beliefs} {s : Nat → Int} (h : Sol b s) (x : Nat) : strat b x ≤ s x := by
  have hp : ∃ s', Sol b s' ∧ s' x = (((s x).toNat : Nat) : Int) := ⟨s, h, by have := h.1 x; omega⟩
  have := (leastN_spec (p := fun k => ∃ s, Sol b s ∧ s x = (k : Int)) ⟨(s x).toNat, hp⟩).2 (s x).toNat hp
  have h0 := h.1 x
  unfold strat
  omega
theorem strat_at {b : Beliefs} (h : HasSol b) (x : Nat) : ∃ s, Sol b s ∧ s x = strat b x := by
  obtain ⟨s, hs, _⟩ := h
  exact (leastN_spec (p := fun k => ∃ s, Sol b s ∧ s x = (k : Int)) ⟨(s x).toNat, s, hs, by have := hs.1 x; omega⟩).1
theorem strat_nn (b : Beliefs) (x : Nat) : 0 ≤ strat b x := by unfold strat; omega
theorem strat_sol {b : Beliefs} (h : HasSol b) : Sol b (strat b) := by
  refine ⟨strat_nn b, fun r hr => ?_⟩
  obtain ⟨s, hs, he⟩ := strat_at h r.For.toNat
  have h1 := hs.2 r hr
  refine ⟨fun y hy => ?_, fun y hy => ?_⟩
  · have := strat_le hs y.toNat
    have := h1.1 y hy
    omega
  · have := strat_le hs y.toNat
    have := h1.2 y hy
    omega
theorem strat_lt {b : Beliefs} (h : HasSol b) {x : Nat} (hx : (x : Int) < b.Nodes) : strat b x < b.Nodes := by
  obtain ⟨s, hs, hb⟩ := h
  have := strat_le hs x
  have := hb x hx
  omega

/-! ### stratified beliefs have a solution -/
noncomputable def rk (b : Beliefs) (n : Nat) (x : Nat) : Nat := cnt n (fun y => decide (y = x) || dep b x y)
theorem edge_m {b : Beliefs} {r : Reason} {y : Int} (hr : r ∈ b.Reasons) (h0 : 0 ≤ r.For) (hy : y ∈ r.In ∨ y ∈ r.Out) (h1 : 0 ≤ y) : edge b r.For.toNat y.toNat = true := by
  unfold edge
  rw [List.any_eq_true]
  refine ⟨r, hr, ?_⟩
  have e1 : ((r.For.toNat : Nat) : Int) = r.For := by omega
  have e2 : ((y.toNat : Nat) : Int) = y := by omega
  simp only [rE, e1, e2, Bool.and_eq_true, Bool.or_eq_true, List.contains_iff_mem, beq_self_eq_true, true_and]
  exact hy
theorem rk_le {b : Beliefs} {n x y : Nat} (he : edge b x y = true) : rk b n y ≤ rk b n x := by
  apply cnt_mono
  intro z _ hz
  simp only [Bool.or_eq_true, decide_eq_true_eq] at hz ⊢
  right
  rw [dep_iff] at hz ⊢
  rcases hz with e | hz
  · subst e; exact .single he
  · exact Relation.TransGen.trans (.single he) hz
theorem rk_lt {b : Beliefs} {n x y : Nat} (hx : x < n) (he : edge b x y = true) (hne : y ≠ x) (hnd : dep b y x = false) : rk b n y + 1 ≤ rk b n x := by
  unfold rk
  refine cnt_lt (y := x) (fun z _ hz => ?_) hx ?_ (by simp)
  · simp only [Bool.or_eq_true, decide_eq_true_eq] at hz ⊢
    right
    rw [dep_iff] at hz ⊢
    rcases hz with e | hz
    · subst e; exact .single he
    · exact Relation.TransGen.trans (.single he) hz
  · rw [hnd, Bool.or_false, decide_eq_false_iff_not]
    exact fun e => hne e.symm
theorem strat_has {b : Beliefs} (h : isStrat b = true) : HasSol b := by
  have hb := strat_b h
  have hn := isBeliefs_nodes hb
  have hall : ∀ r ∈ b.Reasons, stR b r = true := by
    simp only [isStrat, Bool.and_eq_true, List.all_eq_true] at h
    exact h.2
  refine ⟨fun x => ((rk b b.Nodes.toNat x - 1 : Nat) : Int), ⟨fun x => Int.natCast_nonneg _, fun r hr => ?_⟩, fun x hx => ?_⟩
  · have hv := okB_m (isB_ok2 hb) hr
    have hF := isR_for hv
    refine ⟨fun y hy => ?_, fun y hy => ?_⟩
    · have hy0 := asc_m (isR_in hv) hy
      have := rk_le (n := b.Nodes.toNat) (edge_m hr hF.1 (.inl hy) hy0.1)
      simp only
      omega
    · have hy0 := asc_m (isR_out hv) hy
      have hs := hall r hr
      simp only [stR, List.all_eq_true] at hs
      have hs := hs y hy
      simp only [stY, Bool.not_eq_true', Bool.or_eq_false_iff, beq_eq_false_iff_ne] at hs
      have := rk_lt (n := b.Nodes.toNat) (by omega) (edge_m hr hF.1 (.inr hy) hy0.1) (by have := hs.1; omega) hs.2
      have h1 : 1 ≤ rk b b.Nodes.toNat y.toNat := cnt_pos (y := y.toNat) (by omega) (by simp)
      simp only
      omega
  · have := cnt_le b.Nodes.toNat (fun y => decide (y = x) || dep b x y)
    have e : rk b b.Nodes.toNat x = cnt b.Nodes.toNat (fun y => decide (y = x) || dep b x y) := rfl
    simp only
    omega

/-! ### the two loops -/
def StG (b : Beliefs) (g : Nat → Int) : Prop := ∀ x, 0 ≤ g x ∧ g x ≤ strat b x
theorem StG.zero (b : Beliefs) : StG b (fun _ => 0) := fun x => ⟨Int.le_refl _, strat_nn b x⟩
theorem StG.set {b : Beliefs} {g : Nat → Int} {x : Nat} {v : Int} (h : StG b g) (h0 : 0 ≤ v) (h1 : v ≤ strat b x) : StG b (upd g x v) := by
  intro y
  unfold upd
  split
  · rename_i e; subst e; exact ⟨h0, h1⟩
  · exact h y
theorem StG.in {b : Beliefs} (hs : HasSol b) {g : Nat → Int} (h : StG b g) {r : Reason} {y : Int} {k : Nat} (hr : r ∈ b.Reasons) (hy : r.In[k]? = some y) : g y.toNat ≤ strat b r.For.toNat := by
  have := ((strat_sol hs).2 r hr).1 y (List.mem_of_getElem? hy)
  have := (h y.toNat).2
  omega
theorem StG.out {b : Beliefs} (hs : HasSol b) {g : Nat → Int} (h : StG b g) {r : Reason} {y : Int} {k : Nat} (hr : r ∈ b.Reasons) (hy : r.Out[k]? = some y) : g y.toNat + 1 ≤ strat b r.For.toNat := by
  have := ((strat_sol hs).2 r hr).2 y (List.mem_of_getElem? hy)
  have := (h y.toNat).2
  omega
theorem StG.lt {b : Beliefs} (hs : HasSol b) {g : Nat → Int} (h : StG b g) {x : Nat} (hx : (x : Int) < b.Nodes) : 0 ≤ g x ∧ g x < b.Nodes := by
  have := strat_lt hs hx
  have := h x
  omega

def gap (n : Nat) (s g : Nat → Int) : Nat := ((List.range n).map (fun x => (s x - g x).toNat)).sum
theorem sum_le_map {l : List Nat} {f g : Nat → Nat} (h : ∀ x ∈ l, f x ≤ g x) : (l.map f).sum ≤ (l.map g).sum := by
  induction l with
  | nil => simp
  | cons a l ih =>
    have h1 := h a (by simp)
    have h2 := ih (fun x hx => h x (by simp [hx]))
    simp only [List.map_cons, List.sum_cons]
    omega
theorem sum_lt_map {l : List Nat} {f g : Nat → Nat} {y : Nat} (h : ∀ x ∈ l, f x ≤ g x) (hy : y ∈ l) (hlt : f y < g y) : (l.map f).sum < (l.map g).sum := by
  induction l with
  | nil => cases hy
  | cons a l ih =>
    have h1 := h a (by simp)
    have h2 := sum_le_map (f := f) (g := g) (l := l) (fun x hx => h x (by simp [hx]))
    simp only [List.map_cons, List.sum_cons]
    rcases List.mem_cons.1 hy with e | hy
    · subst e; omega
    · have := ih (fun x hx => h x (by simp [hx])) hy
      omega
theorem gap_upd {n x : Nat} {s g : Nat → Int} {v : Int} (hx : x < n) (h1 : g x < v) (h2 : v ≤ s x) : gap n s (upd g x v) + 1 ≤ gap n s g := by
  unfold gap
  refine sum_lt_map (y := x) (fun z _ => ?_) (by simpa using hx) ?_
  · unfold upd
    split
    · rename_i e; subst e; omega
    · omega
  · rw [upd_self]; omega

def PassE (b : Beliefs) (g g2 : Nat → Int) (more : Bool) (k : Nat) (n : Nat) : Prop :=
  gap n (strat b) g2 ≤ gap n (strat b) g ∧ (more = true → gap n (strat b) g2 + 1 ≤ gap n (strat b) g) ∧ (more = false → g2 = g ∧ ∀ i r, i < k → b.Reasons[i]? = some r → SolR r g)
theorem PassE.zero (b : Beliefs) (g : Nat → Int) (n : Nat) : PassE b g g false 0 n := ⟨Nat.le_refl _, (fun h => by simp at h), fun _ => ⟨rfl, fun i r hi => absurd hi (Nat.not_lt_zero i)⟩⟩
theorem PassE.up {b : Beliefs} {g g2 : Nat → Int} {more : Bool} {k n x : Nat} {v : Int} (h : PassE b g g2 more k n) (hx : x < n) (h1 : g2 x < v) (h2 : v ≤ strat b x) (m : Nat) : PassE b g (upd g2 x v) true m n := by
  have := gap_upd hx h1 h2
  refine ⟨by have := h.1; omega, fun _ => by have := h.1; omega, fun e => by cases e⟩
theorem PassE.keep {b : Beliefs} {g g2 : Nat → Int} {more : Bool} {k n : Nat} {r : Reason} {v : Int} (h : PassE b g g2 more k n) (hr : b.Reasons[k]? = some r) (hv : v ≤ g2 r.For.toNat) (hi : ∀ i, i < r.In.length → ∀ y, r.In[i]? = some y → g2 y.toNat ≤ v) (ho : ∀ i, i < r.Out.length → ∀ y, r.Out[i]? = some y → g2 y.toNat + 1 ≤ v) : PassE b g g2 more (k + 1) n := by
  refine ⟨h.1, h.2.1, fun e => ?_⟩
  obtain ⟨e2, h3⟩ := h.2.2 e
  refine ⟨e2, fun i r' hi' hr' => ?_⟩
  by_cases hk : i = k
  · subst hk
    rw [hr] at hr'
    simp only [Option.some.injEq] at hr'
    subst hr'
    rw [← e2]
    refine ⟨fun y hy => ?_, fun y hy => ?_⟩
    · obtain ⟨j, hj⟩ := List.getElem?_of_mem hy
      have := hi j (lt_of_some hj) y hj
      omega
    · obtain ⟨j, hj⟩ := List.getElem?_of_mem hy
      have := ho j (lt_of_some hj) y hj
      omega
  · exact h3 i r' (by omega) hr'
theorem PassE.sol {b : Beliefs} {g g2 : Nat → Int} {more : Bool} {k n : Nat} (h : PassE b g g2 more k n) (hk : b.Reasons.length ≤ k) (hg : StG b g2) : more = false → Sol b g2 := by
  intro e
  obtain ⟨e2, h3⟩ := h.2.2 e
  refine ⟨fun x => (hg x).1, fun r hr => ?_⟩
  obtain ⟨i, hi⟩ := List.getElem?_of_mem hr
  rw [e2]
  exact h3 i r (by have := lt_of_some hi; omega) hi
theorem strata_done {b : Beliefs} {g : Nat → Int} {n : Nat} (hg : StG b g) (h : Sol b g) : vec n g = vec n (strat b) := vec_congr fun x _ => by
  have := strat_le h x
  have := (hg x).2
  omega

/-! ### the reference's passes -/
def PassI (b : Beliefs) (g g2 : Nat → Int) (k : Nat) : Prop := (∀ x, g x ≤ g2 x) ∧ ∀ i r, i < k → b.Reasons[i]? = some r → (∀ y ∈ r.In, g y.toNat ≤ g2 r.For.toNat) ∧ (∀ y ∈ r.Out, g y.toNat + 1 ≤ g2 r.For.toNat)
theorem PassI.zero (b : Beliefs) (g : Nat → Int) : PassI b g g 0 := ⟨fun _ => Int.le_refl _, fun i r hi => by omega⟩
theorem PassI.up {b : Beliefs} {g g2 : Nat → Int} {k x : Nat} {v : Int} (h : PassI b g g2 k) (hv : g2 x ≤ v) : PassI b g (upd g2 x v) k := by
  have key : ∀ z, g2 z ≤ upd g2 x v z := fun z => by
    unfold upd
    split
    · rename_i e; subst e; exact hv
    · exact Int.le_refl _
  refine ⟨fun z => Int.le_trans (h.1 z) (key z), fun i r hi hr => ?_⟩
  obtain ⟨h1, h2⟩ := h.2 i r hi hr
  exact ⟨fun y hy => Int.le_trans (h1 y hy) (key _), fun y hy => Int.le_trans (h2 y hy) (key _)⟩
theorem PassI.next {b : Beliefs} {g g2 : Nat → Int} {k : Nat} {r : Reason} (h : PassI b g g2 k) (hr : b.Reasons[k]? = some r) (hi : ∀ i, i < r.In.length → ∀ y, r.In[i]? = some y → g y.toNat ≤ g2 r.For.toNat) (ho : ∀ i, i < r.Out.length → ∀ y, r.Out[i]? = some y → g y.toNat + 1 ≤ g2 r.For.toNat) : PassI b g g2 (k + 1) := by
  refine ⟨h.1, fun i r' hi' hr' => ?_⟩
  by_cases hk : i = k
  · subst hk
    rw [hr] at hr'
    simp only [Option.some.injEq] at hr'
    subst hr'
    refine ⟨fun y hy => ?_, fun y hy => ?_⟩
    · obtain ⟨j, hj⟩ := List.getElem?_of_mem hy
      exact hi j (lt_of_some hj) y hj
    · obtain ⟨j, hj⟩ := List.getElem?_of_mem hy
      exact ho j (lt_of_some hj) y hj
  · exact h.2 i r' (by omega) hr'
noncomputable def fin (n : Nat) (b : Beliefs) (g : Nat → Int) : Nat := cnt n (fun x => decide (g x = strat b x))
theorem pass_fin {b : Beliefs} {n : Nat} (hn : b.Nodes = n) (ho : okB b = true) (hs : HasSol b) {g g2 : Nat → Int} (hg : StG b g) (hg2 : StG b g2) (h : PassI b g g2 b.Reasons.length) {k : Nat} (hk : k ≤ fin n b g ∨ n ≤ fin n b g) : k + 1 ≤ fin n b g2 ∨ n ≤ fin n b g2 := by
  have mono : ∀ x, x < n → decide (g x = strat b x) = true → decide (g2 x = strat b x) = true := fun x _ hx => by
    simp only [decide_eq_true_eq] at hx ⊢
    have := h.1 x
    have := (hg2 x).2
    omega
  by_cases hall : n ≤ fin n b g
  · right
    exact Nat.le_trans hall (cnt_mono mono)
  · have hk : k ≤ fin n b g := hk.resolve_right hall
    left
    have ⟨x, hx, h1, h2⟩ : ∃ x, x < n ∧ g x ≠ strat b x ∧ g2 x = strat b x := by
      refine Classical.byContradiction fun hno => hall ?_
      have hno : ∀ x, x < n → g x ≠ strat b x → g2 x ≠ strat b x := fun x hx h1 h2 => hno ⟨x, hx, h1, h2⟩
      unfold fin
      rw [cnt_all]
      · exact Nat.le_refl _
      · intro x hx
        rw [decide_eq_true_eq]
        refine Classical.byContradiction fun hne => ?_
        have hsol : Sol b (fun x => if g x = strat b x then strat b x else strat b x - 1) := by
          refine ⟨fun x => ?_, fun r hr => ?_⟩
          · simp only
            have := hg x
            split <;> omega
          · obtain ⟨i, hi⟩ := List.getElem?_of_mem hr
            have hp := h.2 i r (lt_of_some hi) hi
            have hF := isR_for (okB_m ho hr)
            have hss := (strat_sol hs).2 r hr
            have hu : g r.For.toNat ≠ strat b r.For.toNat → g2 r.For.toNat ≤ strat b r.For.toNat - 1 := fun e => by
              have := hno r.For.toNat (by omega) e
              have := (hg2 r.For.toNat).2
              omega
            refine ⟨fun y hy => ?_, fun y hy => ?_⟩
            · have h1 := hp.1 y hy
              have h2 := hss.1 y hy
              simp only
              by_cases e1 : g r.For.toNat = strat b r.For.toNat
              · rw [if_pos e1]
                split <;> omega
              · rw [if_neg e1]
                have := hu e1
                split <;> omega
            · have h1 := hp.2 y hy
              have h2 := hss.2 y hy
              simp only
              by_cases e1 : g r.For.toNat = strat b r.For.toNat
              · rw [if_pos e1]
                split <;> omega
              · rw [if_neg e1]
                have := hu e1
                split <;> omega
        have := strat_le hsol x
        simp only [if_neg hne] at this
        omega
    have := cnt_lt (n := n) (y := x) (f := fun x => decide (g x = strat b x)) (g := fun x => decide (g2 x = strat b x)) mono hx (by simpa using h1) (by simpa using h2)
    unfold fin at hk ⊢
    omega
theorem fin_done {b : Beliefs} {n : Nat} {g : Nat → Int} (h : n ≤ fin n b g) : vec n g = vec n (strat b) := vec_congr fun x hx => by
  have := all_of_cnt h x hx
  simpa using this
noncomputable def strataOf (b : Beliefs) : List Int := if isStrat b then vec b.Nodes.toNat (strat b) else []
theorem strataOf_t {b : Beliefs} (h : isStrat b = true) : strataOf b = vec b.Nodes.toNat (strat b) := by unfold strataOf; rw [if_pos h]
theorem strataOf_f {b : Beliefs} (h : isStrat b = false) : [] = strataOf b := by unfold strataOf; rw [h]; rfl
theorem strataOf_len {b : Beliefs} : (strataOf b).length ≤ 24 := by
  cases h : isStrat b with
  | false => rw [← strataOf_f h]; simp
  | true =>
    rw [strataOf_t h, vec_len]
    have := isBeliefs_nodes (strat_b h)
    omega
end Go.Sy

namespace Go.Sy

def atZ (l : List Int) (x : Nat) : Int := (l[x]?).getD 0
theorem atZ_of {l : List Int} {x : Nat} {z : Int} (h : l[x]? = some z) : atZ l x = z := by simp [atZ, h]
theorem atZ_vec {n x : Nat} {g : Nat → Int} (h : x < n) : atZ (vec n g) x = g x := atZ_of (vec_get h)
def befL (l : List Int) (rd : Int) (y : Int) : Bool := decide (0 ≤ atZ l y.toNat) && decide (atZ l y.toNat < rd)
def nonL (l : List Int) (y : Int) : Bool := decide (atZ l y.toNat < 0)
def supL (r : Reason) (l : List Int) (rd : Int) : Bool := r.In.all (befL l rd) && r.Out.all (nonL l)
theorem befL_f {l : List Int} {rd y z : Int} (h : l[y.toNat]? = some z) (hz : z < 0 ∨ rd ≤ z) : befL l rd y = false := by
  unfold befL
  rw [atZ_of h, Bool.eq_false_iff]
  simp only [ne_eq, Bool.and_eq_true, decide_eq_true_eq]
  omega
theorem befL_t {l : List Int} {rd y z : Int} (h : l[y.toNat]? = some z) (hz : 0 ≤ z ∧ z < rd) : befL l rd y = true := by
  unfold befL
  rw [atZ_of h]
  simp [hz.1, hz.2]
theorem nonL_f {l : List Int} {y z : Int} (h : l[y.toNat]? = some z) (hz : 0 ≤ z) : nonL l y = false := by
  unfold nonL
  rw [atZ_of h, decide_eq_false_iff_not]
  omega
theorem nonL_t {l : List Int} {y z : Int} (h : l[y.toNat]? = some z) (hz : z < 0) : nonL l y = true := by
  unfold nonL
  rw [atZ_of h, decide_eq_true_eq]
  exact hz
theorem supL_in {r : Reason} {l : List Int} {rd y : Int} {k : Nat} (hy : r.In[k]? = some y) (h : befL l rd y = false) : false = supL r l rd := by
  unfold supL
  rw [all_bad (p := befL l rd) hy h]; rfl
theorem supL_out {r : Reason} {l : List Int} {rd y : Int} {k : Nat} (hy : r.Out[k]? = some y) (h : nonL l y = false) : false = supL r l rd := by
  unfold supL
  rw [all_bad (p := nonL l) hy h]; simp
theorem supL_y {r : Reason} {l : List Int} {rd : Int} (h1 : ∀ i, i < r.In.length → ∀ y, r.In[i]? = some y → befL l rd y = true) (h2 : ∀ i, i < r.Out.length → ∀ y, r.Out[i]? = some y → nonL l y = true) : true = supL r l rd := by
  unfold supL
  rw [all_of_idx h1, all_of_idx h2]; rfl

def supG (g : Nat → Int) (rd : Int) (r : Reason) : Bool := r.In.all (fun y => decide (0 ≤ g y.toNat) && decide (g y.toNat < rd)) && r.Out.all (fun y => decide (g y.toNat < 0))
theorem all_congr {l : List Int} {p q : Int → Bool} (h : ∀ y ∈ l, p y = q y) : l.all p = l.all q := by
  rw [Bool.eq_iff_iff, List.all_eq_true, List.all_eq_true]
  exact ⟨fun hp y hy => by rw [← h y hy]; exact hp y hy, fun hq y hy => by rw [h y hy]; exact hq y hy⟩
theorem supL_vec {r : Reason} {n : Nat} {g : Nat → Int} {rd : Int} (h : isReason r (n : Int) = true) : supL r (vec n g) rd = supG g rd r := by
  unfold supL supG
  congr 1
  · refine all_congr fun y hy => ?_
    have := asc_m (isR_in h) hy
    unfold befL
    rw [atZ_vec (by omega)]
  · refine all_congr fun y hy => ?_
    have := asc_m (isR_out h) hy
    unfold nonL
    rw [atZ_vec (by omega)]

/-! ### one round after another -/
noncomputable def comesR (b : Beliefs) (lev rd : Int) (g : Nat → Int) (r : Reason) : Bool := decide (strat b r.For.toNat = lev) && decide (g r.For.toNat < 0) && supG g rd r
noncomputable def comes (b : Beliefs) (lev rd : Int) (g : Nat → Int) (x : Nat) : Bool := b.Reasons.any (fun r => decide (r.For = (x : Int)) && comesR b lev rd g r)
structure RS where
  lev : Nat
  g : Nat → Int
  rd : Nat
noncomputable def upR (b : Beliefs) (lev rd : Int) (g : Nat → Int) : Nat → Int := fun x => if comes b lev rd g x then rd else g x
noncomputable def stpR (b : Beliefs) (s : RS) : RS := if b.Reasons.any (comesR b s.lev s.rd s.g) then ⟨s.lev, upR b s.lev s.rd s.g, s.rd + 1⟩ else ⟨s.lev + 1, s.g, s.rd⟩
noncomputable def itr (b : Beliefs) : Nat → RS
  | 0 => ⟨0, fun _ => -1, 0⟩
  | k + 1 => stpR b (itr b k)
def Rch (b : Beliefs) (s : RS) : Prop := ∃ k, itr b k = s
theorem Rch.init (b : Beliefs) : Rch b ⟨0, fun _ => -1, 0⟩ := ⟨0, rfl⟩
theorem Rch.next {b : Beliefs} {lev rd : Nat} {g : Nat → Int} (h : Rch b ⟨lev, g, rd⟩) (hn : b.Reasons.any (comesR b lev rd g) = false) : Rch b ⟨lev + 1, g, rd⟩ := by
  obtain ⟨k, hk⟩ := h
  refine ⟨k + 1, ?_⟩
  show stpR b (itr b k) = _
  rw [hk]
  unfold stpR
  simp [hn]
theorem Rch.step {b : Beliefs} {lev rd : Nat} {g g' : Nat → Int} (h : Rch b ⟨lev, g, rd⟩) (hn : b.Reasons.any (comesR b lev rd g) = true) (hg : g' = upR b lev rd g) : Rch b ⟨lev, g', rd + 1⟩ := by
  obtain ⟨k, hk⟩ := h
  refine ⟨k + 1, ?_⟩
  show stpR b (itr b k) = _
  rw [hk]
  unfold stpR
  simp [hn, hg]

theorem comes_of {b : Beliefs} {lev rd : Int} {g : Nat → Int} {r : Reason} (ho : okB b = true) (hr : r ∈ b.Reasons) (hc : comesR b lev rd g r = true) : comes b lev rd g r.For.toNat = true ∧ (r.For.toNat : Int) < b.Nodes ∧ g r.For.toNat < 0 ∧ strat b r.For.toNat = lev := by
  have hF := isR_for (okB_m ho hr)
  have h2 := hc
  simp only [comesR, Bool.and_eq_true, decide_eq_true_eq] at h2
  refine ⟨?_, by omega, h2.1.2, h2.1.1⟩
  unfold comes
  rw [List.any_eq_true]
  refine ⟨r, hr, ?_⟩
  rw [hc, Bool.and_true, decide_eq_true_eq]
  omega
theorem comes_parts {b : Beliefs} {lev rd : Int} {g : Nat → Int} {x : Nat} (h : comes b lev rd g x = true) : ∃ r ∈ b.Reasons, r.For = (x : Int) ∧ comesR b lev rd g r = true ∧ g x < 0 ∧ strat b x = lev ∧ supG g rd r = true := by
  unfold comes at h
  rw [List.any_eq_true] at h
  obtain ⟨r, hr, h⟩ := h
  simp only [Bool.and_eq_true, decide_eq_true_eq] at h
  have h2 := h.2
  simp only [comesR, Bool.and_eq_true, decide_eq_true_eq, h.1, Int.toNat_natCast] at h2
  exact ⟨r, hr, h.1, h.2, h2.1.2, h2.1.1, h2.2⟩
def nn (g : Nat → Int) (x : Nat) : Bool := decide (0 ≤ g x)
theorem up_cnt {b : Beliefs} {n : Nat} (hn : b.Nodes = n) (ho : okB b = true) {lev rd : Nat} {g : Nat → Int} (h : b.Reasons.any (comesR b lev rd g) = true) : cnt n (nn g) + 1 ≤ cnt n (nn (upR b lev rd g)) := by
  rw [List.any_eq_true] at h
  obtain ⟨r, hr, hc⟩ := h
  obtain ⟨h1, h2, h3, _⟩ := comes_of ho hr hc
  refine cnt_lt (y := r.For.toNat) (fun x _ hx => ?_) (by omega) ?_ ?_
  · have hx := of_decide_eq_true hx
    refine decide_eq_true ?_
    unfold upR
    split <;> omega
  · exact decide_eq_false (by omega)
  · refine decide_eq_true ?_
    unfold upR
    rw [if_pos h1]
    omega
theorem Rch.rd_le {b : Beliefs} {n : Nat} (hn : b.Nodes = n) (ho : okB b = true) {s : RS} (h : Rch b s) : s.rd ≤ cnt n (nn s.g) := by
  obtain ⟨k, rfl⟩ := h
  induction k with
  | zero => exact Nat.zero_le _
  | succ k ih =>
    show (stpR b (itr b k)).rd ≤ cnt n (nn (stpR b (itr b k)).g)
    unfold stpR
    split
    · rename_i h
      have := up_cnt hn ho h
      simp only
      omega
    · exact ih
theorem Rch.rd_n {b : Beliefs} {n : Nat} (hn : b.Nodes = n) (ho : okB b = true) {s : RS} (h : Rch b s) : s.rd ≤ n := Nat.le_trans (h.rd_le hn ho) (cnt_le n _)

theorem itr_stay {b : Beliefs} (ho : okB b = true) {k : Nat} (h : ∀ x : Nat, (x : Int) < b.Nodes → strat b x < (itr b k).lev) : ∀ m, (itr b (k + m)).g = (itr b k).g ∧ (itr b (k + m)).lev = (itr b k).lev + m
  | 0 => ⟨rfl, rfl⟩
  | m + 1 => by
    obtain ⟨h1, h2⟩ := itr_stay ho h m
    have hno : b.Reasons.any (comesR b (itr b (k + m)).lev (itr b (k + m)).rd (itr b (k + m)).g) = false := by
      rw [Bool.eq_false_iff]
      intro hc
      rw [List.any_eq_true] at hc
      obtain ⟨r, hr, hc⟩ := hc
      obtain ⟨_, h4, _, h5⟩ := comes_of ho hr hc
      have := h _ h4
      omega
    show (stpR b (itr b (k + m))).g = _ ∧ (stpR b (itr b (k + m))).lev = _
    unfold stpR
    rw [hno]
    exact ⟨h1, by show (itr b (k + m)).lev + 1 = _; omega⟩
open Classical in
noncomputable def rnds (b : Beliefs) : Nat → Int := if h : ∃ s, Rch b s ∧ b.Nodes ≤ (s.lev : Int) then (Classical.choose h).g else fun _ => -1
theorem rnds_eq {b : Beliefs} (ho : okB b = true) (hs : HasSol b) {s : RS} (h : Rch b s) (hl : ∀ x : Nat, (x : Int) < b.Nodes → strat b x < s.lev) : rnds b = s.g := by
  obtain ⟨k, hk⟩ := h
  have hl' : ∀ x : Nat, (x : Int) < b.Nodes → strat b x < (itr b k).lev := by rw [hk]; exact hl
  have hex : ∃ s, Rch b s ∧ b.Nodes ≤ (s.lev : Int) := by
    refine ⟨itr b (k + b.Nodes.toNat), ⟨_, rfl⟩, ?_⟩
    have := (itr_stay ho hl' b.Nodes.toNat).2
    omega
  unfold rnds
  rw [dif_pos hex]
  obtain ⟨⟨j, hj⟩, hjl⟩ := Classical.choose_spec hex
  have hjl' : ∀ x : Nat, (x : Int) < b.Nodes → strat b x < (itr b j).lev := fun x hx => by
    have := strat_lt hs hx
    rw [hj]; omega
  rw [← hj, ← hk]
  rcases Nat.le_total j k with hle | hle
  · obtain ⟨m, rfl⟩ := Nat.le.dest hle
    exact (itr_stay ho hjl' m).1.symm
  · obtain ⟨m, rfl⟩ := Nat.le.dest hle
    exact (itr_stay ho hl' m).1

/-! ### the two ways to find who comes -/
noncomputable def comeL (b : Beliefs) (lev rd : Int) (g : Nat → Int) (k : Nat) : List Int := ((b.Reasons.take k).filter (comesR b lev rd g)).map (·.For)
theorem comeL_t {b : Beliefs} {lev rd : Int} {g : Nat → Int} {k : Nat} {r : Reason} (hr : b.Reasons[k]? = some r) (h : comesR b lev rd g r = true) : comeL b lev rd g k ++ [r.For] = comeL b lev rd g (k + 1) := by
  unfold comeL
  rw [take_snoc hr, List.filter_append, List.map_append]
  simp [h]
theorem comeL_f {b : Beliefs} {lev rd : Int} {g : Nat → Int} {k : Nat} {r : Reason} (hr : b.Reasons[k]? = some r) (h : comesR b lev rd g r = false) : comeL b lev rd g k = comeL b lev rd g (k + 1) := by
  unfold comeL
  rw [take_snoc hr, List.filter_append, List.map_append]
  simp [h]
theorem comeL_len (b : Beliefs) (lev rd : Int) (g : Nat → Int) (k : Nat) : (comeL b lev rd g k).length ≤ k := by
  unfold comeL
  rw [List.length_map]
  exact Nat.le_trans (List.length_filter_le _ _) (by rw [List.length_take]; omega)
theorem comeL_any {b : Beliefs} {lev rd : Int} {g : Nat → Int} {k : Nat} (hk : b.Reasons.length ≤ k) : b.Reasons.any (comesR b lev rd g) = decide (0 < (comeL b lev rd g k).length) := by
  unfold comeL
  rw [List.take_of_length_le hk, List.length_map, Bool.eq_iff_iff, List.any_eq_true, decide_eq_true_eq, List.length_pos_iff_exists_mem]
  constructor
  · rintro ⟨r, hr, h⟩
    exact ⟨r, List.mem_filter.2 ⟨hr, h⟩⟩
  · rintro ⟨r, h⟩
    exact ⟨r, (List.mem_filter.1 h).1, (List.mem_filter.1 h).2⟩
theorem comeL_mem {b : Beliefs} {lev rd : Int} {g : Nat → Int} {k : Nat} (hk : b.Reasons.length ≤ k) (x : Nat) : (x : Int) ∈ comeL b lev rd g k ↔ comes b lev rd g x = true := by
  unfold comeL comes
  rw [List.take_of_length_le hk, List.mem_map, List.any_eq_true]
  constructor
  · rintro ⟨r, hr, e⟩
    refine ⟨r, (List.mem_filter.1 hr).1, ?_⟩
    rw [(List.mem_filter.1 hr).2, e]
    simp
  · rintro ⟨r, hr, h⟩
    simp only [Bool.and_eq_true, decide_eq_true_eq] at h
    exact ⟨r, List.mem_filter.2 ⟨hr, h.2⟩, h.1⟩
theorem comeL_rng {b : Beliefs} (ho : okB b = true) {lev rd : Int} {g : Nat → Int} {k j : Nat} {y : Int} (h : (comeL b lev rd g k)[j]? = some y) : 0 ≤ y ∧ y < b.Nodes := by
  have h := List.mem_of_getElem? h
  unfold comeL at h
  rw [List.mem_map] at h
  obtain ⟨r, hr, rfl⟩ := h
  exact isR_for (okB_m ho (List.mem_of_mem_take (List.mem_filter.1 hr).1))
theorem comesR_vec {b : Beliefs} {n : Nat} (hn : b.Nodes = n) (ho : okB b = true) {k : Nat} {r : Reason} (hr : b.Reasons[k]? = some r) {lev rd : Int} {g : Nat → Int} : comesR b lev rd g r = (decide (strat b r.For.toNat = lev) && decide (g r.For.toNat < 0) && supL r (vec n g) rd) := by
  unfold comesR
  rw [supL_vec (by rw [← hn]; exact okB_r ho hr)]
theorem upL_zero {g : Nat → Int} {rd : Int} {l : List Int} (x : Nat) : g x = if (x : Int) ∈ l.take 0 then rd else g x := by simp
theorem upL_step {g g' : Nat → Int} {rd y : Int} {l : List Int} {m : Nat} (hy : l[m]? = some y) (h0 : 0 ≤ y) (h : ∀ x : Nat, g' x = if (x : Int) ∈ l.take m then rd else g x) : ∀ x : Nat, upd g' y.toNat rd x = if (x : Int) ∈ l.take (m + 1) then rd else g x := by
  intro x
  unfold upd
  rw [take_snoc hy]
  by_cases e : x = y.toNat
  · rw [if_pos e, if_pos (by simp; right; omega)]
  · rw [if_neg e, h x]
    have : ((x : Int) ∈ l.take m ++ [y]) ↔ (x : Int) ∈ l.take m := by
      simp only [List.mem_append, List.mem_singleton]
      constructor
      · rintro (h | h)
        · exact h
        · omega
      · exact .inl
    by_cases hm : (x : Int) ∈ l.take m
    · rw [if_pos hm, if_pos (this.2 hm)]
    · rw [if_neg hm, if_neg (fun h => hm (this.1 h))]
theorem upL_done {b : Beliefs} {lev rd : Int} {g g' : Nat → Int} {l : List Int} {m : Nat} (hm : l.length ≤ m) (hl : ∀ x : Nat, (x : Int) ∈ l ↔ comes b lev rd g x = true) (h : ∀ x : Nat, g' x = if (x : Int) ∈ l.take m then rd else g x) : g' = upR b lev rd g := by
  funext x
  rw [h x, List.take_of_length_le hm]
  unfold upR
  by_cases hx : (x : Int) ∈ l
  · rw [if_pos hx, if_pos ((hl x).1 hx)]
  · rw [if_neg hx, if_neg (fun e => hx ((hl x).2 e))]

def fidx (p : Nat → Bool) (k : Nat) : List Int := ((List.range k).filter p).map (fun (i : Nat) => (i : Int))
theorem fidx_t {p : Nat → Bool} {k : Nat} (h : p k = true) : fidx p k ++ [(k : Int)] = fidx p (k + 1) := by
  unfold fidx
  rw [List.range_succ, List.filter_append, List.map_append]
  simp [h]
theorem fidx_f {p : Nat → Bool} {k : Nat} (h : p k = false) : fidx p k = fidx p (k + 1) := by
  unfold fidx
  rw [List.range_succ, List.filter_append, List.map_append]
  simp [h]
theorem fidx_len (p : Nat → Bool) (k : Nat) : (fidx p k).length ≤ k := by
  unfold fidx
  rw [List.length_map]
  exact Nat.le_trans (List.length_filter_le _ _) (by simp)
theorem fidx_mem {p : Nat → Bool} {k : Nat} {y : Int} : y ∈ fidx p k ↔ ∃ x : Nat, x < k ∧ p x = true ∧ y = x := by
  unfold fidx
  rw [List.mem_map]
  constructor
  · rintro ⟨x, hx, rfl⟩
    have := List.mem_filter.1 hx
    exact ⟨x, by simpa using this.1, this.2, rfl⟩
  · rintro ⟨x, hx, hp, rfl⟩
    exact ⟨x, List.mem_filter.2 ⟨by simpa using hx, hp⟩, rfl⟩
theorem fidx_congr {p q : Nat → Bool} {k : Nat} (h : ∀ x, x < k → p x = q x) : fidx p k = fidx q k := by
  unfold fidx
  congr 1
  apply List.filter_congr
  intro x hx
  exact h x (by simpa using hx)
def comesZ (b : Beliefs) (st : List Int) (s : Int) (l : List Int) (rd : Int) (x : Nat) : Bool := decide (atZ st x = s) && decide (atZ l x < 0) && b.Reasons.any (fun r => decide (r.For = (x : Int)) && supL r l rd)
theorem comesZ_n1 {b : Beliefs} {st l : List Int} {s rd z : Int} {x : Nat} (h : st[x]? = some z) (hz : z ≠ s) : comesZ b st s l rd x = false := by
  unfold comesZ
  rw [atZ_of h, decide_eq_false hz]; rfl
theorem comesZ_n2 {b : Beliefs} {st l : List Int} {s rd z : Int} {x : Nat} (h : l[x]? = some z) (hz : 0 ≤ z) : comesZ b st s l rd x = false := by
  unfold comesZ
  have : ¬ z < 0 := by omega
  rw [atZ_of h, decide_eq_false this]; simp
theorem comesZ_n3 {b : Beliefs} {st l : List Int} {s rd : Int} {x : Nat} (h : ∀ i, i < b.Reasons.length → ∀ r, b.Reasons[i]? = some r → (decide (r.For = (x : Int)) && supL r l rd) = false) : comesZ b st s l rd x = false := by
  unfold comesZ
  have : b.Reasons.any (fun r => decide (r.For = (x : Int)) && supL r l rd) = false := by
    rw [List.any_eq_false]
    intro r hr
    obtain ⟨i, hi⟩ := List.getElem?_of_mem hr
    rw [h i (lt_of_some hi) r hi]
    simp
  rw [this]; simp
theorem comesZ_y {b : Beliefs} {st l : List Int} {s rd z1 z2 : Int} {x k : Nat} {r : Reason} (h1 : st[x]? = some z1) (e1 : z1 = s) (h2 : l[x]? = some z2) (e2 : z2 < 0) (hr : b.Reasons[k]? = some r) (h3 : (decide (r.For = (x : Int)) && supL r l rd) = true) : comesZ b st s l rd x = true := by
  unfold comesZ
  rw [atZ_of h1, atZ_of h2, decide_eq_true e1, decide_eq_true e2]
  simp only [Bool.true_and]
  rw [List.any_eq_true]
  exact ⟨r, List.mem_of_getElem? hr, h3⟩
theorem comesZ_eq {b : Beliefs} {n : Nat} (hn : b.Nodes = n) (ho : okB b = true) {lev rd : Int} {g : Nat → Int} {x : Nat} (hx : x < n) : comesZ b (vec n (strat b)) lev (vec n g) rd x = comes b lev rd g x := by
  unfold comesZ comes
  rw [atZ_vec hx, atZ_vec hx, Bool.eq_iff_iff]
  simp only [Bool.and_eq_true, decide_eq_true_eq, List.any_eq_true, comesR]
  constructor
  · rintro ⟨⟨h1, h2⟩, r, hr, h3, h4⟩
    refine ⟨r, hr, h3, ⟨by rw [h3]; exact h1, by rw [h3]; exact h2⟩, ?_⟩
    rw [← supL_vec (n := n) (by rw [← hn]; exact okB_m ho hr)]; exact h4
  · rintro ⟨r, hr, h3, ⟨h1, h2⟩, h4⟩
    rw [h3] at h1 h2
    refine ⟨⟨h1, h2⟩, r, hr, h3, ?_⟩
    rw [supL_vec (n := n) (by rw [← hn]; exact okB_m ho hr)]; exact h4
noncomputable def comeF (b : Beliefs) (n : Nat) (lev rd : Int) (g : Nat → Int) : List Int := fidx (comes b lev rd g) n
theorem comeF_eq {b : Beliefs} {n : Nat} (hn : b.Nodes = n) (hst : isStrat b = true) {lev rd : Int} {g : Nat → Int} : fidx (comesZ b (strataOf b) lev (vec n g) rd) b.Nodes.toNat = comeF b n lev rd g := by
  have e : b.Nodes.toNat = n := by omega
  rw [strataOf_t hst, e]
  exact fidx_congr fun x hx => comesZ_eq hn (isB_ok2 (strat_b hst)) hx
theorem comeF_mem {b : Beliefs} {n : Nat} (hn : b.Nodes = n) (ho : okB b = true) {lev rd : Int} {g : Nat → Int} (x : Nat) : (x : Int) ∈ comeF b n lev rd g ↔ comes b lev rd g x = true := by
  unfold comeF
  rw [fidx_mem]
  constructor
  · rintro ⟨y, _, hp, e⟩
    have : x = y := by omega
    rw [this]; exact hp
  · intro h
    obtain ⟨r, hr, e, _⟩ := comes_parts h
    have := isR_for (okB_m ho hr)
    exact ⟨x, by omega, h, rfl⟩
theorem comeF_any {b : Beliefs} {n : Nat} (hn : b.Nodes = n) (ho : okB b = true) {lev rd : Int} {g : Nat → Int} : b.Reasons.any (comesR b lev rd g) = decide (0 < (comeF b n lev rd g).length) := by
  rw [Bool.eq_iff_iff, List.any_eq_true, decide_eq_true_eq, List.length_pos_iff_exists_mem]
  constructor
  · rintro ⟨r, hr, h⟩
    exact ⟨_, (comeF_mem hn ho _).2 (comes_of ho hr h).1⟩
  · rintro ⟨y, h⟩
    unfold comeF at h
    obtain ⟨x, _, hp, _⟩ := fidx_mem.1 h
    obtain ⟨r, hr, _, hc, _⟩ := comes_parts hp
    exact ⟨r, hr, hc⟩
theorem comeF_rng {b : Beliefs} {n j : Nat} {lev rd : Int} {g : Nat → Int} {y : Int} (h : (comeF b n lev rd g)[j]? = some y) : 0 ≤ y ∧ y < n := by
  obtain ⟨x, hx, _, e⟩ := fidx_mem.1 (List.mem_of_getElem? h)
  omega
noncomputable def roundsOf (b : Beliefs) : List Int := if isStrat b then vec b.Nodes.toNat (rnds b) else []
theorem roundsOf_t {b : Beliefs} (h : isStrat b = true) : roundsOf b = vec b.Nodes.toNat (rnds b) := by unfold roundsOf; rw [if_pos h]
theorem roundsOf_f {b : Beliefs} (h : isStrat b = false) : [] = roundsOf b := by unfold roundsOf; rw [h]; rfl
theorem roundsOf_len {b : Beliefs} : (roundsOf b).length ≤ 24 := by
  cases h : isStrat b with
  | false => rw [← roundsOf_f h]; simp
  | true =>
    rw [roundsOf_t h, vec_len]
    have := isBeliefs_nodes (strat_b h)
    omega
theorem strataOf_n {b : Beliefs} (h : isStrat b = true) : (strataOf b).length = b.Nodes.toNat := by rw [strataOf_t h, vec_len]

theorem sup_n1 {r : Reason} {x rd : Int} {l : List Int} (h : r.For ≠ x) : (decide (r.For = x) && supL r l rd) = false := by rw [decide_eq_false h]; rfl
theorem sup_n2 {r : Reason} {x rd : Int} {l : List Int} (h : r.In.all (befL l rd) = false) : (decide (r.For = x) && supL r l rd) = false := by unfold supL; rw [h]; simp
theorem sup_n3 {r : Reason} {x rd : Int} {l : List Int} (h : r.Out.all (nonL l) = false) : (decide (r.For = x) && supL r l rd) = false := by unfold supL; rw [h]; simp
theorem sup_yes {r : Reason} {x rd : Int} {l : List Int} (h : r.For = x) (h1 : r.In.all (befL l rd) = true) (h2 : r.Out.all (nonL l) = true) : (decide (r.For = x) && supL r l rd) = true := by unfold supL; rw [h1, h2, decide_eq_true h]; rfl
section
variable {b : Beliefs} {n : Nat} {k : Nat} {r : Reason} {lev rd : Int} {g : Nat → Int}
theorem comesR_t (hn : b.Nodes = n) (ho : okB b = true) (hr : b.Reasons[k]? = some r) (h1 : strat b r.For.toNat = lev) (h2 : g r.For.toNat < 0) (h3 : supL r (vec n g) rd = true) : comesR b lev rd g r = true := by
  rw [comesR_vec hn ho hr, h3, decide_eq_true h1, decide_eq_true h2]; rfl
theorem comesR_f1 (h1 : strat b r.For.toNat ≠ lev) : comesR b lev rd g r = false := by
  unfold comesR
  rw [decide_eq_false h1]; rfl
theorem comesR_f2 (h1 : ¬ g r.For.toNat < 0) : comesR b lev rd g r = false := by
  unfold comesR
  rw [decide_eq_false h1]; simp
theorem comesR_f3 (hn : b.Nodes = n) (ho : okB b = true) (hr : b.Reasons[k]? = some r) (h3 : supL r (vec n g) rd = false) : comesR b lev rd g r = false := by
  rw [comesR_vec hn ho hr, h3]; simp
end
theorem rep_snoc (i : Nat) (z : Int) : List.replicate i z ++ [z] = List.replicate (i + 1) z := List.replicate_succ'.symm
end Go.Sy

namespace Go.Sy

def firstI {α : Type} (p : α → Bool) : List α → Nat → Int
  | [], _ => -1
  | x :: l, k => if p x then (k : Int) else firstI p l (k + 1)
theorem firstI_y {α : Type} {p : α → Bool} : ∀ {l : List α} {k q : Nat} {x : α}, (∀ i, i < k → ∀ y, l[i]? = some y → p y = false) → l[k]? = some x → p x = true → firstI p l q = ((q + k : Nat) : Int)
  | [], _, _, _, _, h, _ => by simp at h
  | z :: l, 0, q, x, _, h, hp => by
    simp only [List.getElem?_cons_zero, Option.some.injEq] at h
    subst h
    unfold firstI
    rw [if_pos hp]; rfl
  | z :: l, k + 1, q, x, hb, h, hp => by
    have h0 := hb 0 (by omega) z rfl
    unfold firstI
    rw [if_neg (by simp [h0])]
    rw [firstI_y (k := k) (x := x) (fun i hi y hy => hb (i + 1) (by omega) y (by simpa using hy)) (by simpa using h) hp]
    congr 1
    omega
theorem firstI_n {α : Type} {p : α → Bool} : ∀ {l : List α} {q : Nat}, (∀ i, i < l.length → ∀ y, l[i]? = some y → p y = false) → firstI p l q = -1
  | [], _, _ => rfl
  | z :: l, q, hb => by
    have h0 := hb 0 (by simp) z rfl
    unfold firstI
    rw [if_neg (by simp [h0])]
    exact firstI_n (fun i hi y hy => hb (i + 1) (by simp; omega) y (by simpa using hy))
theorem firstI_cases {α : Type} (p : α → Bool) : ∀ (l : List α) (q : Nat), firstI p l q = -1 ∨ ∃ k x, l[k]? = some x ∧ p x = true ∧ firstI p l q = ((q + k : Nat) : Int)
  | [], _ => .inl rfl
  | z :: l, q => by
    unfold firstI
    by_cases h : p z = true
    · rw [if_pos h]
      exact .inr ⟨0, z, rfl, h, rfl⟩
    · rw [if_neg h]
      rcases firstI_cases p l (q + 1) with h | ⟨k, x, h1, h2, h3⟩
      · exact .inl h
      · exact .inr ⟨k + 1, x, by simpa using h1, h2, by rw [h3]; congr 1; omega⟩

def hasFor (l : List Int) (x : Int) (r : Reason) : Bool := decide (r.For = x) && supL r l (atZ l x.toNat)
def suppL (b : Beliefs) (l : List Int) (x : Int) : Int := if 0 ≤ x ∧ x < b.Nodes ∧ 0 ≤ atZ l x.toNat then firstI (hasFor l x) b.Reasons 0 else -1
theorem supp_n1 {b : Beliefs} {l : List Int} {x : Int} (h : ¬ (0 ≤ x ∧ x < b.Nodes)) : -1 = suppL b l x := by
  unfold suppL
  rw [if_neg (fun h2 => h ⟨h2.1, h2.2.1⟩)]
theorem supp_n2 {b : Beliefs} {l : List Int} {x z : Int} (hz : l[x.toNat]? = some z) (h : z < 0) : -1 = suppL b l x := by
  unfold suppL
  rw [atZ_of hz, if_neg (by omega)]
theorem supp_y {b : Beliefs} {l : List Int} {x z : Int} {k : Nat} {r : Reason} (h0 : 0 ≤ x ∧ x < b.Nodes) (hz : l[x.toNat]? = some z) (h : 0 ≤ z) (hb : ∀ i, i < k → ∀ r, b.Reasons[i]? = some r → hasFor l x r = false) (hr : b.Reasons[k]? = some r) (hp : hasFor l x r = true) : (k : Int) = suppL b l x := by
  unfold suppL
  rw [atZ_of hz, if_pos (by omega), firstI_y hb hr hp]
  congr 1
  omega
theorem supp_n3 {b : Beliefs} {l : List Int} {x : Int} (hb : ∀ i, i < b.Reasons.length → ∀ r, b.Reasons[i]? = some r → hasFor l x r = false) : -1 = suppL b l x := by
  unfold suppL
  rw [firstI_n hb]
  split <;> rfl
theorem hasFor_t {l : List Int} {x z : Int} {r : Reason} (hz : l[x.toNat]? = some z) (h : r.For = x) (hs : supL r l z = true) : hasFor l x r = true := by
  unfold hasFor
  rw [atZ_of hz, hs, decide_eq_true h]; rfl
theorem hasFor_f1 {l : List Int} {x : Int} {r : Reason} (h : r.For ≠ x) : hasFor l x r = false := by
  unfold hasFor
  rw [decide_eq_false h]; rfl
theorem hasFor_f2 {l : List Int} {x z : Int} {r : Reason} (hz : l[x.toNat]? = some z) (h : supL r l z = false) : hasFor l x r = false := by
  unfold hasFor
  rw [atZ_of hz, h]; simp
theorem supL_p1 {r : Reason} {l : List Int} {rd : Int} (h : r.In.all (befL l rd) = false) : supL r l rd = false := by unfold supL; rw [h]; rfl
theorem supL_p2 {r : Reason} {l : List Int} {rd : Int} (h : r.Out.all (nonL l) = false) : supL r l rd = false := by unfold supL; rw [h]; simp
theorem supL_p3 {r : Reason} {l : List Int} {rd : Int} (h : r.In.all (befL l rd) = true) (h2 : r.Out.all (nonL l) = true) : supL r l rd = true := by unfold supL; rw [h, h2]; rfl
noncomputable def suppOf (b : Beliefs) (x : Int) : Int := if isStrat b then suppL b (roundsOf b) x else -1
theorem suppOf_f {b : Beliefs} {x : Int} (h : isStrat b = false) : -1 = suppOf b x := by unfold suppOf; rw [h]; rfl
theorem suppOf_t {b : Beliefs} {x : Int} (h : isStrat b = true) : suppL b (roundsOf b) x = suppOf b x := by unfold suppOf; rw [if_pos h]
theorem roundsOf_n {b : Beliefs} (h : isStrat b = true) : (roundsOf b).length = b.Nodes.toNat := by rw [roundsOf_t h, vec_len]
theorem roundsOf_in {b : Beliefs} {x : Int} (h : inR x 0 (((roundsOf b).length : Int) - 1) = true) : isStrat b = true ∧ 0 ≤ x ∧ x < b.Nodes ∧ (roundsOf b).length = b.Nodes.toNat := by
  have h2 := inR_t h
  cases hs : isStrat b with
  | false => rw [← roundsOf_f hs] at h2; simp at h2; omega
  | true =>
    have := roundsOf_n hs
    have := isBeliefs_nodes (strat_b hs)
    exact ⟨rfl, by omega, by omega, by assumption⟩
theorem roundsOf_out {b : Beliefs} {x : Int} (h : inR x 0 (((roundsOf b).length : Int) - 1) = false) : -1 = suppOf b x := by
  have h2 := inR_f h
  cases hs : isStrat b with
  | false => exact suppOf_f hs
  | true =>
    rw [← suppOf_t hs]
    refine supp_n1 ?_
    have := roundsOf_n hs
    have := isBeliefs_nodes (strat_b hs)
    omega
theorem suppL_rng (b : Beliefs) (l : List Int) (x : Int) : suppL b l x = -1 ∨ ∃ (k : Nat) (r : Reason), suppL b l x = (k : Int) ∧ b.Reasons[k]? = some r ∧ hasFor l x r = true ∧ 0 ≤ x ∧ x < b.Nodes ∧ 0 ≤ atZ l x.toNat := by
  unfold suppL
  split
  · rename_i h
    rcases firstI_cases (hasFor l x) b.Reasons 0 with h1 | ⟨k, r, h1, h2, h3⟩
    · exact .inl h1
    · refine .inr ⟨k, r, by rw [h3]; congr 1; omega, h1, h2, h⟩
  · exact .inl rfl

/-! ### labels -/
noncomputable def lbs (b : Beliefs) : Nat → Bool := nn (rnds b)
theorem vec_snoc {α : Type} (k : Nat) (g : Nat → α) : vec k g ++ [g k] = vec (k + 1) g := by
  unfold vec
  rw [List.range_succ, List.map_append]; rfl
noncomputable def labelsOf (b : Beliefs) : List Bool := if isStrat b then vec b.Nodes.toNat (lbs b) else []
theorem labelsOf_f {b : Beliefs} (h : isStrat b = false) : [] = labelsOf b := by unfold labelsOf; rw [h]; rfl
theorem labelsOf_t {b : Beliefs} (h : isStrat b = true) : labelsOf b = vec b.Nodes.toNat (lbs b) := by unfold labelsOf; rw [if_pos h]
theorem labelsOf_len {b : Beliefs} : (labelsOf b).length ≤ 24 := by
  cases h : isStrat b with
  | false => rw [← labelsOf_f h]; simp
  | true =>
    rw [labelsOf_t h, vec_len]
    have := isBeliefs_nodes (strat_b h)
    omega
def lbL (l : List Int) (k : Nat) : List Bool := vec k (fun x => decide (0 ≤ atZ l x))
theorem lbL_step {l : List Int} {k : Nat} {z : Int} (h : l[k]? = some z) : lbL l k ++ [decide (0 ≤ z)] = lbL l (k + 1) := by
  unfold lbL
  rw [← vec_snoc, atZ_of h]
theorem lbL_len (l : List Int) (k : Nat) : (lbL l k).length = k := vec_len _ _
theorem lbL_done {b : Beliefs} {k : Nat} (h : k = (roundsOf b).length) : lbL (roundsOf b) k = labelsOf b := by
  subst h
  cases hs : isStrat b with
  | false => rw [← labelsOf_f hs, ← roundsOf_f hs]; rfl
  | true =>
    rw [labelsOf_t hs, roundsOf_t hs]
    unfold lbL
    rw [vec_len]
    exact vec_congr fun x hx => by rw [atZ_vec hx]; rfl
end Go.Sy

namespace Go.Sy

/-! ### marks of bools -/
def fBo (k : Int) (_ : Bool) : Bool := (Int.tmod k 3 == 0)
def cBo (_ : Bool) : Nat := 1
abbrev mkBo (k : Int) (l : List Bool) : List Bool := mapS fBo cBo k l
theorem sumBo (l : List Bool) : sumC cBo l = l.length := by
  induction l with
  | nil => rfl
  | cons x l ih => simp only [sumC, List.map_cons, List.sum_cons, cBo, List.length_cons] at ih ⊢; omega
theorem mkBo_set {a : List Bool} {k kk : Int} {i : Nat} (h : i < a.length) (hk : kk = k + i) : (mapAt fBo cBo k a i).set i (Int.tmod kk 3 == 0) = mapAt fBo cBo k a (i + 1) := by
  have hx : a[i]? = some a[i] := by simp [h]
  rw [← mapAt_set (f := fBo) (c := cBo) (k := k) (Nat.le_of_lt h) (by rw [mapAt_get (Nat.le_of_lt h)]; exact hx)]
  simp only [fBo, sumBo, List.length_take, Nat.min_eq_left (Nat.le_of_lt h), hk]
theorem mkBo_fix {a : List Bool} {k : Int} {x : Bool} {i : Nat} (h : a = mkBo k a) (hx : a[i]? = some x) : x = (Int.tmod (k + i) 3 == 0) := by
  have := mapS_fix h hx
  simp only [fBo, sumBo, List.length_take, Nat.min_eq_left (Nat.le_of_lt (List.getElem?_eq_some_iff.1 hx).1)] at this
  exact this
theorem mkBo_idem (k : Int) (l : List Bool) : mkBo k l = mkBo k (mkBo k l) := (mapS_idem (f := fBo) (c := cBo) (fun _ _ => rfl) (fun _ _ => rfl) l k).symm

/-! ### fewer reasons -/
def Sub (c b : Beliefs) : Prop := c.Nodes = b.Nodes ∧ c.Reasons.length ≤ b.Reasons.length ∧ ∀ r ∈ c.Reasons, r ∈ b.Reasons
theorem dropR_sub (b : Beliefs) (l : List Int) : Sub (dropR b l) b := ⟨rfl, keep_len _ _, fun _ h => keep_mem h⟩
theorem Sub.ok {c b : Beliefs} (h : Sub c b) (ho : okB b = true) : okB c = true := by
  simp only [okB, Bool.and_eq_true, List.all_eq_true] at ho ⊢
  rw [h.1]
  exact ⟨ho.1, fun r hr => ho.2 r (h.2.2 r hr)⟩
theorem Sub.isB {c b : Beliefs} (h : Sub c b) (ho : isBeliefs b = true) : isBeliefs c = true := by
  simp only [isBeliefs, Bool.and_eq_true, List.all_eq_true, decide_eq_true_eq] at ho ⊢
  rw [h.1]
  exact ⟨⟨ho.1.1, Nat.le_trans h.2.1 ho.1.2⟩, fun r hr => ho.2 r (h.2.2 r hr)⟩
theorem Sub.sol {c b : Beliefs} (h : Sub c b) (hs : HasSol b) : HasSol c := by
  obtain ⟨s, h1, h2⟩ := hs
  exact ⟨s, ⟨h1.1, fun r hr => h1.2 r (h.2.2 r hr)⟩, fun x hx => by rw [h.1] at hx ⊢; exact h2 x hx⟩
theorem Sub.edge {c b : Beliefs} (h : Sub c b) {x y : Nat} (he : edge c x y = true) : edge b x y = true := by
  unfold Sy.edge at he ⊢
  rw [List.any_eq_true] at he ⊢
  obtain ⟨r, hr, he⟩ := he
  exact ⟨r, h.2.2 r hr, he⟩
theorem Sub.dep {c b : Beliefs} (h : Sub c b) {x y : Nat} (hd : dep c x y = true) : dep b x y = true := by
  rw [dep_iff] at hd ⊢
  unfold Dep at hd ⊢
  induction hd with
  | single e => exact .single (h.edge e)
  | tail _ e ih => exact .tail ih (h.edge e)
theorem Sub.strat {c b : Beliefs} (h : Sub c b) (hs : isStrat b = true) : isStrat c = true := by
  have hb := h.isB (strat_b hs)
  simp only [isStrat, Bool.and_eq_true, List.all_eq_true] at hs ⊢
  refine ⟨hb, fun r hr => ?_⟩
  have h1 := hs.2 r (h.2.2 r hr)
  simp only [stR, List.all_eq_true, stY, Bool.not_eq_true', Bool.or_eq_false_iff] at h1 ⊢
  intro y hy
  refine ⟨(h1 y hy).1, ?_⟩
  rw [Bool.eq_false_iff]
  intro e
  have := h.dep e
  rw [(h1 y hy).2] at this
  cases this

/-! ### filters -/
def filtT {α : Type} (p : α → Bool) (l : List α) (k : Nat) : List α := (l.take k).filter p
theorem filtT_t {α : Type} {p : α → Bool} {l : List α} {k : Nat} {x : α} (h : l[k]? = some x) (hp : p x = true) : filtT p l k ++ [x] = filtT p l (k + 1) := by
  unfold filtT
  rw [take_snoc h, List.filter_append]
  simp [hp]
theorem filtT_f {α : Type} {p : α → Bool} {l : List α} {k : Nat} {x : α} (h : l[k]? = some x) (hp : p x = false) : filtT p l k = filtT p l (k + 1) := by
  unfold filtT
  rw [take_snoc h, List.filter_append]
  simp [hp]
theorem filtT_len {α : Type} (p : α → Bool) (l : List α) (k : Nat) : (filtT p l k).length ≤ k := by
  unfold filtT
  exact Nat.le_trans (List.length_filter_le _ _) (by rw [List.length_take]; omega)
theorem filtT_done {α : Type} {p : α → Bool} {l : List α} {k : Nat} (h : l.length ≤ k) : filtT p l k = l.filter p := by
  unfold filtT
  rw [List.take_of_length_le h]

def inL (l : List Bool) (x : Int) : Bool := decide (0 ≤ x) && (l[x.toNat]?).getD false
theorem inL_of {l : List Bool} {x : Int} {v : Bool} (h0 : 0 ≤ x) (h : l[x.toNat]? = some v) : inL l x = v := by
  unfold inL
  rw [h, decide_eq_true h0]; rfl
theorem inL_out {l : List Bool} {x : Int} (h : inR x 0 ((l.length : Int) - 1) = false) : inL l x = false := by
  have := inR_f h
  unfold inL
  by_cases h0 : 0 ≤ x
  · rw [List.getElem?_eq_none (by omega)]; simp
  · rw [decide_eq_false h0]; rfl
noncomputable def badL (b : Beliefs) (bad : List Int) : List Int := bad.filter (fun x => lbs b x.toNat)
theorem badL_len (b : Beliefs) (bad : List Int) : (badL b bad).length ≤ bad.length := List.length_filter_le _ _
theorem badL_eq {b : Beliefs} {bad : List Int} (hs : isStrat b = true) (ha : asc bad b.Nodes = true) : bad.filter (inL (labelsOf b)) = badL b bad := by
  unfold badL
  apply List.filter_congr
  intro x hx
  have := asc_m ha hx
  rw [labelsOf_t hs]
  exact inL_of this.1 (vec_get (by omega))
theorem case_s {b : Beliefs} {bad free : List Int} (h : isCase b bad free = true) : isStrat b = true := by
  simp only [isCase, Bool.and_eq_true] at h
  exact h.1.1.1.1
theorem case_a {b : Beliefs} {bad free : List Int} (h : isCase b bad free = true) : asc bad b.Nodes = true := by
  simp only [isCase, Bool.and_eq_true] at h
  exact h.1.1.1.2
theorem case_fl {b : Beliefs} {bad free : List Int} (h : isCase b bad free = true) : free.length ≤ 8 := by
  simp only [isCase, Bool.and_eq_true, decide_eq_true_eq] at h
  exact h.1.1.2
theorem case_fa {b : Beliefs} {bad free : List Int} (h : isCase b bad free = true) : asc free b.Reasons.length = true := by
  simp only [isCase, Bool.and_eq_true] at h
  exact h.1.2
theorem case_bl {b : Beliefs} {bad free : List Int} (h : isCase b bad free = true) : bad.length ≤ 24 := by
  have h1 := asc_len (case_a h)
  have h2 := isBeliefs_nodes (strat_b (case_s h))
  omega
noncomputable def clashes (b : Beliefs) (bad : List Int) : List Int := if isCase b bad [] then badL b bad else []
theorem clashes_f {b : Beliefs} {bad : List Int} (h : isCase b bad [] = false) : [] = clashes b bad := by unfold clashes; rw [h]; rfl
theorem clashes_t {b : Beliefs} {bad : List Int} (h : isCase b bad [] = true) : badL b bad = clashes b bad := by unfold clashes; rw [if_pos h]
theorem clashes_w {b : Beliefs} {bad : List Int} (h : isCase b bad [] = true) : bad.filter (inL (labelsOf b)) = clashes b bad := by rw [badL_eq (case_s h) (case_a h), clashes_t h]
theorem clashes_len (b : Beliefs) (bad : List Int) : (clashes b bad).length ≤ 24 := by
  cases h : isCase b bad [] with
  | false => rw [← clashes_f h]; simp
  | true =>
    rw [← clashes_t h]
    exact Nat.le_trans (badL_len _ _) (case_bl h)

/-! ### consequences -/
noncomputable def dif (b c : Beliefs) (x : Nat) : Bool := !(lbs b x == lbs c x)
noncomputable def conseq (b : Beliefs) (k : Int) : List Int := if isStrat b then fidx (dif b (dropR b [k])) b.Nodes.toNat else []
theorem conseq_f {b : Beliefs} {k : Int} (h : isStrat b = false) : [] = conseq b k := by unfold conseq; rw [h]; rfl
theorem conseq_t {b : Beliefs} {k : Int} (h : isStrat b = true) : fidx (dif b (dropR b [k])) b.Nodes.toNat = conseq b k := by unfold conseq; rw [if_pos h]
theorem conseq_len (b : Beliefs) (k : Int) : (conseq b k).length ≤ 24 := by
  cases h : isStrat b with
  | false => rw [← conseq_f h]; simp
  | true =>
    rw [← conseq_t h]
    have := isBeliefs_nodes (strat_b h)
    exact Nat.le_trans (fidx_len _ _) (by omega)
def atB (l : List Bool) (x : Nat) : Bool := (l[x]?).getD false
theorem atB_of {l : List Bool} {x : Nat} {v : Bool} (h : l[x]? = some v) : atB l x = v := by simp [atB, h]
def difL (x y : List Bool) (i : Nat) : Bool := !(atB x i == atB y i)
theorem difL_of {x y : List Bool} {i : Nat} {u v c : Bool} (hu : x[i]? = some u) (hv : y[i]? = some v) (h : (!(u == v)) = c) : difL x y i = c := by
  unfold difL
  rw [atB_of hu, atB_of hv]; exact h
theorem conseq_w {b : Beliefs} {k : Int} {i : Nat} (hi : ¬ (i < (labelsOf b).length ∧ i < (labelsOf (dropR b [k])).length)) (hi2 : i ≤ (labelsOf b).length) (hi3 : i ≤ (labelsOf (dropR b [k])).length) : fidx (difL (labelsOf b) (labelsOf (dropR b [k]))) i = conseq b k := by
  cases h : isStrat b with
  | false =>
    have e := labelsOf_f h
    rw [← e] at hi2
    have : i = 0 := by simpa using hi2
    subst this
    rw [← conseq_f h]; rfl
  | true =>
    have hd := (dropR_sub b [k]).strat h
    simp only [labelsOf_t h, labelsOf_t hd] at hi hi2 hi3 ⊢
    rw [vec_len, vec_len] at hi
    rw [vec_len] at hi2 hi3
    have en : (dropR b [k]).Nodes = b.Nodes := rfl
    rw [en] at hi hi3 ⊢
    have : i = b.Nodes.toNat := by omega
    subst this
    rw [← conseq_t h]
    refine fidx_congr fun x hx => ?_
    unfold difL dif
    rw [atB_of (vec_get hx), atB_of (vec_get hx)]
end Go.Sy

namespace Go.Sy

def lI (l : List Bool) (y : Int) : Bool := atB l y.toNat
def lO (l : List Bool) (y : Int) : Bool := !(atB l y.toNat)
def holdsL (r : Reason) (l : List Bool) : Bool := r.In.all (lI l) && r.Out.all (lO l)
theorem lI_of {l : List Bool} {y : Int} {v : Bool} (h : l[y.toNat]? = some v) : lI l y = v := atB_of h
theorem lO_of {l : List Bool} {y : Int} {v : Bool} (h : l[y.toNat]? = some v) : lO l y = !v := by unfold lO; rw [atB_of h]
theorem holds_in {r : Reason} {l : List Bool} {k : Nat} {y : Int} (hy : r.In[k]? = some y) (h : lI l y = false) : false = holdsL r l := by unfold holdsL; rw [all_bad (p := lI l) hy h]; rfl
theorem holds_out {r : Reason} {l : List Bool} {k : Nat} {y : Int} (hy : r.Out[k]? = some y) (h : lO l y = false) : false = holdsL r l := by unfold holdsL; rw [all_bad (p := lO l) hy h]; simp
theorem holds_y {r : Reason} {l : List Bool} (h1 : ∀ i, i < r.In.length → ∀ y, r.In[i]? = some y → lI l y = true) (h2 : ∀ i, i < r.Out.length → ∀ y, r.Out[i]? = some y → lO l y = true) : true = holdsL r l := by
  unfold holdsL
  rw [all_of_idx h1, all_of_idx h2]; rfl

inductive Pl (b : Beliefs) (l : List Bool) : Nat → Prop
  | mk (r : Reason) : r ∈ b.Reasons → holdsL r l = true → (∀ y ∈ r.In, Pl b l y.toNat) → Pl b l r.For.toNat
def LabA (b : Beliefs) (l : List Bool) : Prop := ∀ r ∈ b.Reasons, holdsL r l = true → atB l r.For.toNat = true
noncomputable def dcd (p : Prop) : Bool := @decide p (Classical.propDecidable p)
theorem dcd_t {p : Prop} (h : p) : dcd p = true := @decide_eq_true p (Classical.propDecidable p) h
theorem dcd_f {p : Prop} (h : ¬ p) : dcd p = false := @decide_eq_false p (Classical.propDecidable p) h
theorem dcd_iff {p : Prop} : dcd p = true ↔ p := @decide_eq_true_iff p (Classical.propDecidable p)
noncomputable def isLab (b : Beliefs) (l : List Bool) : Bool := isBeliefs b && decide ((l.length : Int) = b.Nodes) && dcd (LabA b l) && dcd (∀ x : Nat, (x : Int) < b.Nodes → atB l x = true → Pl b l x)
theorem lab_n1 {b : Beliefs} {l : List Bool} (h : isBeliefs b = false) : false = isLab b l := by simp [isLab, h]
theorem lab_n2 {b : Beliefs} {l : List Bool} (h : (l.length : Int) ≠ b.Nodes) : false = isLab b l := by simp [isLab, h]
theorem lab_n3 {b : Beliefs} {l : List Bool} {k : Nat} {r : Reason} (hr : b.Reasons[k]? = some r) (h : holdsL r l = true) {v : Bool} (hv : l[r.For.toNat]? = some v) (h2 : v = false) : false = isLab b l := by
  have : ¬ LabA b l := fun ha => by
    have := ha r (List.mem_of_getElem? hr) h
    rw [atB_of hv, h2] at this
    cases this
  simp [isLab, dcd_f this]
theorem lab_n4 {b : Beliefs} {l : List Bool} {x : Nat} (hx : (x : Int) < b.Nodes) (h : atB l x = true) (hp : ¬ Pl b l x) : false = isLab b l := by
  have : ¬ ∀ x : Nat, (x : Int) < b.Nodes → atB l x = true → Pl b l x := fun ha => hp (ha x hx h)
  simp only [isLab, dcd_f this, Bool.and_false]
theorem lab_y {b : Beliefs} {l : List Bool} (h1 : isBeliefs b = true) (h2 : (l.length : Int) = b.Nodes) (h3 : LabA b l) (h4 : ∀ x : Nat, (x : Int) < b.Nodes → atB l x = true → Pl b l x) : true = isLab b l := by
  simp only [isLab, h1, decide_eq_true h2, dcd_t h3, dcd_t h4, Bool.and_self]

def LabS (b : Beliefs) (l : List Bool) (g : Nat → Bool) : Prop := ∀ x, g x = true → Pl b l x
def LabR (l : List Bool) (g g2 : Nat → Bool) (r : Reason) : Prop := holdsL r l = true → (∀ y ∈ r.In, g y.toNat = true) → g2 r.For.toNat = true
def LabC (b : Beliefs) (l : List Bool) (g : Nat → Bool) : Prop := ∀ r ∈ b.Reasons, LabR l g g r
theorem LabC.all {b : Beliefs} {l : List Bool} {g : Nat → Bool} (h : LabC b l g) : ∀ x, Pl b l x → g x = true := by
  intro x hx
  induction hx with
  | mk r hr hh _ ih => exact h r hr hh ih
theorem LabS.zero (b : Beliefs) (l : List Bool) : LabS b l (fun _ => false) := fun x h => by cases h
theorem LabS.set {b : Beliefs} {l : List Bool} {g : Nat → Bool} (h : LabS b l g) {x : Nat} {v : Bool} (hv : v = true → Pl b l x) : LabS b l (upd g x v) := by
  intro y hy
  unfold upd at hy
  split at hy
  · rename_i e; subst e; exact hv hy
  · exact h y hy
theorem all_vec {n : Nat} {g : Nat → Bool} {l : List Int} (ha : asc l (n : Int) = true) (h : l.all (lI (vec n g)) = true) : ∀ y ∈ l, g y.toNat = true := by
  intro y hy
  rw [List.all_eq_true] at h
  have := h y hy
  have h2 := asc_m ha hy
  unfold lI at this
  rwa [atB_of (vec_get (by omega))] at this
theorem not_all_vec {n : Nat} {g : Nat → Bool} {l : List Int} (ha : asc l (n : Int) = true) (h : l.all (lI (vec n g)) = false) : ¬ ∀ y ∈ l, g y.toNat = true := by
  intro hall
  rw [List.all_eq_false] at h
  obtain ⟨y, hy, h⟩ := h
  apply h
  have h2 := asc_m ha hy
  unfold lI
  rw [atB_of (vec_get (by omega))]
  exact hall y hy
theorem Pl.of {b : Beliefs} {l : List Bool} {g : Nat → Bool} {n k : Nat} {r : Reason} (hs : LabS b l g) (hr : b.Reasons[k]? = some r) (hh : holdsL r l = true) (ha : asc r.In (n : Int) = true) (hi : r.In.all (lI (vec n g)) = true) : Pl b l r.For.toNat :=
  .mk r (List.mem_of_getElem? hr) hh (fun y hy => hs _ (all_vec ha hi y hy))

def LabE (b : Beliefs) (l : List Bool) (g g2 : Nat → Bool) (more : Bool) (k n : Nat) : Prop :=
  cnt n g ≤ cnt n g2 ∧ (more = true → cnt n g + 1 ≤ cnt n g2) ∧ (more = false → g2 = g ∧ ∀ i r, i < k → b.Reasons[i]? = some r → LabR l g g r)
theorem LabE.zero (b : Beliefs) (l : List Bool) (g : Nat → Bool) (n : Nat) : LabE b l g g false 0 n := ⟨Nat.le_refl _, (fun h => by simp at h), fun _ => ⟨rfl, fun i r hi => absurd hi (Nat.not_lt_zero i)⟩⟩
theorem LabE.up {b : Beliefs} {l : List Bool} {g g2 : Nat → Bool} {more : Bool} {k n x : Nat} (h : LabE b l g g2 more k n) (hx : x < n) (h1 : g2 x = false) (m : Nat) : LabE b l g (upd g2 x true) true m n := by
  have e := cnt_upd hx h1
  exact ⟨by have := h.1; omega, (fun _ => by have := h.1; omega), (fun e => by simp at e)⟩
theorem LabE.keep {b : Beliefs} {l : List Bool} {g g2 : Nat → Bool} {more : Bool} {k n : Nat} {r : Reason} (h : LabE b l g g2 more k n) (hr : b.Reasons[k]? = some r) (hk : LabR l g2 g2 r) : LabE b l g g2 more (k + 1) n := by
  refine ⟨h.1, h.2.1, fun e => ?_⟩
  obtain ⟨e2, h3⟩ := h.2.2 e
  refine ⟨e2, fun i r' hi hr' => ?_⟩
  by_cases hik : i = k
  · subst hik
    rw [hr] at hr'
    simp only [Option.some.injEq] at hr'
    subst hr'
    rw [← e2]; exact hk
  · exact h3 i r' (by omega) hr'
theorem LabE.clo {b : Beliefs} {l : List Bool} {g g2 : Nat → Bool} {more : Bool} {k n : Nat} (h : LabE b l g g2 more k n) (hk : b.Reasons.length ≤ k) : more = false → LabC b l g2 := by
  intro e r hr
  obtain ⟨e2, h3⟩ := h.2.2 e
  obtain ⟨i, hi⟩ := List.getElem?_of_mem hr
  rw [e2]
  exact h3 i r (by have := lt_of_some hi; omega) hi
theorem labR_1 {b : Beliefs} {l : List Bool} {g : Nat → Bool} {k : Nat} {r : Reason} {v : Bool} (ha : LabA b l) (hr : b.Reasons[k]? = some r) (hv : l[r.For.toNat]? = some v) (h : v = false) : LabR l g g r := fun hh _ => by
  have := ha r (List.mem_of_getElem? hr) hh
  rw [atB_of hv, h] at this
  cases this
theorem labR_2 {l : List Bool} {g : Nat → Bool} {r : Reason} (h : g r.For.toNat = true) : LabR l g g r := fun _ _ => h
theorem labR_3 {l : List Bool} {g g2 : Nat → Bool} {r : Reason} (h : holdsL r l = false) : LabR l g g2 r := fun hh => by rw [h] at hh; cases hh
theorem labR_4 {l : List Bool} {g g2 : Nat → Bool} {r : Reason} {n : Nat} (ha : asc r.In (n : Int) = true) (h : r.In.all (lI (vec n g)) = false) : LabR l g g2 r := fun _ hi => absurd hi (not_all_vec ha h)
theorem labA_of {b : Beliefs} {l : List Bool} (h : ∀ i, i < b.Reasons.length → ∀ r, b.Reasons[i]? = some r → holdsL r l = true → atB l r.For.toNat = true) : LabA b l := fun r hr hh => by
  obtain ⟨i, hi⟩ := List.getElem?_of_mem hr
  exact h i (lt_of_some hi) r hi hh
theorem pl_l {b : Beliefs} {l : List Bool} {x : Nat} (ha : LabA b l) (h : Pl b l x) : atB l x = true := by
  cases h with
  | mk r hr hh _ => exact ha r hr hh

/-! the reference's passes -/
def LabI (b : Beliefs) (l : List Bool) (g g2 : Nat → Bool) (k : Nat) : Prop := (∀ x, g x = true → g2 x = true) ∧ (∀ i r, i < k → b.Reasons[i]? = some r → LabR l g g2 r) ∧ (∀ i r, i < k → b.Reasons[i]? = some r → holdsL r l = true → atB l r.For.toNat = true)
theorem LabI.zero (b : Beliefs) (l : List Bool) (g : Nat → Bool) : LabI b l g g 0 := ⟨fun _ h => h, (fun i r hi => absurd hi (Nat.not_lt_zero i)), (fun i r hi => absurd hi (Nat.not_lt_zero i))⟩
theorem LabI.next {b : Beliefs} {l : List Bool} {g g2 : Nat → Bool} {k n : Nat} {r : Reason} {fine v : Bool} (h : LabI b l g g2 k) (hr : b.Reasons[k]? = some r) (ha : asc r.In (n : Int) = true) (hf : fine = (holdsL r l && (r.In.take r.In.length).all (lI (vec n g2)))) (hv : v = (g2 r.For.toNat || fine)) (hA : holdsL r l = true → atB l r.For.toNat = true) : LabI b l g (upd g2 r.For.toNat v) (k + 1) := by
  rw [List.take_length] at hf
  have mono : ∀ x, g2 x = true → upd g2 r.For.toNat v x = true := fun x hx => by
    unfold upd
    split
    · rename_i e; subst e; rw [hv, hx]; rfl
    · exact hx
  refine ⟨fun x hx => mono x (h.1 x hx), fun i r' hi hr' => ?_, fun i r' hi hr' => ?_⟩
  · by_cases e : i = k
    · subst e
      rw [hr] at hr'
      simp only [Option.some.injEq] at hr'
      subst hr'
      intro hh hin
      rw [upd_self, hv, hf, hh]
      cases hx : r.In.all (lI (vec n g2)) with
      | true => simp
      | false => exact absurd (fun y hy => h.1 _ (hin y hy)) (not_all_vec ha hx)
    · intro hh hin
      exact mono _ (h.2.1 i r' (by omega) hr' hh hin)
  · by_cases e : i = k
    · subst e
      rw [hr] at hr'
      simp only [Option.some.injEq] at hr'
      subst hr'
      exact hA
    · exact h.2.2 i r' (by omega) hr'
theorem lab_pass {b : Beliefs} {n : Nat} (hn : b.Nodes = n) (ho : okB b = true) {l : List Bool} {g g2 : Nat → Bool} (hs2 : LabS b l g2) (h : LabI b l g g2 b.Reasons.length) {q : Nat} (hq : q ≤ cnt n g ∨ LabC b l g) : q + 1 ≤ cnt n g2 ∨ LabC b l g2 := by
  by_cases hc : LabC b l g
  · right
    have e : g2 = g := by
      funext x
      cases hx : g x with
      | true => exact h.1 x hx
      | false =>
        cases hx2 : g2 x with
        | false => rfl
        | true => rw [hc.all x (hs2 x hx2)] at hx; cases hx
    rw [e]; exact hc
  · left
    have hq : q ≤ cnt n g := hq.resolve_right hc
    have ⟨r, hr, hno⟩ : ∃ r ∈ b.Reasons, ¬ LabR l g g r := Classical.byContradiction fun hno => hc fun r hr => Classical.byContradiction fun h2 => hno ⟨r, hr, h2⟩
    obtain ⟨i, hi⟩ := List.getElem?_of_mem hr
    have hF := isR_for (okB_m ho hr)
    have h1 : holdsL r l = true := Classical.byContradiction fun e => hno (fun e2 => absurd e2 e)
    have h2 : ∀ y ∈ r.In, g y.toNat = true := Classical.byContradiction fun e => hno (fun _ e2 => absurd e2 e)
    have h3 : g r.For.toNat = false := by
      cases hx : g r.For.toNat with
      | false => rfl
      | true => exact absurd (fun _ _ => hx) hno
    have := cnt_lt (n := n) (y := r.For.toNat) (f := g) (g := g2) (fun x _ hx => h.1 x hx) (by omega) h3 (h.2.1 i r (lt_of_some hi) hi h1 h2)
    omega
theorem fine_step {r : Reason} {l : List Bool} {g : Nat → Bool} {n m : Nat} {y : Int} {fine v : Bool} (hf : fine = (holdsL r l && (r.In.take m).all (lI (vec n g)))) (hy : r.In[m]? = some y) (h0 : 0 ≤ y ∧ y < n) (hv : v = (fine && g y.toNat)) : v = (holdsL r l && (r.In.take (m + 1)).all (lI (vec n g))) := by
  rw [take_snoc hy, List.all_append, hv, hf]
  simp only [List.all_cons, List.all_nil, Bool.and_true, lI]
  rw [atB_of (vec_get (by omega)), Bool.and_assoc]
end Go.Sy

namespace Go.Sy

def inAll (g : Nat → Int) (r : Reason) : Prop := (∀ y ∈ r.In, 0 ≤ g y.toNat) ∧ ∀ y ∈ r.Out, g y.toNat < 0
structure RI (b : Beliefs) (s : RS) : Prop where
  i1 : ∀ x, s.g x = -1 ∨ (0 ≤ s.g x ∧ s.g x < s.rd)
  i2 : ∀ x, 0 ≤ s.g x → strat b x ≤ s.lev
  i3 : ∀ x, 0 ≤ s.g x → ∃ r ∈ b.Reasons, r.For = (x : Int) ∧ supG s.g (s.g x) r = true
  i4 : ∀ r ∈ b.Reasons, strat b r.For.toNat < s.lev → inAll s.g r → 0 ≤ s.g r.For.toNat
theorem supG_iff {g : Nat → Int} {rd : Int} {r : Reason} : supG g rd r = true ↔ (∀ y ∈ r.In, 0 ≤ g y.toNat ∧ g y.toNat < rd) ∧ ∀ y ∈ r.Out, g y.toNat < 0 := by
  simp only [supG, Bool.and_eq_true, List.all_eq_true, decide_eq_true_eq]
theorem RI.itr {b : Beliefs} (ho : okB b = true) (hs : HasSol b) : ∀ k, RI b (itr b k)
  | 0 => ⟨fun x => .inl rfl, fun x h => absurd h (by show ¬ (0 : Int) ≤ -1; omega), fun x h => absurd h (by show ¬ (0 : Int) ≤ -1; omega), fun r _ h => absurd h (by have := strat_nn b r.For.toNat; show ¬ strat b r.For.toNat < ((0 : Nat) : Int); omega)⟩
  | k + 1 => by
    have ih := RI.itr ho hs k
    show RI b (stpR b (Sy.itr b k))
    generalize Sy.itr b k = s at ih
    have hss := strat_sol hs
    unfold stpR
    split
    · rename_i hc
      -- a round
      have hold : ∀ x, 0 ≤ s.g x → upR b s.lev s.rd s.g x = s.g x := fun x hx => by
        unfold upR
        rw [if_neg]
        intro hcm
        obtain ⟨_, _, _, _, hlt, _⟩ := comes_parts hcm
        omega
      have hnew : ∀ x, upR b s.lev s.rd s.g x = s.g x ∨ (comes b s.lev s.rd s.g x = true ∧ upR b s.lev s.rd s.g x = s.rd) := fun x => by
        unfold upR
        by_cases h : comes b s.lev s.rd s.g x = true
        · rw [if_pos h]; exact .inr ⟨h, rfl⟩
        · rw [if_neg h]; exact .inl rfl
      refine ⟨fun x => ?_, fun x hx => ?_, fun x hx => ?_, fun r hr hl hin => ?_⟩
      · show upR b s.lev s.rd s.g x = -1 ∨ (0 ≤ upR b s.lev s.rd s.g x ∧ upR b s.lev s.rd s.g x < ((s.rd + 1 : Nat) : Int))
        have := ih.i1 x
        rcases hnew x with e | ⟨_, e⟩ <;> rw [e] <;> omega
      · show strat b x ≤ s.lev
        rcases hnew x with e | ⟨hcm, _⟩
        · exact ih.i2 x (by rw [← e]; exact hx)
        · obtain ⟨_, _, _, _, _, h, _⟩ := comes_parts hcm
          omega
      · show ∃ r ∈ b.Reasons, r.For = (x : Int) ∧ supG (upR b s.lev s.rd s.g) (upR b s.lev s.rd s.g x) r = true
        have out : ∀ r ∈ b.Reasons, r.For = (x : Int) → strat b x ≤ s.lev → (∀ y ∈ r.Out, s.g y.toNat < 0) → ∀ y ∈ r.Out, upR b s.lev s.rd s.g y.toNat < 0 := fun r hr hf hle h y hy => by
          rcases hnew y.toNat with e | ⟨hcm, _⟩
          · rw [e]; exact h y hy
          · obtain ⟨_, _, _, _, _, h5, _⟩ := comes_parts hcm
            have := (hss.2 r hr).2 y hy
            rw [hf, Int.toNat_natCast] at this
            omega
        rcases hnew x with e | ⟨hcm, e⟩
        · have hx' : 0 ≤ s.g x := by rw [← e]; exact hx
          obtain ⟨r, hr, hf, hsp⟩ := ih.i3 x hx'
          rw [supG_iff] at hsp
          refine ⟨r, hr, hf, ?_⟩
          rw [supG_iff, e]
          refine ⟨fun y hy => ?_, out r hr hf (ih.i2 x hx') hsp.2⟩
          have := hsp.1 y hy
          rw [hold _ this.1]; exact this
        · obtain ⟨r, hr, hf, _, _, hst, hsp⟩ := comes_parts hcm
          rw [supG_iff] at hsp
          refine ⟨r, hr, hf, ?_⟩
          rw [supG_iff, e]
          refine ⟨fun y hy => ?_, out r hr hf (by omega) hsp.2⟩
          have := hsp.1 y hy
          rw [hold _ this.1]; exact this
      · show 0 ≤ upR b s.lev s.rd s.g r.For.toNat
        have hl : strat b r.For.toNat < s.lev := hl
        have h2 : inAll s.g r := by
          refine ⟨fun y hy => ?_, fun y hy => ?_⟩
          · have h1 : 0 ≤ upR b s.lev s.rd s.g y.toNat := hin.1 y hy
            rcases hnew y.toNat with e | ⟨hcm, _⟩
            · rw [e] at h1; exact h1
            · obtain ⟨_, _, _, _, _, h5, _⟩ := comes_parts hcm
              have := (hss.2 r hr).1 y hy
              omega
          · have h1 : upR b s.lev s.rd s.g y.toNat < 0 := hin.2 y hy
            rcases hnew y.toNat with e | ⟨hcm, e⟩
            · rw [e] at h1; exact h1
            · rw [e] at h1; omega
        have h3 := ih.i4 r hr hl h2
        rw [hold _ h3]; exact h3
    · rename_i hc
      refine ⟨ih.i1, fun x hx => ?_, ih.i3, fun r hr hl hin => ?_⟩
      · have := ih.i2 x hx
        show strat b x ≤ ((s.lev + 1 : Nat) : Int)
        omega
      · have hl : strat b r.For.toNat < ((s.lev + 1 : Nat) : Int) := hl
        by_cases h : strat b r.For.toNat < s.lev
        · exact ih.i4 r hr h hin
        · refine Classical.byContradiction fun hneg => hc ?_
          rw [List.any_eq_true]
          refine ⟨r, hr, ?_⟩
          simp only [comesR, Bool.and_eq_true, decide_eq_true_eq]
          refine ⟨⟨by omega, ?_⟩, ?_⟩
          · have hneg : ¬ 0 ≤ s.g r.For.toNat := hneg
            omega
          · rw [supG_iff]
            refine ⟨fun y hy => ?_, hin.2⟩
            have := hin.1 y hy
            have h1 := ih.i1 y.toNat
            have : 0 ≤ s.g y.toNat := this
            omega
/-- enough steps -/
theorem itr_end {b : Beliefs} {n : Nat} (hn : b.Nodes = n) (ho : okB b = true) : ∀ k, k ≤ (itr b k).lev + cnt n (nn (itr b k).g)
  | 0 => Nat.zero_le _
  | k + 1 => by
    have ih := itr_end hn ho k
    show k + 1 ≤ (stpR b (itr b k)).lev + cnt n (nn (stpR b (itr b k)).g)
    unfold stpR
    split
    · rename_i h
      have := up_cnt hn ho h
      simp only
      omega
    · simp only
      omega
structure RF (b : Beliefs) (g : Nat → Int) : Prop where
  f1 : ∀ x, g x = -1 ∨ (0 ≤ g x ∧ g x ≤ b.Nodes)
  f3 : ∀ x, 0 ≤ g x → ∃ r ∈ b.Reasons, r.For = (x : Int) ∧ supG g (g x) r = true
  f4 : ∀ r ∈ b.Reasons, inAll g r → 0 ≤ g r.For.toNat
theorem rnds_facts {b : Beliefs} (ho : okB b = true) (hs : HasSol b) : RF b (rnds b) := by
  have hbn := okB_nodes ho
  obtain ⟨n, hn⟩ : ∃ n : Nat, b.Nodes = (n : Int) := ⟨b.Nodes.toNat, by omega⟩
  have h1 := itr_end hn ho (2 * n)
  have h2 := cnt_le n (nn (itr b (2 * n)).g)
  have hlev : n ≤ (itr b (2 * n)).lev := by omega
  have hall : ∀ x : Nat, (x : Int) < b.Nodes → strat b x < (itr b (2 * n)).lev := fun x hx => by
    have := strat_lt hs hx
    omega
  have e := rnds_eq ho hs ⟨2 * n, rfl⟩ hall
  have hri := RI.itr ho hs (2 * n)
  have hrd := Rch.rd_n hn ho (s := itr b (2 * n)) ⟨2 * n, rfl⟩
  rw [e]
  refine ⟨fun x => ?_, hri.i3, fun r hr hin => ?_⟩
  · have := hri.i1 x
    omega
  · have hF := isR_for (okB_m ho hr)
    exact hri.i4 r hr (hall _ (by omega)) hin

/-! ### no absences -/
inductive Dv (b : Beliefs) : Nat → Prop
  | mk (r : Reason) : r ∈ b.Reasons → (∀ y ∈ r.In, Dv b y.toNat) → Dv b r.For.toNat
theorem lbs_dv {b : Beliefs} (ho : okB b = true) (hs : HasSol b) (hno : ∀ r ∈ b.Reasons, r.Out = []) (x : Nat) : lbs b x = true ↔ Dv b x := by
  have hf := rnds_facts ho hs
  have key : ∀ (m : Nat) (x : Nat), 0 ≤ rnds b x → rnds b x < m → Dv b x := by
    intro m
    induction m with
    | zero => intro x h1 h2; omega
    | succ m ih =>
      intro x h1 h2
      obtain ⟨r, hr, e, hsp⟩ := hf.f3 x h1
      rw [supG_iff] at hsp
      have : x = r.For.toNat := by omega
      rw [this]
      refine .mk r hr (fun y hy => ?_)
      have := hsp.1 y hy
      exact ih _ this.1 (by omega)
  constructor
  · intro h
    have h := of_decide_eq_true h
    exact key ((rnds b x).toNat + 1) x h (by omega)
  · intro h
    refine decide_eq_true ?_
    induction h with
    | mk r hr _ ih => exact hf.f4 r hr ⟨ih, fun y hy => by rw [hno r hr] at hy; cases hy⟩
end Go.Sy

namespace Go.Sy

def bitS (set : Int) (i : Nat) : Bool := (andZ (shrZ set i) 1 == 1)
def chs (l : List Int) (set : Int) : List Int := keep (bitS set) l
def chsT (l : List Int) (set : Int) (k : Nat) : List Int := keepT (bitS set) l k
theorem shl_small {k : Nat} (h : k ≤ 8) : shlZ 1 k = 2 ^ k := by
  unfold shlZ
  have : k = 0 ∨ k = 1 ∨ k = 2 ∨ k = 3 ∨ k = 4 ∨ k = 5 ∨ k = 6 ∨ k = 7 ∨ k = 8 := by omega
  rcases this with h | h | h | h | h | h | h | h | h <;> subst h <;> rfl
theorem shl_rng {k : Nat} (h : k ≤ 8) : 1 ≤ shlZ 1 k ∧ shlZ 1 k ≤ 256 := by
  have : k = 0 ∨ k = 1 ∨ k = 2 ∨ k = 3 ∨ k = 4 ∨ k = 5 ∨ k = 6 ∨ k = 7 ∨ k = 8 := by omega
  rw [shl_small h]
  rcases this with h | h | h | h | h | h | h | h | h <;> subst h <;> decide
def isSetB (f : Frame) (set : Int) : Bool := decide (0 ≤ set) && decide (set < shlZ 1 f.Assumed.length)
theorem frame_b {f : Frame} (h : isFrame f = true) : isBeliefs f.Beliefs = true := by
  simp only [isFrame, Bool.and_eq_true] at h
  exact h.1.1.1.1
theorem frame_al {f : Frame} (h : isFrame f = true) : f.Assumed.length ≤ 6 := by
  simp only [isFrame, Bool.and_eq_true, decide_eq_true_eq] at h
  exact h.1.1.1.2
theorem frame_a {f : Frame} (h : isFrame f = true) : asc f.Assumed f.Beliefs.Nodes = true := by
  simp only [isFrame, Bool.and_eq_true, decide_eq_true_eq] at h
  exact h.1.1.2
theorem frame_bad {f : Frame} (h : isFrame f = true) : asc f.Bad f.Beliefs.Nodes = true := by
  simp only [isFrame, Bool.and_eq_true, decide_eq_true_eq] at h
  exact h.1.2
theorem frame_no {f : Frame} (h : isFrame f = true) {r : Reason} (hr : r ∈ f.Beliefs.Reasons) : r.Out = [] := by
  simp only [isFrame, Bool.and_eq_true, List.all_eq_true] at h
  have := h.2 r hr
  simpa [noOut] using this
theorem isSet_in {f : Frame} {set : Int} : inR set 0 (shlZ 1 f.Assumed.length - 1) = isSetB f set := by
  unfold inR isSetB
  rw [Bool.eq_iff_iff]
  simp only [Bool.and_eq_true, decide_eq_true_eq]
  omega
theorem frame_w {f : Frame} (h : isFrameW f = true) : isFrame f = true := by rw [← isFrameW_eq]; exact h

def prem (x : Int) : Reason := ⟨x, [], []⟩
def undT (f : Frame) (set : Int) (k : Nat) : List Reason := f.Beliefs.Reasons ++ ((chs f.Assumed set).take k).map prem
def undB (f : Frame) (set : Int) : Beliefs := ⟨f.Beliefs.Nodes, f.Beliefs.Reasons ++ (chs f.Assumed set).map prem⟩
theorem undT_zero (f : Frame) (set : Int) : f.Beliefs.Reasons = undT f set 0 := by simp [undT]
theorem undT_step {f : Frame} {set x : Int} {k : Nat} (h : (chs f.Assumed set)[k]? = some x) : undT f set k ++ [⟨x, [], []⟩] = undT f set (k + 1) := by
  unfold undT
  rw [take_snoc h, List.map_append, ← List.append_assoc]; rfl
theorem undT_done {f : Frame} {set : Int} {k : Nat} (h : (chs f.Assumed set).length ≤ k) : (⟨f.Beliefs.Nodes, undT f set k⟩ : Beliefs) = undB f set := by
  unfold undT undB
  rw [List.take_of_length_le h]
theorem undT_len (f : Frame) (set : Int) (k : Nat) : (undT f set k).length ≤ f.Beliefs.Reasons.length + f.Assumed.length := by
  unfold undT
  rw [List.length_append, List.length_map, List.length_take]
  have : (chs f.Assumed set).length ≤ f.Assumed.length := keep_len _ _
  omega
theorem undB_len {f : Frame} {set : Int} (h : isFrame f = true) : (undB f set).Reasons.length ≤ 66 := by
  have h1 : (chs f.Assumed set).length ≤ f.Assumed.length := keep_len _ _
  have h2 := frame_al h
  have h3 := isB_len (frame_b h)
  show (f.Beliefs.Reasons ++ (chs f.Assumed set).map prem).length ≤ 66
  rw [List.length_append, List.length_map]
  omega
theorem undB_mem {f : Frame} {set : Int} {r : Reason} (hr : r ∈ (undB f set).Reasons) : r ∈ f.Beliefs.Reasons ∨ ∃ x ∈ chs f.Assumed set, r = prem x := by
  rcases List.mem_append.1 hr with h | h
  · exact .inl h
  · obtain ⟨x, hx, e⟩ := List.mem_map.1 h
    exact .inr ⟨x, hx, e.symm⟩
theorem chs_rng {f : Frame} {set x : Int} (h : isFrame f = true) (hx : x ∈ chs f.Assumed set) : 0 ≤ x ∧ x < f.Beliefs.Nodes := asc_m (frame_a h) (keep_mem hx)
theorem asc_nil (n : Int) : asc [] n = true := rfl
theorem undB_ok {f : Frame} {set : Int} (h : isFrame f = true) : okB (undB f set) = true := by
  have hb := isB_ok2 (frame_b h)
  simp only [okB, Bool.and_eq_true, List.all_eq_true] at hb ⊢
  refine ⟨hb.1, fun r hr => ?_⟩
  rcases undB_mem hr with h1 | ⟨x, hx, e⟩
  · exact hb.2 r h1
  · subst e
    have := chs_rng h hx
    show isReason (prem x) f.Beliefs.Nodes = true
    simp [isReason, prem, asc_nil, this.1, this.2]
theorem undB_no {f : Frame} {set : Int} (h : isFrame f = true) : ∀ r ∈ (undB f set).Reasons, r.Out = [] := fun r hr => by
  rcases undB_mem hr with h1 | ⟨x, _, e⟩
  · exact frame_no h h1
  · subst e; rfl
theorem noOut_sol {b : Beliefs} (ho : okB b = true) (h : ∀ r ∈ b.Reasons, r.Out = []) : HasSol b := by
  refine ⟨fun _ => 0, ⟨fun _ => Int.le_refl _, fun r hr => ⟨fun _ _ => Int.le_refl _, fun y hy => by rw [h r hr] at hy; cases hy⟩⟩, fun x hx => ?_⟩
  have := okB_nodes ho
  show (0 : Int) < b.Nodes
  omega
theorem undB_sol {f : Frame} {set : Int} (h : isFrame f = true) : HasSol (undB f set) := noOut_sol (undB_ok h) (undB_no h)
noncomputable def unds (f : Frame) (set : Int) : List Bool := vec f.Beliefs.Nodes.toNat (lbs (undB f set))

/-! the reference's way -/
def DvS (f : Frame) (set : Int) (g : Nat → Bool) : Prop := ∀ x, g x = true → Dv (undB f set) x
def DvB (f : Frame) (set : Int) (g : Nat → Bool) : Prop := ∀ x ∈ chs f.Assumed set, g x.toNat = true
def DvC (f : Frame) (g : Nat → Bool) : Prop := ∀ r ∈ f.Beliefs.Reasons, (∀ y ∈ r.In, g y.toNat = true) → g r.For.toNat = true
theorem DvC.all {f : Frame} {set : Int} {g : Nat → Bool} (hc : DvC f g) (hb : DvB f set g) : ∀ x, Dv (undB f set) x → g x = true := by
  intro x hx
  induction hx with
  | mk r hr _ ih =>
    rcases undB_mem hr with h1 | ⟨x, hx, e⟩
    · exact hc r h1 ih
    · subst e; exact hb x hx
theorem dv_base {f : Frame} {set x : Int} (hx : x ∈ chs f.Assumed set) : Dv (undB f set) x.toNat := by
  have := Dv.mk (b := undB f set) (prem x) (List.mem_append_right _ (List.mem_map.2 ⟨x, hx, rfl⟩)) (fun y hy => by cases hy)
  exact this
theorem DvS.set {f : Frame} {set : Int} {g : Nat → Bool} (h : DvS f set g) {x : Nat} {v : Bool} (hv : v = true → Dv (undB f set) x) : DvS f set (upd g x v) := by
  intro y hy
  unfold upd at hy
  split at hy
  · rename_i e; subst e; exact hv hy
  · exact h y hy
/-- the assumptions of a set, one after another -/
def DvA (f : Frame) (set : Int) (g : Nat → Bool) (k : Nat) : Prop := ∀ x ∈ chsT f.Assumed set k, g x.toNat = true
theorem chsT_mem {l : List Int} {set x : Int} {k : Nat} (hx : x ∈ chsT l set k) (hk : k ≤ l.length) : x ∈ chs l set := by
  unfold chsT keepT at hx
  unfold chs keep keepT
  rw [List.mem_filterMap] at hx ⊢
  obtain ⟨i, hi, e⟩ := hx
  rw [List.mem_filter, List.mem_range] at hi
  exact ⟨i, by rw [List.mem_filter, List.mem_range]; exact ⟨by omega, hi.2⟩, e⟩
theorem DvA.on {f : Frame} {set : Int} {g : Nat → Bool} {k : Nat} {x : Int} (h : DvA f set g k) (hx : f.Assumed[k]? = some x) : DvA f set (upd g x.toNat true) (k + 1) := by
  intro y hy
  unfold upd
  by_cases e : y.toNat = x.toNat
  · rw [if_pos e]
  · rw [if_neg e]
    unfold chsT at hy
    cases hb : bitS set k with
    | true =>
      rw [← keepT_t hx hb] at hy
      rcases List.mem_append.1 hy with h1 | h1
      · exact h y h1
      · rw [List.mem_singleton] at h1
        subst h1
        exact absurd rfl e
    | false => rw [← keepT_f hb] at hy; exact h y hy
theorem DvA.off {f : Frame} {set : Int} {g : Nat → Bool} {k : Nat} (h : DvA f set g k) (hb : bitS set k = false) : DvA f set g (k + 1) := by
  intro y hy
  unfold chsT at hy
  rw [← keepT_f hb] at hy
  exact h y hy
theorem chs_at {l : List Int} {set x : Int} {k : Nat} (hx : l[k]? = some x) (hb : bitS set k = true) : x ∈ chs l set := by
  have h1 : x ∈ chsT l set (k + 1) := by
    unfold chsT
    rw [← keepT_t hx hb]
    exact List.mem_append_right _ (List.mem_singleton.2 rfl)
  exact chsT_mem h1 (lt_of_some hx)
def DvI (f : Frame) (g g2 : Nat → Bool) (k : Nat) : Prop := (∀ x, g x = true → g2 x = true) ∧ ∀ i r, i < k → f.Beliefs.Reasons[i]? = some r → (∀ y ∈ r.In, g y.toNat = true) → g2 r.For.toNat = true
theorem DvI.zero (f : Frame) (g : Nat → Bool) : DvI f g g 0 := ⟨fun _ h => h, fun i r hi => absurd hi (Nat.not_lt_zero i)⟩
theorem DvI.next {f : Frame} {g g2 : Nat → Bool} {k n : Nat} {r : Reason} {fine v : Bool} (h : DvI f g g2 k) (hr : f.Beliefs.Reasons[k]? = some r) (ha : asc r.In (n : Int) = true) (hf : fine = (r.In.take r.In.length).all (lI (vec n g2))) (hv : v = (g2 r.For.toNat || fine)) : DvI f g (upd g2 r.For.toNat v) (k + 1) := by
  rw [List.take_length] at hf
  have mono : ∀ x, g2 x = true → upd g2 r.For.toNat v x = true := fun x hx => by
    unfold upd
    split
    · rename_i e; subst e; rw [hv, hx]; rfl
    · exact hx
  refine ⟨fun x hx => mono x (h.1 x hx), fun i r' hi hr' hin => ?_⟩
  by_cases e : i = k
  · subst e
    rw [hr] at hr'
    simp only [Option.some.injEq] at hr'
    subst hr'
    rw [upd_self, hv, hf]
    cases hx : r.In.all (lI (vec n g2)) with
    | true => simp
    | false => exact absurd (fun y hy => h.1 _ (hin y hy)) (not_all_vec ha hx)
  · exact mono _ (h.2 i r' (by omega) hr' hin)
theorem dv_pass {f : Frame} {set : Int} {n : Nat} (hn : f.Beliefs.Nodes = n) (ho : okB f.Beliefs = true) {g g2 : Nat → Bool} (hs2 : DvS f set g2) (hb : DvB f set g) (h : DvI f g g2 f.Beliefs.Reasons.length) {q : Nat} (hq : q ≤ cnt n g ∨ DvC f g) : q + 1 ≤ cnt n g2 ∨ DvC f g2 := by
  by_cases hc : DvC f g
  · right
    have e : g2 = g := by
      funext x
      cases hx : g x with
      | true => exact h.1 x hx
      | false =>
        cases hx2 : g2 x with
        | false => rfl
        | true => rw [hc.all hb x (hs2 x hx2)] at hx; cases hx
    rw [e]; exact hc
  · left
    have hq : q ≤ cnt n g := hq.resolve_right hc
    have ⟨r, hr, hno⟩ : ∃ r ∈ f.Beliefs.Reasons, ¬ ((∀ y ∈ r.In, g y.toNat = true) → g r.For.toNat = true) := Classical.byContradiction fun hno => hc fun r hr => Classical.byContradiction fun h2 => hno ⟨r, hr, h2⟩
    obtain ⟨i, hi⟩ := List.getElem?_of_mem hr
    have hF := isR_for (okB_m ho hr)
    have h2 : ∀ y ∈ r.In, g y.toNat = true := Classical.byContradiction fun e => hno (fun e2 => absurd e2 e)
    have h3 : g r.For.toNat = false := by
      cases hx : g r.For.toNat with
      | false => rfl
      | true => exact absurd (fun _ => hx) hno
    have := cnt_lt (n := n) (y := r.For.toNat) (f := g) (g := g2) (fun x _ hx => h.1 x hx) (by omega) h3 (h.2 i r (lt_of_some hi) hi h2)
    omega
theorem DvB.mono {f : Frame} {set : Int} {g g2 : Nat → Bool} {k : Nat} (h : DvB f set g) (hi : DvI f g g2 k) : DvB f set g2 := fun x hx => hi.1 _ (h x hx)
theorem dv_of {f : Frame} {set : Int} {g : Nat → Bool} {n k : Nat} {r : Reason} (hs : DvS f set g) (hr : f.Beliefs.Reasons[k]? = some r) (ha : asc r.In (n : Int) = true) (hi : r.In.all (lI (vec n g)) = true) : Dv (undB f set) r.For.toNat :=
  .mk r (List.mem_append_left _ (List.mem_of_getElem? hr)) (fun y hy => hs _ (all_vec ha hi y hy))
theorem dv_fine {r : Reason} {g : Nat → Bool} {n m : Nat} {y : Int} {fine v : Bool} (hf : fine = (r.In.take m).all (lI (vec n g))) (hy : r.In[m]? = some y) (h0 : 0 ≤ y ∧ y < n) (hv : v = (fine && g y.toNat)) : v = (r.In.take (m + 1)).all (lI (vec n g)) := by
  rw [take_snoc hy, List.all_append, hv, hf]
  simp only [List.all_cons, List.all_nil, Bool.and_true, lI]
  rw [atB_of (vec_get (by omega))]
theorem dv_done {f : Frame} {set : Int} {g : Nat → Bool} {n : Nat} (hn : f.Beliefs.Nodes = n) (h : isFrame f = true) (hs : DvS f set g) (hb : DvB f set g) (hc : DvC f g) : vec n g = unds f set := by
  unfold unds
  rw [show f.Beliefs.Nodes.toNat = n by omega]
  refine vec_congr fun x _ => ?_
  rw [Bool.eq_iff_iff, lbs_dv (undB_ok h) (undB_sol h) (undB_no h)]
  exact ⟨hs x, hc.all hb x⟩
theorem unds_len (f : Frame) (set : Int) : (unds f set).length = f.Beliefs.Nodes.toNat := vec_len _ _

noncomputable def nodesU (f : Frame) (set : Int) : List Int := if isFrame f && isSetB f set then fidx (lbs (undB f set)) f.Beliefs.Nodes.toNat else []
theorem nodesU_f {f : Frame} {set : Int} (h : (isFrame f && isSetB f set) = false) : [] = nodesU f set := by unfold nodesU; rw [h]; rfl
theorem nodesU_t {f : Frame} {set : Int} (h : (isFrame f && isSetB f set) = true) : fidx (lbs (undB f set)) f.Beliefs.Nodes.toNat = nodesU f set := by unfold nodesU; rw [if_pos h]
theorem nodesU_len (f : Frame) (set : Int) : (nodesU f set).length ≤ 24 := by
  cases h : (isFrame f && isSetB f set) with
  | false => rw [← nodesU_f h]; simp
  | true =>
    rw [← nodesU_t h]
    simp only [Bool.and_eq_true] at h
    have := isBeliefs_nodes (frame_b h.1)
    exact Nat.le_trans (fidx_len _ _) (by omega)
noncomputable def isCons (f : Frame) (set : Int) : Bool := isFrame f && isSetB f set && f.Bad.all (lO (unds f set))
noncomputable def holdsU (f : Frame) (x set : Int) : Bool := isCons f set && (nodesU f set).contains x
theorem isCons_n {f : Frame} {set : Int} (h : (isFrame f && isSetB f set) = false) : false = isCons f set := by unfold isCons; rw [h]; rfl
theorem isCons_b {f : Frame} {set y : Int} {k : Nat} (hy : f.Bad[k]? = some y) (h : lO (unds f set) y = false) : false = isCons f set := by unfold isCons; rw [all_bad (p := lO (unds f set)) hy h]; simp
theorem isCons_y {f : Frame} {set : Int} (h : (isFrame f && isSetB f set) = true) (hb : ∀ i, i < f.Bad.length → ∀ y, f.Bad[i]? = some y → lO (unds f set) y = true) : true = isCons f set := by unfold isCons; rw [h, all_of_idx hb]; rfl
theorem unds_at {f : Frame} {set : Int} {k : Nat} {x : Bool} (h : (unds f set)[k]? = some x) : lbs (undB f set) k = x := by
  have hk : k < f.Beliefs.Nodes.toNat := by rw [← unds_len f set]; exact lt_of_some h
  unfold unds at h
  rw [vec_get hk] at h
  simpa using h
theorem unds_asc {f : Frame} {set : Int} {l : List Int} (h : isFrame f = true) (ha : asc l f.Beliefs.Nodes = true) : asc l ((unds f set).length : Int) = true := by
  have := isBeliefs_nodes (frame_b h)
  rw [unds_len, show ((f.Beliefs.Nodes.toNat : Nat) : Int) = f.Beliefs.Nodes by omega]
  exact ha
theorem DvA.done {f : Frame} {set : Int} {g : Nat → Bool} {k : Nat} (h : DvA f set g k) (hk : k = f.Assumed.length) : DvB f set g := by subst hk; exact h
theorem szB_small {b : Beliefs} (h : isBeliefs b = true) : szB b ≤ 1048576 := by
  have hl := isB_len h
  have hn := isBeliefs_nodes h
  have key : ∀ l : List Reason, (∀ r ∈ l, isReason r b.Nodes = true) → (l.map szR).sum ≤ 48 * l.length := by
    intro l
    induction l with
    | nil => intro _; simp
    | cons r l ih =>
      intro hl
      have h1 := hl r (by simp)
      have h2 := ih (fun r hr => hl r (by simp [hr]))
      have a1 := asc_len (isR_in h1)
      have a2 := asc_len (isR_out h1)
      simp only [List.map_cons, List.sum_cons, List.length_cons, szR]
      omega
  have := key b.Reasons (fun r hr => okB_m (isB_ok2 h) hr)
  unfold szB szRs
  omega
def cFr (a : Frame) : Nat := sumC cR a.Beliefs.Reasons + a.Assumed.length + a.Bad.length
def mkFr (k : Int) (a : Frame) : Frame := ⟨mkB k a.Beliefs, mkI (k + sumC cR a.Beliefs.Reasons) a.Assumed, mkI (k + sumC cR a.Beliefs.Reasons + a.Assumed.length) a.Bad⟩
theorem szF_c (f : Frame) : cFr f ≤ szF f := by
  have := szB_sum f.Beliefs
  unfold cFr szF
  omega
end Go.Sy

namespace Go.Sy
open Go Go.RowKit

section
variable {P : Program} {N : Nat} {w0 : World} {H : List Chunk} {L : Fm} {Q : Exit → Act → World → Prop} {o : Oper} {d : Nat} {K : Act → World → Prop}
/-- a call that takes an owned list and hands back an owned list -/
theorem cmv {α β : Type} [Gd α] [Tid α] [Gd β] [Tid β] {f : Nat} {as : List Operand} {vs : List Value} {tys : Array TypeId} {v : Value} {l : List α} {l' : List β} (hb : hasBody P f = true)
    (ho : o.op = .call ⟨.value (.func f), as.toArray, tys⟩) (ha : evs L as = some vs) (hd : o.dst = some d) (hN : Nat.blt d N = true)
    (hc : ∀ w, St w0 (ov [v] l :: H) w → Calls P f vs.toArray w (fun e w' => ∃ u, e = .returned u ∧ St w0 (ov [u] l' :: H) w'))
    (k : ∀ u, D N w0 (ov [u] l' :: H) ((d, u) :: L) K) : D N w0 (ov [v] l :: H) L (fun a w => o.wp P a w K Q) :=
  D_call (σ := Value) (val := fun u => u) (H' := fun u => ov [u] l' :: H) (J := fun _ => True) hb ho ha hd hN
    (fun w hs => (hc w hs).mono fun _ _ ⟨u, he, hst⟩ => ⟨u, he, trivial, hst⟩) (fun u _ => k u)
theorem mv_nil {α : Type} [Gd α] [Tid α] {w : World} : St w [ov [.slice none 0 0] ([] : List α)] w := (St.start w).nul (c := ov [.slice none 0 0] ([] : List α)) ow_nil
theorem mv_res {α : Type} [Gd α] [Tid α] {w w' : World} {e : Ending} {l : List α} (h : ∃ u, e = .returned u ∧ St w [ov [u] l] w') : Res w l e w' := by
  obtain ⟨u, he, hst⟩ := h
  rw [he]
  exact res_of (k := 0) (cs := [u]) hst rfl rfl
end

def inOf (b : Beliefs) (s : Int) : List Int := match b.Reasons[s.toNat]? with | some r => r.In | none => []
def fndG (b : Beliefs) (sp : Int → Int) : Nat → Int → List Int → List Int
  | 0, _, acc => acc
  | f + 1, x, acc => if sp x < 0 ∨ acc.contains (sp x) = true then acc else (inOf b (sp x)).foldl (fun a y => fndG b sp f y a) acc ++ [sp x]
def flT (b : Beliefs) (sp : Int → Int) (m : Nat) (l : List Int) (k : Nat) (acc : List Int) : List Int := (l.take k).foldl (fun a y => fndG b sp m y a) acc
theorem flT_zero (b : Beliefs) (sp : Int → Int) (m : Nat) (l acc : List Int) : acc = flT b sp m l 0 acc := rfl
theorem flT_step {b : Beliefs} {sp : Int → Int} {m k : Nat} {l acc : List Int} {y : Int} (h : l[k]? = some y) : fndG b sp m y (flT b sp m l k acc) = flT b sp m l (k + 1) acc := by
  unfold flT
  rw [take_snoc h, List.foldl_append]; rfl
theorem fnd_stop {b : Beliefs} {sp : Int → Int} {f : Nat} {x : Int} {l : List Int} (h : sp x < 0 ∨ l.contains (sp x) = true) : l = fndG b sp f x l := by
  cases f with
  | zero => rfl
  | succ f => unfold fndG; rw [if_pos h]
theorem fnd_go {b : Beliefs} {sp : Int → Int} {f m k : Nat} {x : Int} {l : List Int} {r : Reason} (hm : f = m + 1) (h : ¬ sp x < 0) (h2 : l.contains (sp x) = false) (hr : b.Reasons[(sp x).toNat]? = some r) (hk : r.In.length ≤ k) : flT b sp m r.In k l ++ [sp x] = fndG b sp f x l := by
  subst hm
  unfold fndG
  rw [if_neg (by rw [h2]; rintro (h3 | h3); (· exact h h3); (· cases h3))]
  unfold flT inOf
  rw [List.take_of_length_le hk, hr]

def SpOk (b : Beliefs) (rl : List Int) (sp : Int → Int) : Prop := ∀ x, sp x = -1 ∨ ∃ (k : Nat) (r : Reason), sp x = (k : Int) ∧ b.Reasons[k]? = some r ∧ hasFor rl x r = true ∧ 0 ≤ x ∧ x < b.Nodes ∧ 0 ≤ atZ rl x.toNat
theorem spL_ok (b : Beliefs) (rl : List Int) : SpOk b rl (suppL b rl) := fun x => suppL_rng b rl x
theorem spO_ok (b : Beliefs) : SpOk b (roundsOf b) (suppOf b) := fun x => by
  cases h : isStrat b with
  | false => exact .inl (suppOf_f h).symm
  | true => rw [← suppOf_t h]; exact suppL_rng b _ x
theorem hasFor_for {l : List Int} {x : Int} {r : Reason} (h : hasFor l x r = true) : r.For = x := by
  simp only [hasFor, Bool.and_eq_true, decide_eq_true_eq] at h
  exact h.1
theorem hasFor_in {l : List Int} {x y : Int} {r : Reason} (h : hasFor l x r = true) (hy : y ∈ r.In) : 0 ≤ atZ l y.toNat ∧ atZ l y.toNat < atZ l x.toNat := by
  simp only [hasFor, supL, Bool.and_eq_true, List.all_eq_true] at h
  have := h.2.1 y hy
  simpa only [befL, Bool.and_eq_true, decide_eq_true_eq] using this
def El (b : Beliefs) (rl : List Int) (m : Int) (y : Int) : Prop := ∃ (k : Nat) (r : Reason), y = (k : Int) ∧ b.Reasons[k]? = some r ∧ atZ rl r.For.toNat ≤ m
theorem El.mono {b : Beliefs} {rl : List Int} {m m' y : Int} (h : El b rl m y) (hm : m ≤ m') : El b rl m' y := by
  obtain ⟨k, r, h1, h2, h3⟩ := h
  exact ⟨k, r, h1, h2, by omega⟩
theorem inOf_at {b : Beliefs} {k : Nat} {r : Reason} {s : Int} (hs : s = (k : Int)) (hr : b.Reasons[k]? = some r) : inOf b s = r.In := by
  unfold inOf
  rw [hs, Int.toNat_natCast, hr]
theorem mem_fnd {b : Beliefs} {rl : List Int} {sp : Int → Int} (hsp : SpOk b rl sp) : ∀ (f : Nat) (x : Int) (acc : List Int) (y : Int), y ∈ fndG b sp f x acc → y ∈ acc ∨ El b rl (atZ rl x.toNat) y
  | 0, _, _, _, h => .inl h
  | f + 1, x, acc, y, h => by
    unfold fndG at h
    by_cases hc : sp x < 0 ∨ acc.contains (sp x) = true
    · rw [if_pos hc] at h; exact .inl h
    · rw [if_neg hc] at h
      rcases hsp x with e | ⟨k, r, e, hr, hf, _⟩
      · exact absurd (.inl (by omega)) hc
      · rw [inOf_at e hr] at h
        have fold : ∀ (l : List Int) (a : List Int), (∀ z ∈ l, z ∈ r.In) → y ∈ l.foldl (fun a z => fndG b sp f z a) a → y ∈ a ∨ El b rl (atZ rl x.toNat) y := by
          intro l
          induction l with
          | nil => intro a _ h; exact .inl h
          | cons z l ih =>
            intro a hl h
            rcases ih _ (fun q hq => hl q (by simp [hq])) h with h | h
            · rcases mem_fnd hsp f z a y h with h | h
              · exact .inl h
              · have := hasFor_in hf (hl z (by simp))
                exact .inr (h.mono (by omega))
            · exact .inr h
        rcases List.mem_append.1 h with h | h
        · exact fold r.In acc (fun _ h => h) h
        · rw [List.mem_singleton] at h
          exact .inr ⟨k, r, by omega, hr, by rw [hasFor_for hf]; exact Int.le_refl _⟩
def Good (b : Beliefs) (acc : List Int) : Prop := acc.Nodup ∧ ∀ y ∈ acc, 0 ≤ y ∧ y < b.Reasons.length
theorem Good.nil (b : Beliefs) : Good b [] := ⟨List.nodup_nil, fun y h => by cases h⟩
theorem good_len {b : Beliefs} {acc : List Int} (h : Good b acc) : acc.length ≤ b.Reasons.length := by
  have key : ∀ acc : List Int, Good b acc → acc.length ≤ cnt b.Reasons.length (fun i => acc.contains (i : Int)) := by
    intro acc
    induction acc with
    | nil => intro _; exact Nat.zero_le _
    | cons y acc ih =>
      intro h
      have h1 := (List.nodup_cons.1 h.1)
      have h2 := ih ⟨h1.2, fun z hz => h.2 z (by simp [hz])⟩
      have h3 := h.2 y (by simp)
      have e : ((y.toNat : Nat) : Int) = y := by omega
      have := cnt_lt (n := b.Reasons.length) (y := y.toNat) (f := fun i => acc.contains (i : Int)) (g := fun i => (y :: acc).contains (i : Int)) (fun z _ hz => by
        rw [List.contains_iff_mem] at hz ⊢
        exact List.mem_cons_of_mem _ hz) (by omega) (by
        simp only [e]
        rw [Bool.eq_false_iff]
        intro hc
        exact h1.1 (List.contains_iff_mem.1 hc)) (by
        simp only [e]
        rw [List.contains_iff_mem]
        exact List.mem_cons_self)
      simp only [List.length_cons]
      omega
  exact Nat.le_trans (key acc h) (cnt_le _ _)
theorem good_fnd {b : Beliefs} {rl : List Int} {sp : Int → Int} (hsp : SpOk b rl sp) : ∀ (f : Nat) (x : Int) (acc : List Int), Good b acc → Good b (fndG b sp f x acc)
  | 0, _, _, h => h
  | f + 1, x, acc, h => by
    unfold fndG
    by_cases hc : sp x < 0 ∨ acc.contains (sp x) = true
    · rw [if_pos hc]; exact h
    · rw [if_neg hc]
      rcases hsp x with e | ⟨k, r, e, hr, hf, _⟩
      · exact absurd (.inl (by omega)) hc
      · rw [inOf_at e hr]
        have fold : ∀ (l : List Int) (a : List Int), (∀ z ∈ l, z ∈ r.In) → Good b a → (∀ y ∈ a, y ∈ acc ∨ ∃ m, El b rl m y ∧ m < atZ rl x.toNat) → Good b (l.foldl (fun a z => fndG b sp f z a) a) ∧ ∀ y ∈ l.foldl (fun a z => fndG b sp f z a) a, y ∈ acc ∨ ∃ m, El b rl m y ∧ m < atZ rl x.toNat := by
          intro l
          induction l with
          | nil => intro a _ h1 h2; exact ⟨h1, h2⟩
          | cons z l ih =>
            intro a hl h1 h2
            refine ih _ (fun q hq => hl q (by simp [hq])) (good_fnd hsp f z a h1) (fun y hy => ?_)
            rcases mem_fnd hsp f z a y hy with h | h
            · exact h2 y h
            · exact .inr ⟨_, h, (hasFor_in hf (hl z (by simp))).2⟩
        obtain ⟨g1, g2⟩ := fold r.In acc (fun _ h => h) h (fun y hy => .inl hy)
        refine ⟨?_, fun y hy => ?_⟩
        · rw [List.nodup_append]
          refine ⟨g1.1, by simp, fun a ha c hc2 => ?_⟩
          rw [List.mem_singleton] at hc2
          subst hc2
          intro eq
          subst eq
          rcases g2 _ ha with h | ⟨m, ⟨k', r', e1, e2, e3⟩, hm⟩
          · exact hc (.inr (List.contains_iff_mem.2 h))
          · have : k' = k := by omega
            subst this
            rw [hr] at e2
            simp only [Option.some.injEq] at e2
            subst e2
            rw [hasFor_for hf] at e3
            omega
        · rcases List.mem_append.1 hy with hy | hy
          · exact g1.2 y hy
          · rw [List.mem_singleton] at hy
            have := lt_of_some hr
            omega
theorem good_flT {b : Beliefs} {rl : List Int} {sp : Int → Int} (hsp : SpOk b rl sp) (m : Nat) (l : List Int) (k : Nat) {acc : List Int} (h : Good b acc) : Good b (flT b sp m l k acc) := by
  unfold flT
  generalize l.take k = l'
  induction l' generalizing acc with
  | nil => exact h
  | cons z l ih => exact ih (good_fnd hsp m z acc h)

theorem rnds_25 {b : Beliefs} (ho : okB b = true) (hs : HasSol b) (x : Nat) : atZ (vec b.Nodes.toNat (rnds b)) x < ((25 : Nat) : Int) := by
  have hbn := okB_nodes ho
  by_cases h : x < b.Nodes.toNat
  · rw [atZ_vec h]
    have := (rnds_facts ho hs).f1 x
    omega
  · unfold atZ
    rw [List.getElem?_eq_none (by rw [vec_len]; omega)]
    decide
theorem rnds_25' (b : Beliefs) (x : Nat) : atZ (roundsOf b) x < ((25 : Nat) : Int) := by
  cases h : isStrat b with
  | false => rw [← roundsOf_f h]; unfold atZ; simp
  | true => rw [roundsOf_t h]; exact rnds_25 (isB_ok2 (strat_b h)) (strat_has h) x
noncomputable def foundOf (b : Beliefs) (x : Int) : List Int := fndG b (suppOf b) 25 x []
theorem found_f {b : Beliefs} {x : Int} (h : isStrat b = false) : [] = foundOf b x := fnd_stop (.inl (by rw [← suppOf_f h]; decide))
theorem found_t {b : Beliefs} {x : Int} (h : isStrat b = true) : fndG b (suppL b (vec b.Nodes.toNat (rnds b))) 25 x [] = foundOf b x := by
  unfold foundOf
  have : suppOf b = suppL b (vec b.Nodes.toNat (rnds b)) := by
    funext y
    rw [← suppOf_t h, roundsOf_t h]
  rw [this]
theorem found_good (b : Beliefs) (x : Int) : Good b (foundOf b x) := good_fnd (spO_ok b) 25 x [] (Good.nil b)
theorem found_len {b : Beliefs} (x : Int) : (foundOf b x).length ≤ 60 := by
  cases h : isStrat b with
  | false => rw [← found_f h]; simp
  | true =>
    have := good_len (found_good b x)
    have := isB_len (strat_b h)
    omega
end Go.Sy

namespace Go.Sy

/-! ### ascending parts of a list -/
def repAt (l free : List Int) (k : Nat) : Bool :=
  match l[k]? with
  | none => false
  | some x => free.contains x && (k == 0 || match l[k - 1]? with | none => false | some y => decide (y < x))
theorem repAt_t0 {l free : List Int} {x : Int} {k : Nat} (hx : l[k]? = some x) (hc : free.contains x = true) (h : k = 0) : repAt l free k = true := by
  unfold repAt; rw [hx]; simp only [hc, h]; rfl
theorem repAt_t1 {l free : List Int} {x y : Int} {k : Nat} (hx : l[k]? = some x) (hc : free.contains x = true) (hy : l[k - 1]? = some y) (h : y < x) : repAt l free k = true := by
  unfold repAt; rw [hx, hy]; simp only [hc, decide_eq_true h, Bool.or_true, Bool.and_self]
theorem repAt_f1 {l free : List Int} {x : Int} {k : Nat} (hx : l[k]? = some x) (hc : free.contains x = false) : repAt l free k = false := by
  unfold repAt; rw [hx]; simp only [hc, Bool.false_and]
theorem repAt_f2 {l free : List Int} {x y : Int} {k : Nat} (hx : l[k]? = some x) (hk : 0 < k) (hy : l[k - 1]? = some y) (h : ¬ y < x) : repAt l free k = false := by
  unfold repAt; rw [hx, hy]
  have : (k == 0) = false := by rw [beq_eq_false_iff_ne]; omega
  simp only [this, decide_eq_false h, Bool.or_self, Bool.and_false]
theorem repAt_iff {l free : List Int} {n : Int} (hf : asc free n = true) {k : Nat} (hk : k < l.length) : repAt l free k = (ascAt l n k && (match l[k]? with | some x => free.contains x | none => false)) := by
  obtain ⟨x, hx⟩ := some_of_lt hk
  unfold repAt ascAt
  rw [hx]
  simp only
  cases hc : free.contains x with
  | false => simp
  | true =>
    have := asc_m hf (List.contains_iff_mem.1 hc)
    have e1 : (!decide (x < 0)) = true := by simp; omega
    have e2 : (!decide (n ≤ x)) = true := by simp; omega
    rw [e1, e2]
    simp only [Bool.true_and, Bool.and_true]
    congr 1
    cases l[k - 1]? with
    | none => rfl
    | some y =>
      simp only
      rw [Bool.eq_iff_iff]
      simp
theorem rep_all {l free : List Int} {n : Int} (hf : asc free n = true) : (asc l n && l.all (fun x => free.contains x)) = true ↔ ∀ i, i < l.length → repAt l free i = true := by
  rw [Bool.and_eq_true]
  unfold asc
  rw [List.all_eq_true, List.all_eq_true]
  constructor
  · rintro ⟨h1, h2⟩ i hi
    rw [repAt_iff hf hi, h1 i (by simpa using hi)]
    obtain ⟨x, hx⟩ := some_of_lt hi
    rw [hx]
    simpa using h2 x (List.mem_of_getElem? hx)
  · intro h
    refine ⟨fun i hi => ?_, fun x hx => ?_⟩
    · have := h i (by simpa using hi)
      rw [repAt_iff hf (by simpa using hi), Bool.and_eq_true] at this
      exact this.1
    · obtain ⟨i, hi⟩ := List.getElem?_of_mem hx
      have := h i (lt_of_some hi)
      rw [repAt_iff hf (lt_of_some hi), Bool.and_eq_true, hi] at this
      exact this.2
noncomputable def isRep (b : Beliefs) (bad free l : List Int) : Bool := isCase b bad free && (asc l b.Reasons.length && l.all (fun x => free.contains x)) && decide ((badL (dropR b l) bad).length = 0)
theorem rep_n1 {b : Beliefs} {bad free l : List Int} (h : isCase b bad free = false) : false = isRep b bad free l := by simp [isRep, h]
theorem rep_n2 {b : Beliefs} {bad free l : List Int} (h : isCase b bad free = true) {k : Nat} (hk : k < l.length) (hr : repAt l free k = false) : false = isRep b bad free l := by
  have : (asc l (b.Reasons.length : Int) && l.all (fun x => free.contains x)) = false := by
    rw [Bool.eq_false_iff]
    intro e
    have := (rep_all (case_fa h)).1 e k hk
    rw [hr] at this
    cases this
  unfold isRep
  rw [this]; simp
theorem rep_n3 {b : Beliefs} {bad free l : List Int} (h : asc l (b.Reasons.length : Int) = false) : false = isRep b bad free l := by simp [isRep, h]
theorem rep_n4 {b : Beliefs} {bad free l : List Int} (h : l.all (fun x => free.contains x) = false) : false = isRep b bad free l := by
  unfold isRep
  rw [h]; simp
theorem rep_y {b : Beliefs} {bad free l : List Int} (h : isCase b bad free = true) (hi : ∀ i, i < l.length → repAt l free i = true) : (((badL (dropR b l) bad).length : Int) == 0) = isRep b bad free l := by
  unfold isRep
  rw [h, (rep_all (case_fa h)).2 hi, Bool.eq_iff_iff]
  simp
theorem rep_y2 {b : Beliefs} {bad free l : List Int} (h : isCase b bad free = true) (h1 : asc l (b.Reasons.length : Int) = true) (h2 : l.all (fun x => free.contains x) = true) : (((bad.filter (inL (labelsOf (dropR b l)))).length : Int) == 0) = isRep b bad free l := by
  unfold isRep
  have ha : asc bad b.Nodes = true := case_a h
  have ha : asc bad (dropR b l).Nodes = true := ha
  rw [h, h1, h2, badL_eq ((dropR_sub b l).strat (case_s h)) ha, Bool.eq_iff_iff]
  simp

/-! ### culprits -/
noncomputable def inF (b : Beliefs) (x : Int) (k : Int) : Bool := (foundOf b x).contains k
noncomputable def culps (b : Beliefs) (x : Int) (free : List Int) : List Int := free.filter (inF b x)
theorem culps_len (b : Beliefs) (x : Int) (free : List Int) : (culps b x free).length ≤ free.length := List.length_filter_le _ _

/-! ### foundations that are given -/
def rsAt (b : Beliefs) (s : Int) : Reason := (b.Reasons[s.toNat]?).getD default
theorem rsAt_of {b : Beliefs} {s : Int} {r : Reason} (h : b.Reasons[s.toNat]? = some r) : rsAt b s = r := by simp [rsAt, h]
def hvT (b : Beliefs) (l : List Int) (k : Nat) (y : Nat) : Bool := (l.take k).any (fun s => (rsAt b s).For.toNat == y)
theorem hvT_step {b : Beliefs} {l : List Int} {k : Nat} {s : Int} {r : Reason} (hs : l[k]? = some s) (hr : b.Reasons[s.toNat]? = some r) : upd (hvT b l k) r.For.toNat true = hvT b l (k + 1) := by
  funext y
  unfold upd hvT
  rw [take_snoc hs, List.any_append]
  simp only [List.any_cons, List.any_nil, Bool.or_false, rsAt_of hr]
  by_cases e : y = r.For.toNat
  · rw [if_pos e, e]; simp
  · rw [if_neg e]
    have : (r.For.toNat == y) = false := by rw [beq_eq_false_iff_ne]; exact fun h => e h.symm
    rw [this, Bool.or_false]
noncomputable def fOk (b : Beliefs) (l : List Int) (k : Nat) : Bool := match l[k]? with
  | none => false
  | some s => (rsAt b s).In.all (fun y => hvT b l k y.toNat) && (rsAt b s).Out.all (fun y => !(lbs b y.toNat))
def ixOk (b : Beliefs) (s : Int) : Bool := decide (0 ≤ s) && decide (s < b.Reasons.length)
noncomputable def isFnd (b : Beliefs) (x : Int) (l : List Int) : Bool := isStrat b && decide (0 < l.length) && (l.all (ixOk b) && (List.range l.length).all (fOk b l)) && decide ((rsAt b ((l[l.length - 1]?).getD 0)).For = x)
theorem fnd_n1 {b : Beliefs} {x : Int} {l : List Int} (h : isStrat b = false) : false = isFnd b x l := by simp [isFnd, h]
theorem fnd_n2 {b : Beliefs} {x : Int} {l : List Int} (h : l.length = 0) : false = isFnd b x l := by simp [isFnd, h]
theorem fnd_n3 {b : Beliefs} {x s : Int} {l : List Int} {k : Nat} (hs : l[k]? = some s) (h : ¬ (0 ≤ s ∧ s < b.Reasons.length)) : false = isFnd b x l := by
  have : ixOk b s = false := by
    unfold ixOk
    rw [Bool.eq_false_iff]
    simp only [ne_eq, Bool.and_eq_true, decide_eq_true_eq]
    exact h
  unfold isFnd
  rw [all_bad (p := ixOk b) hs this]; simp
theorem fnd_n4 {b : Beliefs} {x s : Int} {l : List Int} {k : Nat} (hs : l[k]? = some s) (h : fOk b l k = false) : false = isFnd b x l := by
  have : (List.range l.length).all (fOk b l) = false := by
    rw [List.all_eq_false]
    exact ⟨k, by simpa using lt_of_some hs, by simp [h]⟩
  unfold isFnd
  rw [this]; simp
theorem fOk_in {b : Beliefs} {l : List Int} {k j : Nat} {s y : Int} {r : Reason} (hs : l[k]? = some s) (hr : b.Reasons[s.toNat]? = some r) (hy : r.In[j]? = some y) (h : hvT b l k y.toNat = false) : fOk b l k = false := by
  unfold fOk
  rw [hs]
  simp only [rsAt_of hr]
  rw [all_bad (p := fun y => hvT b l k y.toNat) hy h]; rfl
theorem fOk_out {b : Beliefs} {l : List Int} {k j : Nat} {s y : Int} {r : Reason} (hs : l[k]? = some s) (hr : b.Reasons[s.toNat]? = some r) (hy : r.Out[j]? = some y) (h : lbs b y.toNat = true) : fOk b l k = false := by
  unfold fOk
  rw [hs]
  simp only [rsAt_of hr]
  rw [all_bad (p := fun y => !(lbs b y.toNat)) hy (by simp [h])]; simp
theorem fOk_t {b : Beliefs} {l : List Int} {k : Nat} {s : Int} {r : Reason} (hs : l[k]? = some s) (hr : b.Reasons[s.toNat]? = some r) (h1 : ∀ i, i < r.In.length → ∀ y, r.In[i]? = some y → hvT b l k y.toNat = true) (h2 : ∀ i, i < r.Out.length → ∀ y, r.Out[i]? = some y → (!(lbs b y.toNat)) = true) : fOk b l k = true := by
  unfold fOk
  rw [hs]
  simp only [rsAt_of hr]
  rw [all_of_idx (α := Int) (l := r.In) (p := fun y => hvT b l k y.toNat) h1, all_of_idx (α := Int) (l := r.Out) (p := fun y => !(lbs b y.toNat)) h2]; rfl
theorem fnd_y {b : Beliefs} {x s : Int} {l : List Int} {r : Reason} (h0 : isStrat b = true) (h1 : 0 < l.length) (h2 : ∀ i, i < l.length → ∀ s, l[i]? = some s → 0 ≤ s ∧ s < b.Reasons.length) (h3 : ∀ i, i < l.length → fOk b l i = true) (hs : l[l.length - 1]? = some s) (hr : b.Reasons[s.toNat]? = some r) : (r.For == x) = isFnd b x l := by
  have e1 : l.all (ixOk b) = true := all_of_idx (fun i hi s hs => by
    have := h2 i hi s hs
    unfold ixOk
    simp [this.1, this.2])
  have e2 : (List.range l.length).all (fOk b l) = true := by
    rw [List.all_eq_true]
    intro i hi
    exact h3 i (by simpa using hi)
  unfold isFnd
  rw [h0, e1, e2, decide_eq_true h1, hs, Option.getD_some, rsAt_of hr, Bool.eq_iff_iff]
  simp
theorem all_hv {b : Beliefs} {l : List Int} {k n : Nat} {r : Reason} (ha : asc r.In (n : Int) = true) (h : r.In.all (lI (vec n (hvT b l k))) = true) : ∀ i, i < r.In.length → ∀ y, r.In[i]? = some y → hvT b l k y.toNat = true := fun _ _ y hy => all_vec ha h y (List.mem_of_getElem? hy)
theorem not_hv {b : Beliefs} {l : List Int} {k n : Nat} {s : Int} {r : Reason} (hs : l[k]? = some s) (hr : b.Reasons[s.toNat]? = some r) (ha : asc r.In (n : Int) = true) (h : r.In.all (lI (vec n (hvT b l k))) = false) : fOk b l k = false := by
  rw [List.all_eq_false] at h
  obtain ⟨y, hy, hn⟩ := h
  obtain ⟨j, hj⟩ := List.getElem?_of_mem hy
  refine fOk_in hs hr hj ?_
  have h2 := asc_m ha hy
  unfold lI at hn
  rw [atB_of (vec_get (by omega))] at hn
  simpa using hn
theorem labelsOf_n {b : Beliefs} (h : isStrat b = true) : (labelsOf b).length = b.Nodes.toNat := by rw [labelsOf_t h, vec_len]
theorem labelsOf_at {b : Beliefs} (h : isStrat b = true) {k : Nat} {v : Bool} (hv : (labelsOf b)[k]? = some v) : lbs b k = v := by
  have hk := lt_of_some hv
  rw [labelsOf_n h] at hk
  rw [labelsOf_t h, vec_get hk] at hv
  simpa using hv
end Go.Sy

namespace Go.Sy

def pfOk (f : Frame) : Bool := isFrame f && decide (f.Beliefs.Reasons.length + f.Assumed.length ≤ 60)
def pfT (f : Frame) (k : Nat) : List Reason := f.Beliefs.Reasons ++ (f.Assumed.take k).map prem
def pfLT (f : Frame) (k : Nat) : List Int := (List.range k).map (fun i => ((f.Beliefs.Reasons.length + i : Nat) : Int))
def pfB (f : Frame) : Beliefs := if pfOk f then ⟨f.Beliefs.Nodes, f.Beliefs.Reasons ++ f.Assumed.map prem⟩ else ⟨0, []⟩
def pfL (f : Frame) : List Int := if pfOk f then pfLT f f.Assumed.length else []
theorem pfT_zero (f : Frame) : f.Beliefs.Reasons = pfT f 0 := by simp [pfT]
theorem pfT_step {f : Frame} {k : Nat} {x : Int} (h : f.Assumed[k]? = some x) : pfT f k ++ [⟨x, [], []⟩] = pfT f (k + 1) := by
  unfold pfT
  rw [take_snoc h, List.map_append, ← List.append_assoc]; rfl
theorem pfT_len {f : Frame} {k : Nat} (h : k ≤ f.Assumed.length) : (pfT f k).length = f.Beliefs.Reasons.length + k := by
  unfold pfT
  rw [List.length_append, List.length_map, List.length_take]
  omega
theorem pfLT_step {f : Frame} {k : Nat} (h : k ≤ f.Assumed.length) : pfLT f k ++ [((pfT f k).length : Int)] = pfLT f (k + 1) := by
  unfold pfLT
  rw [List.range_succ, List.map_append, pfT_len h]; rfl
theorem pfLT_len (f : Frame) (k : Nat) : (pfLT f k).length = k := by simp [pfLT]
theorem pf_f {f : Frame} (h : pfOk f = false) : (⟨0, []⟩ : Beliefs) = pfB f ∧ [] = pfL f ∧ false = pfOk f := by
  unfold pfB pfL
  rw [h]
  exact ⟨rfl, rfl, rfl⟩
theorem pf_1 {f : Frame} (h : isFrame f = false) : pfOk f = false := by simp [pfOk, h]
theorem pf_2 {f : Frame} (h : ¬ f.Beliefs.Reasons.length + f.Assumed.length ≤ 60) : pfOk f = false := by
  unfold pfOk
  rw [decide_eq_false h]; simp
theorem pf_t {f : Frame} {k : Nat} (h : isFrame f = true) (h2 : f.Beliefs.Reasons.length + f.Assumed.length ≤ 60) (hk : k = f.Assumed.length) : (⟨f.Beliefs.Nodes, pfT f k⟩ : Beliefs) = pfB f ∧ pfLT f k = pfL f ∧ true = pfOk f := by
  subst hk
  have ok : pfOk f = true := by unfold pfOk; rw [h, decide_eq_true h2]; rfl
  unfold pfB pfL
  rw [ok]
  refine ⟨?_, rfl, rfl⟩
  unfold pfT
  rw [List.take_length]; rfl
theorem sumC_prem (l : List Int) : sumC cR (l.map prem) = l.length := by
  induction l with
  | nil => rfl
  | cons x l ih => simp only [sumC, List.map_cons, List.sum_cons, List.length_cons] at ih ⊢; rw [ih]; simp [cR, prem]; omega
theorem pfB_sum (f : Frame) : sumC cR (pfB f).Reasons ≤ cFr f := by
  unfold pfB
  split
  · show sumC cR (f.Beliefs.Reasons ++ f.Assumed.map prem) ≤ cFr f
    have : sumC cR (f.Beliefs.Reasons ++ f.Assumed.map prem) = sumC cR f.Beliefs.Reasons + sumC cR (f.Assumed.map prem) := by simp [sumC]
    rw [this, sumC_prem]
    unfold cFr
    omega
  · exact Nat.zero_le _
theorem pfL_len (f : Frame) : (pfL f).length ≤ cFr f := by
  unfold pfL
  split
  · rw [pfLT_len]; unfold cFr; omega
  · exact Nat.zero_le _
end Go.Sy

namespace Go.Sy
open Go Go.RowKit

section
variable {P : Program} {N : Nat} {w0 : World} {H : List Chunk} {L : Fm} {Q : Exit → Act → World → Prop} {o : Oper} {d : Nat} {K : Act → World → Prop}
theorem bx_at {g k : Nat} {cs : List Value} {w : World} (hs : St w0 H w) (hk : H[k]? = some (bx g cs)) : AtE w ⟨g, 0, none⟩ cs := fun j u hu => by
  rw [add_none, Nat.zero_add]
  exact bx_cell hk hu w hs
/-- a function with what it has caught -/
theorem D_mf {f : Nat} {cap : List Operand} {vs : List Value} (ho : o.op = .makeFunc (.func f) #[] cap.toArray) (ha : evs L cap = some vs) : RunV P N w0 H L o (.func (.func f) #[] vs.toArray) := by
  intro a w hf _
  have he : (cap.toArray.map a.eval) = vs.toArray := by rw [List.map_toArray, hf.evs ha]
  unfold execOp
  rw [ho]
  simp [Instr.makeFunc, he]
theorem cvf {f : Nat} {x : Operand} {as : List Operand} {vs cs : List Value} {tys : Array TypeId} {v : Value} (hb : hasBody P f = true)
    (ho : o.op = .call ⟨.value x, as.toArray, tys⟩) (hx : ev L x = some (.func (.func f) #[] cs.toArray)) (ha : evs L as = some vs) (hd : o.dst = some d) (hN : Nat.blt d N = true)
    (hc : ∀ w, St w0 H w → Calls P f (vs ++ cs).toArray w (Val w v))
    (k : D N w0 H ((d, v) :: L) K) : D N w0 H L (fun a w => o.wp P a w K Q) := by
  intro a w hf hs
  show o.wp P a w K Q
  unfold hasBody at hb
  split at hb
  · rename_i fn hfn
    simp only [Bool.and_eq_true, Bool.not_eq_true'] at hb
    have hrun : (execOp a.eval o).run P w = .ok (.enter f (vs ++ cs).toArray) w := by
      unfold execOp
      rw [ho]
      have hbody : fn.body.isNone = false := by rw [← Option.not_isSome, hb.2]; rfl
      have he : (as.toArray.map a.eval) = vs.toArray := by rw [List.map_toArray, hf.evs ha]
      have hf0 : a.eval x = .func (.func f) #[] cs.toArray := hf.ev hx
      simp only [resolve, hf0, Deferred.ofValue, he, Sem.run_bind, Sem.run_pure, Result.andThen_ok, invoke, callFunc, program]
      have hnm : ¬ fn.name = "runtime.NumGoroutine" := by simpa using hb.1
      have hbn : ¬ fn.body = none := by intro e; rw [e] at hbody; cases hbody
      simp [Sem.run, hfn, hnm, hbn]
    unfold Oper.wp
    rw [hrun, Oper.upon_enter]
    refine (hc w hs).mono fun e w' he => ?_
    obtain ⟨rfl, hx⟩ := he
    simp only
    rw [hd]
    exact k _ _ (hf.put hN _) (hs.ext hx)
  · cases hb
end

def isPartB (a b : Int) : Bool := decide (0 ≤ a) && decide (0 ≤ b) && (andZ a b == a)
def fidZ (p : Int → Bool) (k : Nat) : List Int := fidx (fun i => p (i : Int)) k
theorem fidZ_t {p : Int → Bool} {k : Nat} (h : p (k : Int) = true) : fidZ p k ++ [(k : Int)] = fidZ p (k + 1) := fidx_t (p := fun i => p (i : Int)) h
theorem fidZ_f {p : Int → Bool} {k : Nat} (h : p (k : Int) = false) : fidZ p k = fidZ p (k + 1) := fidx_f (p := fun i => p (i : Int)) h
theorem fidZ_len (p : Int → Bool) (k : Nat) : (fidZ p k).length ≤ k := fidx_len _ k
noncomputable def consB (f : Frame) (set : Int) : Bool := f.Bad.all (lO (unds f set))
noncomputable def setN (f : Frame) : Nat := if isFrame f then (shlZ 1 f.Assumed.length).toNat else 0
theorem setN_t {f : Frame} (h : isFrame f = true) : setN f = (shlZ 1 f.Assumed.length).toNat := by unfold setN; rw [if_pos h]
theorem setN_le (f : Frame) : setN f ≤ 256 := by
  unfold setN
  split
  · rename_i h
    have := shl_rng (k := f.Assumed.length) (by have := frame_al h; omega)
    omega
  · omega
theorem setN_iff {f : Frame} {k : Nat} : (isFrame f && isSetB f (k : Int)) = decide (k < setN f) := by
  unfold setN
  cases h : isFrame f with
  | false => simp
  | true =>
    have := shl_rng (k := f.Assumed.length) (by have := frame_al h; omega)
    rw [if_pos rfl, Bool.true_and, Bool.eq_iff_iff]
    simp only [isSetB, Bool.and_eq_true, decide_eq_true_eq]
    omega
noncomputable def allS (f : Frame) : List Int := fidZ (isCons f) (setN f)
theorem allS_eq {f : Frame} (h : isFrame f = true) : fidZ (consB f) (shlZ 1 f.Assumed.length).toNat = allS f := by
  unfold allS
  rw [setN_t h]
  refine fidx_congr fun x hx => ?_
  have h2 : (isFrame f && isSetB f (x : Int)) = true := by rw [setN_iff, decide_eq_true_eq, setN_t h]; exact hx
  show consB f x = isCons f x
  unfold isCons consB
  rw [h2, Bool.true_and]
theorem allS_len (f : Frame) : (allS f).length ≤ 256 := Nat.le_trans (fidZ_len _ _) (setN_le f)
def grOne (s t : Int) : Bool := (t == s) || !(isPartB s t)
def grB (l : List Int) (s : Int) : Bool := l.all (grOne s)
def grT (l : List Int) (s : Int) (m : Nat) : Bool := (l.take m).all (grOne s)
theorem grT_step {l : List Int} {s t : Int} {m : Nat} {v : Bool} (ht : l[m]? = some t) (hv : v = (grT l s m && grOne s t)) : v = grT l s (m + 1) := by
  unfold grT at hv ⊢
  rw [take_snoc ht, List.all_append, hv]
  simp
theorem grT_done {l : List Int} {s : Int} {m : Nat} (h : l.length ≤ m) : grT l s m = grB l s := by
  unfold grT grB
  rw [List.take_of_length_le h]
noncomputable def greatS (f : Frame) : List Int := (allS f).filter (grB (allS f))
theorem greatS_len (f : Frame) : (greatS f).length ≤ 256 := Nat.le_trans (List.length_filter_le _ _) (allS_len f)
theorem greatS_f {f : Frame} (h : isFrame f = false) : [] = greatS f := by
  have : allS f = [] := by unfold allS setN; rw [h]; rfl
  unfold greatS
  rw [this]; rfl
end Go.Sy
