/-
  Rounds: which node comes in when.
  Conditions: none.
-/
import Derived.Test.YtkdghbglefhcjaaStrata
namespace Go.Sy

def atZ (l : List Int) (x : Nat) : Int := (l[x]?).getD 0
theorem atZ_of {l : List Int} {x : Nat} {z : Int} (h : l[x]? = some z) : atZ l x = z := by simp [atZ, h]
theorem atZ_vec {n x : Nat} {g : Nat → Int} (h : x < n) : atZ (vec n g) x = g x := atZ_of (vec_get h)
def befL (l : List Int) (rd : Int) (y : Int) : Bool := decide (0 ≤ atZ l y.toNat) && decide (atZ l y.toNat < rd)
def nonL (l : List Int) (y : Int) : Bool := decide (atZ l y.toNat < 0)
def supL (r : Reason) (l : List Int) (rd : Int) : Bool := r.In.all (befL l rd) && r.Out.all (nonL l)
theorem befL_f {l : List Int} {rd y z : Int} (h : l[y.toNat]? = some z) (hz : z < 0 ∨ rd ≤ z) : befL l rd y = false := by
  unfold befL
  rw [atZ_of h, Bool.eq_false_iff]
  simp only [ne_eq, Bool.and_eq_true, decide_eq_true_eq]
  omega
theorem befL_t {l : List Int} {rd y z : Int} (h : l[y.toNat]? = some z) (hz : 0 ≤ z ∧ z < rd) : befL l rd y = true := by
  unfold befL
  rw [atZ_of h]
  simp [hz.1, hz.2]
theorem nonL_f {l : List Int} {y z : Int} (h : l[y.toNat]? = some z) (hz : 0 ≤ z) : nonL l y = false := by
  unfold nonL
  rw [atZ_of h, decide_eq_false_iff_not]
  omega
theorem nonL_t {l : List Int} {y z : Int} (h : l[y.toNat]? = some z) (hz : z < 0) : nonL l y = true := by
  unfold nonL
  rw [atZ_of h, decide_eq_true_eq]
  exact hz
theorem supL_in {r : Reason} {l : List Int} {rd y : Int} {k : Nat} (hy : r.In[k]? = some y) (h : befL l rd y = false) : false = supL r l rd := by
  unfold supL
  rw [all_bad (p := befL l rd) hy h]; rfl
theorem supL_out {r : Reason} {l : List Int} {rd y : Int} {k : Nat} (hy : r.Out[k]? = some y) (h : nonL l y = false) : false = supL r l rd := by
  unfold supL
  rw [all_bad (p := nonL l) hy h]; simp
theorem supL_y {r : Reason} {l : List Int} {rd : Int} (h1 : ∀ i, i < r.In.length → ∀ y, r.In[i]? = some y → befL l rd y = true) (h2 : ∀ i, i < r.Out.length → ∀ y, r.Out[i]? = some y → nonL l y = true) : true = supL r l rd := by
  unfold supL
  rw [all_of_idx h1, all_of_idx h2]; rfl

def supG (g : Nat → Int) (rd : Int) (r : Reason) : Bool := r.In.all (fun y => decide (0 ≤ g y.toNat) && decide (g y.toNat < rd)) && r.Out.all (fun y => decide (g y.toNat < 0))
theorem all_congr {l : List Int} {p q : Int → Bool} (h : ∀ y ∈ l, p y = q y) : l.all p = l.all q := by
  rw [Bool.eq_iff_iff, List.all_eq_true, List.all_eq_true]
  exact ⟨fun hp y hy => by rw [← h y hy]; exact hp y hy, fun hq y hy => by rw [h y hy]; exact hq y hy⟩
theorem supL_vec {r : Reason} {n : Nat} {g : Nat → Int} {rd : Int} (h : isReason r (n : Int) = true) : supL r (vec n g) rd = supG g rd r := by
  unfold supL supG
  congr 1
  · refine all_congr fun y hy => ?_
    have := asc_m (isR_in h) hy
    unfold befL
    rw [atZ_vec (by omega)]
  · refine all_congr fun y hy => ?_
    have := asc_m (isR_out h) hy
    unfold nonL
    rw [atZ_vec (by omega)]

/-! ### one round after another -/
noncomputable def comesR (b : Beliefs) (lev rd : Int) (g : Nat → Int) (r : Reason) : Bool := decide (strat b r.For.toNat = lev) && decide (g r.For.toNat < 0) && supG g rd r
noncomputable def comes (b : Beliefs) (lev rd : Int) (g : Nat → Int) (x : Nat) : Bool := b.Reasons.any (fun r => decide (r.For = (x : Int)) && comesR b lev rd g r)
structure RS where
  lev : Nat
  g : Nat → Int
  rd : Nat
noncomputable def upR (b : Beliefs) (lev rd : Int) (g : Nat → Int) : Nat → Int := fun x => if comes b lev rd g x then rd else g x
noncomputable def stpR (b : Beliefs) (s : RS) : RS := if b.Reasons.any (comesR b s.lev s.rd s.g) then ⟨s.lev, upR b s.lev s.rd s.g, s.rd + 1⟩ else ⟨s.lev + 1, s.g, s.rd⟩
noncomputable def itr (b : Beliefs) : Nat → RS
  | 0 => ⟨0, fun _ => -1, 0⟩
  | k + 1 => stpR b (itr b k)
def Rch (b : Beliefs) (s : RS) : Prop := ∃ k, itr b k = s
theorem Rch.init (b : Beliefs) : Rch b ⟨0, fun _ => -1, 0⟩ := ⟨0, rfl⟩
theorem Rch.next {b : Beliefs} {lev rd : Nat} {g : Nat → Int} (h : Rch b ⟨lev, g, rd⟩) (hn : b.Reasons.any (comesR b lev rd g) = false) : Rch b ⟨lev + 1, g, rd⟩ := by
  obtain ⟨k, hk⟩ := h
  refine ⟨k + 1, ?_⟩
  show stpR b (itr b k) = _
  rw [hk]
  unfold stpR
  simp [hn]
theorem Rch.step {b : Beliefs} {lev rd : Nat} {g g' : Nat → Int} (h : Rch b ⟨lev, g, rd⟩) (hn : b.Reasons.any (comesR b lev rd g) = true) (hg : g' = upR b lev rd g) : Rch b ⟨lev, g', rd + 1⟩ := by
  obtain ⟨k, hk⟩ := h
  refine ⟨k + 1, ?_⟩
  show stpR b (itr b k) = _
  rw [hk]
  unfold stpR
  simp [hn, hg]

theorem comes_of {b : Beliefs} {lev rd : Int} {g : Nat → Int} {r : Reason} (ho : okB b = true) (hr : r ∈ b.Reasons) (hc : comesR b lev rd g r = true) : comes b lev rd g r.For.toNat = true ∧ (r.For.toNat : Int) < b.Nodes ∧ g r.For.toNat < 0 ∧ strat b r.For.toNat = lev := by
  have hF := isR_for (okB_m ho hr)
  have h2 := hc
  simp only [comesR, Bool.and_eq_true, decide_eq_true_eq] at h2
  refine ⟨?_, by omega, h2.1.2, h2.1.1⟩
  unfold comes
  rw [List.any_eq_true]
  refine ⟨r, hr, ?_⟩
  rw [hc, Bool.and_true, decide_eq_true_eq]
  omega
theorem comes_parts {b : Beliefs} {lev rd : Int} {g : Nat → Int} {x : Nat} (h : comes b lev rd g x = true) : ∃ r ∈ b.Reasons, r.For = (x : Int) ∧ comesR b lev rd g r = true ∧ g x < 0 ∧ strat b x = lev ∧ supG g rd r = true := by
  unfold comes at h
  rw [List.any_eq_true] at h
  obtain ⟨r, hr, h⟩ := h
  simp only [Bool.and_eq_true, decide_eq_true_eq] at h
  have h2 := h.2
  simp only [comesR, Bool.and_eq_true, decide_eq_true_eq, h.1, Int.toNat_natCast] at h2
  exact ⟨r, hr, h.1, h.2, h2.1.2, h2.1.1, h2.2⟩
def nn (g : Nat → Int) (x : Nat) : Bool := decide (0 ≤ g x)
theorem up_cnt {b : Beliefs} {n : Nat} (hn : b.Nodes = n) (ho : okB b = true) {lev rd : Nat} {g : Nat → Int} (h : b.Reasons.any (comesR b lev rd g) = true) : cnt n (nn g) + 1 ≤ cnt n (nn (upR b lev rd g)) := by
  rw [List.any_eq_true] at h
  obtain ⟨r, hr, hc⟩ := h
  obtain ⟨h1, h2, h3, _⟩ := comes_of ho hr hc
  refine cnt_lt (y := r.For.toNat) (fun x _ hx => ?_) (by omega) ?_ ?_
  · have hx := of_decide_eq_true hx
    refine decide_eq_true ?_
    unfold upR
    split <;> omega
  · exact decide_eq_false (by omega)
  · refine decide_eq_true ?_
    unfold upR
    rw [if_pos h1]
    omega
theorem Rch.rd_le {b : Beliefs} {n : Nat} (hn : b.Nodes = n) (ho : okB b = true) {s : RS} (h : Rch b s) : s.rd ≤ cnt n (nn s.g) := by
  obtain ⟨k, rfl⟩ := h
  induction k with
  | zero => exact Nat.zero_le _
  | succ k ih =>
    show (stpR b (itr b k)).rd ≤ cnt n (nn (stpR b (itr b k)).g)
    unfold stpR
    split
    · rename_i h
      have := up_cnt hn ho h
      simp only
      omega
    · exact ih
theorem Rch.rd_n {b : Beliefs} {n : Nat} (hn : b.Nodes = n) (ho : okB b = true) {s : RS} (h : Rch b s) : s.rd ≤ n := Nat.le_trans (h.rd_le hn ho) (cnt_le n _)

theorem itr_stay {b : Beliefs} (ho : okB b = true) {k : Nat} (h : ∀ x : Nat, (x : Int) < b.Nodes → strat b x < (itr b k).lev) : ∀ m, (itr b (k + m)).g = (itr b k).g ∧ (itr b (k + m)).lev = (itr b k).lev + m
  | 0 => ⟨rfl, rfl⟩
  | m + 1 => by
    obtain ⟨h1, h2⟩ := itr_stay ho h m
    have hno : b.Reasons.any (comesR b (itr b (k + m)).lev (itr b (k + m)).rd (itr b (k + m)).g) = false := by
      rw [Bool.eq_false_iff]
      intro hc
      rw [List.any_eq_true] at hc
      obtain ⟨r, hr, hc⟩ := hc
      obtain ⟨_, h4, _, h5⟩ := comes_of ho hr hc
      have := h _ h4
      omega
    show (stpR b (itr b (k + m))).g = _ ∧ (stpR b (itr b (k + m))).lev = _
    unfold stpR
    rw [hno]
    exact ⟨h1, by show (itr b (k + m)).lev + 1 = _; omega⟩
open Classical in
noncomputable def rnds (b : Beliefs) : Nat → Int := if h : ∃ s, Rch b s ∧ b.Nodes ≤ (s.lev : Int) then (Classical.choose h).g else fun _ => -1
theorem rnds_eq {b : Beliefs} (ho : okB b = true) (hs : HasSol b) {s : RS} (h : Rch b s) (hl : ∀ x : Nat, (x : Int) < b.Nodes → strat b x < s.lev) : rnds b = s.g := by
  obtain ⟨k, hk⟩ := h
  have hl' : ∀ x : Nat, (x : Int) < b.Nodes → strat b x < (itr b k).lev := by rw [hk]; exact hl
  have hex : ∃ s, Rch b s ∧ b.Nodes ≤ (s.lev : Int) := by
    refine ⟨itr b (k + b.Nodes.toNat), ⟨_, rfl⟩, ?_⟩
    have := (itr_stay ho hl' b.Nodes.toNat).2
    omega
  unfold rnds
  rw [dif_pos hex]
  obtain ⟨⟨j, hj⟩, hjl⟩ := Classical.choose_spec hex
  have hjl' : ∀ x : Nat, (x : Int) < b.Nodes → strat b x < (itr b j).lev := fun x hx => by
    have := strat_lt hs hx
    rw [hj]; omega
  rw [← hj, ← hk]
  rcases Nat.le_total j k with hle | hle
  · obtain ⟨m, rfl⟩ := Nat.le.dest hle
    exact (itr_stay ho hjl' m).1.symm
  · obtain ⟨m, rfl⟩ := Nat.le.dest hle
    exact (itr_stay ho hl' m).1

/-! ### the two ways to find who comes -/
noncomputable def comeL (b : Beliefs) (lev rd : Int) (g : Nat → Int) (k : Nat) : List Int := ((b.Reasons.take k).filter (comesR b lev rd g)).map (·.For)
theorem comeL_t {b : Beliefs} {lev rd : Int} {g : Nat → Int} {k : Nat} {r : Reason} (hr : b.Reasons[k]? = some r) (h : comesR b lev rd g r = true) : comeL b lev rd g k ++ [r.For] = comeL b lev rd g (k + 1) := by
  unfold comeL
  rw [take_snoc hr, List.filter_append, List.map_append]
  simp [h]
theorem comeL_f {b : Beliefs} {lev rd : Int} {g : Nat → Int} {k : Nat} {r : Reason} (hr : b.Reasons[k]? = some r) (h : comesR b lev rd g r = false) : comeL b lev rd g k = comeL b lev rd g (k + 1) := by
  unfold comeL
  rw [take_snoc hr, List.filter_append, List.map_append]
  simp [h]
theorem comeL_len (b : Beliefs) (lev rd : Int) (g : Nat → Int) (k : Nat) : (comeL b lev rd g k).length ≤ k := by
  unfold comeL
  rw [List.length_map]
  exact Nat.le_trans (List.length_filter_le _ _) (by rw [List.length_take]; omega)
theorem comeL_any {b : Beliefs} {lev rd : Int} {g : Nat → Int} {k : Nat} (hk : b.Reasons.length ≤ k) : b.Reasons.any (comesR b lev rd g) = decide (0 < (comeL b lev rd g k).length) := by
  unfold comeL
  rw [List.take_of_length_le hk, List.length_map, Bool.eq_iff_iff, List.any_eq_true, decide_eq_true_eq, List.length_pos_iff_exists_mem]
  constructor
  · rintro ⟨r, hr, h⟩
    exact ⟨r, List.mem_filter.2 ⟨hr, h⟩⟩
  · rintro ⟨r, h⟩
    exact ⟨r, (List.mem_filter.1 h).1, (List.mem_filter.1 h).2⟩
theorem comeL_mem {b : Beliefs} {lev rd : Int} {g : Nat → Int} {k : Nat} (hk : b.Reasons.length ≤ k) (x : Nat) : (x : Int) ∈ comeL b lev rd g k ↔ comes b lev rd g x = true := by
  unfold comeL comes
  rw [List.take_of_length_le hk, List.mem_map, List.any_eq_true]
  constructor
  · rintro ⟨r, hr, e⟩
    refine ⟨r, (List.mem_filter.1 hr).1, ?_⟩
    rw [(List.mem_filter.1 hr).2, e]
    simp
  · rintro ⟨r, hr, h⟩
    simp only [Bool.and_eq_true, decide_eq_true_eq] at h
    exact ⟨r, List.mem_filter.2 ⟨hr, h.2⟩, h.1⟩
theorem comeL_rng {b : Beliefs} (ho : okB b = true) {lev rd : Int} {g : Nat → Int} {k j : Nat} {y : Int} (h : (comeL b lev rd g k)[j]? = some y) : 0 ≤ y ∧ y < b.Nodes := by
  have h := List.mem_of_getElem? h
  unfold comeL at h
  rw [List.mem_map] at h
  obtain ⟨r, hr, rfl⟩ := h
  exact isR_for (okB_m ho (List.mem_of_mem_take (List.mem_filter.1 hr).1))
theorem comesR_vec {b : Beliefs} {n : Nat} (hn : b.Nodes = n) (ho : okB b = true) {k : Nat} {r : Reason} (hr : b.Reasons[k]? = some r) {lev rd : Int} {g : Nat → Int} : comesR b lev rd g r = (decide (strat b r.For.toNat = lev) && decide (g r.For.toNat < 0) && supL r (vec n g) rd) := by
  unfold comesR
  rw [supL_vec (by rw [← hn]; exact okB_r ho hr)]
theorem upL_zero {g : Nat → Int} {rd : Int} {l : List Int} (x : Nat) : g x = if (x : Int) ∈ l.take 0 then rd else g x := by simp
theorem upL_step {g g' : Nat → Int} {rd y : Int} {l : List Int} {m : Nat} (hy : l[m]? = some y) (h0 : 0 ≤ y) (h : ∀ x : Nat, g' x = if (x : Int) ∈ l.take m then rd else g x) : ∀ x : Nat, upd g' y.toNat rd x = if (x : Int) ∈ l.take (m + 1) then rd else g x := by
  intro x
  unfold upd
  rw [take_snoc hy]
  by_cases e : x = y.toNat
  · rw [if_pos e, if_pos (by simp; right; omega)]
  · rw [if_neg e, h x]
    have : ((x : Int) ∈ l.take m ++ [y]) ↔ (x : Int) ∈ l.take m := by
      simp only [List.mem_append, List.mem_singleton]
      constructor
      · rintro (h | h)
        · exact h
        · omega
      · exact .inl
    by_cases hm : (x : Int) ∈ l.take m
    · rw [if_pos hm, if_pos (this.2 hm)]
    · rw [if_neg hm, if_neg (fun h => hm (this.1 h))]
theorem upL_done {b : Beliefs} {lev rd : Int} {g g' : Nat → Int} {l : List Int} {m : Nat} (hm : l.length ≤ m) (hl : ∀ x : Nat, (x : Int) ∈ l ↔ comes b lev rd g x = true) (h : ∀ x : Nat, g' x = if (x : Int) ∈ l.take m then rd else g x) : g' = upR b lev rd g := by
  funext x
  rw [h x, List.take_of_length_le hm]
  unfold upR
  by_cases hx : (x : Int) ∈ l
  · rw [if_pos hx, if_pos ((hl x).1 hx)]
  · rw [if_neg hx, if_neg (fun e => hx ((hl x).2 e))]

def fidx (p : Nat → Bool) (k : Nat) : List Int := ((List.range k).filter p).map (fun (i : Nat) => (i : Int))
theorem fidx_t {p : Nat → Bool} {k : Nat} (h : p k = true) : fidx p k ++ [(k : Int)] = fidx p (k + 1) := by
  unfold fidx
  rw [List.range_succ, List.filter_append, List.map_append]
  simp [h]
theorem fidx_f {p : Nat → Bool} {k : Nat} (h : p k = false) : fidx p k = fidx p (k + 1) := by
  unfold fidx
  rw [List.range_succ, List.filter_append, List.map_append]
  simp [h]
theorem fidx_len (p : Nat → Bool) (k : Nat) : (fidx p k).length ≤ k := by
  unfold fidx
  rw [List.length_map]
  exact Nat.le_trans (List.length_filter_le _ _) (by simp)
theorem fidx_mem {p : Nat → Bool} {k : Nat} {y : Int} : y ∈ fidx p k ↔ ∃ x : Nat, x < k ∧ p x = true ∧ y = x := by
  unfold fidx
  rw [List.mem_map]
  constructor
  · rintro ⟨x, hx, rfl⟩
    have := List.mem_filter.1 hx
    exact ⟨x, by simpa using this.1, this.2, rfl⟩
  · rintro ⟨x, hx, hp, rfl⟩
    exact ⟨x, List.mem_filter.2 ⟨by simpa using hx, hp⟩, rfl⟩
theorem fidx_congr {p q : Nat → Bool} {k : Nat} (h : ∀ x, x < k → p x = q x) : fidx p k = fidx q k := by
  unfold fidx
  congr 1
  apply List.filter_congr
  intro x hx
  exact h x (by simpa using hx)
def comesZ (b : Beliefs) (st : List Int) (s : Int) (l : List Int) (rd : Int) (x : Nat) : Bool := decide (atZ st x = s) && decide (atZ l x < 0) && b.Reasons.any (fun r => decide (r.For = (x : Int)) && supL r l rd)
theorem comesZ_n1 {b : Beliefs} {st l : List Int} {s rd z : Int} {x : Nat} (h : st[x]? = some z) (hz : z ≠ s) : comesZ b st s l rd x = false := by
  unfold comesZ
  rw [atZ_of h, decide_eq_false hz]; rfl
theorem comesZ_n2 {b : Beliefs} {st l : List Int} {s rd z : Int} {x : Nat} (h : l[x]? = some z) (hz : 0 ≤ z) : comesZ b st s l rd x = false := by
  unfold comesZ
  have : ¬ z < 0 := by omega
  rw [atZ_of h, decide_eq_false this]; simp
theorem comesZ_n3 {b : Beliefs} {st l : List Int} {s rd : Int} {x : Nat} (h : ∀ i, i < b.Reasons.length → ∀ r, b.Reasons[i]? = some r → (decide (r.For = (x : Int)) && supL r l rd) = false) : comesZ b st s l rd x = false := by
  unfold comesZ
  have : b.Reasons.any (fun r => decide (r.For = (x : Int)) && supL r l rd) = false := by
    rw [List.any_eq_false]
    intro r hr
    obtain ⟨i, hi⟩ := List.getElem?_of_mem hr
    rw [h i (lt_of_some hi) r hi]
    simp
  rw [this]; simp
theorem comesZ_y {b : Beliefs} {st l : List Int} {s rd z1 z2 : Int} {x k : Nat} {r : Reason} (h1 : st[x]? = some z1) (e1 : z1 = s) (h2 : l[x]? = some z2) (e2 : z2 < 0) (hr : b.Reasons[k]? = some r) (h3 : (decide (r.For = (x : Int)) && supL r l rd) = true) : comesZ b st s l rd x = true := by
  unfold comesZ
  rw [atZ_of h1, atZ_of h2, decide_eq_true e1, decide_eq_true e2]
  simp only [Bool.true_and]
  rw [List.any_eq_true]
  exact ⟨r, List.mem_of_getElem? hr, h3⟩
theorem comesZ_eq {b : Beliefs} {n : Nat} (hn : b.Nodes = n) (ho : okB b = true) {lev rd : Int} {g : Nat → Int} {x : Nat} (hx : x < n) : comesZ b (vec n (strat b)) lev (vec n g) rd x = comes b lev rd g x := by
  unfold comesZ comes
  rw [atZ_vec hx, atZ_vec hx, Bool.eq_iff_iff]
  simp only [Bool.and_eq_true, decide_eq_true_eq, List.any_eq_true, comesR]
  constructor
  · rintro ⟨⟨h1, h2⟩, r, hr, h3, h4⟩
    refine ⟨r, hr, h3, ⟨by rw [h3]; exact h1, by rw [h3]; exact h2⟩, ?_⟩
    rw [← supL_vec (n := n) (by rw [← hn]; exact okB_m ho hr)]; exact h4
  · rintro ⟨r, hr, h3, ⟨h1, h2⟩, h4⟩
    rw [h3] at h1 h2
    refine ⟨⟨h1, h2⟩, r, hr, h3, ?_⟩
    rw [supL_vec (n := n) (by rw [← hn]; exact okB_m ho hr)]; exact h4
noncomputable def comeF (b : Beliefs) (n : Nat) (lev rd : Int) (g : Nat → Int) : List Int := fidx (comes b lev rd g) n
theorem comeF_eq {b : Beliefs} {n : Nat} (hn : b.Nodes = n) (hst : isStrat b = true) {lev rd : Int} {g : Nat → Int} : fidx (comesZ b (strataOf b) lev (vec n g) rd) b.Nodes.toNat = comeF b n lev rd g := by
  have e : b.Nodes.toNat = n := by omega
  rw [strataOf_t hst, e]
  exact fidx_congr fun x hx => comesZ_eq hn (isB_ok2 (strat_b hst)) hx
theorem comeF_mem {b : Beliefs} {n : Nat} (hn : b.Nodes = n) (ho : okB b = true) {lev rd : Int} {g : Nat → Int} (x : Nat) : (x : Int) ∈ comeF b n lev rd g ↔ comes b lev rd g x = true := by
  unfold comeF
  rw [fidx_mem]
  constructor
  · rintro ⟨y, _, hp, e⟩
    have : x = y := by omega
    rw [this]; exact hp
  · intro h
    obtain ⟨r, hr, e, _⟩ := comes_parts h
    have := isR_for (okB_m ho hr)
    exact ⟨x, by omega, h, rfl⟩
theorem comeF_any {b : Beliefs} {n : Nat} (hn : b.Nodes = n) (ho : okB b = true) {lev rd : Int} {g : Nat → Int} : b.Reasons.any (comesR b lev rd g) = decide (0 < (comeF b n lev rd g).length) := by
  rw [Bool.eq_iff_iff, List.any_eq_true, decide_eq_true_eq, List.length_pos_iff_exists_mem]
  constructor
  · rintro ⟨r, hr, h⟩
    exact ⟨_, (comeF_mem hn ho _).2 (comes_of ho hr h).1⟩
  · rintro ⟨y, h⟩
    unfold comeF at h
    obtain ⟨x, _, hp, _⟩ := fidx_mem.1 h
    obtain ⟨r, hr, _, hc, _⟩ := comes_parts hp
    exact ⟨r, hr, hc⟩
theorem comeF_rng {b : Beliefs} {n j : Nat} {lev rd : Int} {g : Nat → Int} {y : Int} (h : (comeF b n lev rd g)[j]? = some y) : 0 ≤ y ∧ y < n := by
  obtain ⟨x, hx, _, e⟩ := fidx_mem.1 (List.mem_of_getElem? h)
  omega
noncomputable def roundsOf (b : Beliefs) : List Int := if isStrat b then vec b.Nodes.toNat (rnds b) else []
theorem roundsOf_t {b : Beliefs} (h : isStrat b = true) : roundsOf b = vec b.Nodes.toNat (rnds b) := by unfold roundsOf; rw [if_pos h]
theorem roundsOf_f {b : Beliefs} (h : isStrat b = false) : [] = roundsOf b := by unfold roundsOf; rw [h]; rfl
theorem roundsOf_len {b : Beliefs} : (roundsOf b).length ≤ 24 := by
  cases h : isStrat b with
  | false => rw [← roundsOf_f h]; simp
  | true =>
    rw [roundsOf_t h, vec_len]
    have := isBeliefs_nodes (strat_b h)
    omega
theorem strataOf_n {b : Beliefs} (h : isStrat b = true) : (strataOf b).length = b.Nodes.toNat := by rw [strataOf_t h, vec_len]

theorem sup_n1 {r : Reason} {x rd : Int} {l : List Int} (h : r.For ≠ x) : (decide (r.For = x) && supL r l rd) = false := by rw [decide_eq_false h]; rfl
theorem sup_n2 {r : Reason} {x rd : Int} {l : List Int} (h : r.In.all (befL l rd) = false) : (decide (r.For = x) && supL r l rd) = false := by unfold supL; rw [h]; simp
theorem sup_n3 {r : Reason} {x rd : Int} {l : List Int} (h : r.Out.all (nonL l) = false) : (decide (r.For = x) && supL r l rd) = false := by unfold supL; rw [h]; simp
theorem sup_yes {r : Reason} {x rd : Int} {l : List Int} (h : r.For = x) (h1 : r.In.all (befL l rd) = true) (h2 : r.Out.all (nonL l) = true) : (decide (r.For = x) && supL r l rd) = true := by unfold supL; rw [h1, h2, decide_eq_true h]; rfl
section
variable {b : Beliefs} {n : Nat} {k : Nat} {r : Reason} {lev rd : Int} {g : Nat → Int}
theorem comesR_t (hn : b.Nodes = n) (ho : okB b = true) (hr : b.Reasons[k]? = some r) (h1 : strat b r.For.toNat = lev) (h2 : g r.For.toNat < 0) (h3 : supL r (vec n g) rd = true) : comesR b lev rd g r = true := by
  rw [comesR_vec hn ho hr, h3, decide_eq_true h1, decide_eq_true h2]; rfl
theorem comesR_f1 (h1 : strat b r.For.toNat ≠ lev) : comesR b lev rd g r = false := by
  unfold comesR
  rw [decide_eq_false h1]; rfl
theorem comesR_f2 (h1 : ¬ g r.For.toNat < 0) : comesR b lev rd g r = false := by
  unfold comesR
  rw [decide_eq_false h1]; simp
theorem comesR_f3 (hn : b.Nodes = n) (ho : okB b = true) (hr : b.Reasons[k]? = some r) (h3 : supL r (vec n g) rd = false) : comesR b lev rd g r = false := by
  rw [comesR_vec hn ho hr, h3]; simp
end
theorem rep_snoc (i : Nat) (z : Int) : List.replicate i z ++ [z] = List.replicate (i + 1) z := List.replicate_succ'.symm
end Go.Sy
