/-
  Patterns, conditions, actions, rules: what is valid.
  Conditions: those that each theorem states.
-/
import Derived.Test.YtkbiaedfnpbpfaaGreatDoorRul
namespace Go.Sy
open Go
def hasS (l : List ByteArray) (v : ByteArray) : Bool := l.any (fun x => decide (x = v))
theorem hasS_iff {l : List ByteArray} {v : ByteArray} : hasS l v = true ↔ v ∈ l := by simp [hasS]
theorem hasS_y {l : List ByteArray} {v x : ByteArray} {i : Nat} (h : l[i]? = some x) (e : x = v) : true = hasS l v := by
  subst e; exact (hasS_iff.2 (List.mem_of_getElem? h)).symm
theorem hasS_n {l : List ByteArray} {v : ByteArray} (h : ∀ i, i < l.length → l[i]? ≠ some v) : false = hasS l v := by
  symm; rw [Bool.eq_false_iff]; intro hc
  obtain ⟨i, hi⟩ := List.getElem?_of_mem (hasS_iff.1 hc)
  exact h i (lS hi) hi
def isVarB (s : ByteArray) : Bool := decide ((1 : Int) < (s.size : Int)) && ((sB s 0 == 63) && isAtomB (s.extract 1 s.size))
def isTermB (s : ByteArray) : Bool := isAtomB s || isVarB s
def isPatternB (p : Pattern) : Bool := isNameB p.Rel && decide (p.Args.length ≤ 3) && p.Args.all isTermB
def zeroP (p : Pattern) : Bool := decide (p.Rel = ⟨#[]⟩) && decide (p.Args.length = 0)
def isCondB (x : Cond) : Bool :=
  if x.Kind = 1 ∨ x.Kind = 2 then isPatternB x.Pattern && (decide (x.Left = ⟨#[]⟩) && decide (x.Right = ⟨#[]⟩))
  else if x.Kind = 3 ∨ x.Kind = 4 ∨ x.Kind = 5 then isTermB x.Left && (isTermB x.Right && zeroP x.Pattern)
  else false
def isTestB (x : Cond) : Bool := isCondB x && decide (3 ≤ x.Kind)
def isActionB (a : Action) : Bool := if a.Kind = 1 ∨ a.Kind = 2 then isPatternB a.Pattern else if a.Kind = 3 then zeroP a.Pattern else false
def varsL (l : List ByteArray) : List ByteArray := l.filter isVarB
def cvars (x : Cond) : List ByteArray := varsL (x.Pattern.Args ++ [x.Left, x.Right])
theorem cvars_len (x : Cond) : (cvars x).length ≤ x.Pattern.Args.length + 2 := by
  refine Nat.le_trans (List.length_filter_le _ _) ?_
  simp
theorem varsL_len (l : List ByteArray) : (varsL l).length ≤ l.length := List.length_filter_le _ _
theorem varsL_t {l : List ByteArray} {k : Nat} {x : ByteArray} (h : l[k]? = some x) (hv : isVarB x = true) : varsL (l.take k) ++ [x] = varsL (l.take (k + 1)) := by
  unfold varsL; rw [take_snoc h, List.filter_append]; simp [hv]
theorem varsL_f {l : List ByteArray} {k : Nat} {x : ByteArray} (h : l[k]? = some x) (hv : isVarB x = false) : varsL (l.take k) = varsL (l.take (k + 1)) := by
  unfold varsL; rw [take_snoc h, List.filter_append]; simp [hv]
theorem varsP_t {l : List ByteArray} {k : Nat} {x : ByteArray} (h : l[k]? = some x) (hv : isVarB x = true) : putS (sortT (varsL (l.take k))) x = sortT (varsL (l.take (k + 1))) := by
  rw [sortT_snoc, varsL_t h hv]
theorem varsP_f {l : List ByteArray} {k : Nat} {x : ByteArray} (h : l[k]? = some x) (hv : isVarB x = false) : sortT (varsL (l.take k)) = sortT (varsL (l.take (k + 1))) := by
  rw [varsL_f h hv]
theorem cond_kind {x : Cond} (h : isCondB x = true) : 1 ≤ x.Kind ∧ x.Kind ≤ 5 := by
  unfold isCondB at h
  split at h
  · omega
  · split at h
    · omega
    · cases h
/-- CondVars of the reference, part by part -/
theorem cv_0 {x : Cond} (h1 : isVarB x.Left = false) (h2 : isVarB x.Right = false) : sortT (varsL x.Pattern.Args) = sortT (cvars x) := by simp [cvars, varsL, h1, h2]
theorem cv_l {x : Cond} (h1 : isVarB x.Left = true) (h2 : isVarB x.Right = false) : putS (sortT (varsL x.Pattern.Args)) x.Left = sortT (cvars x) := by rw [sortT_snoc]; simp [cvars, varsL, h1, h2]
theorem cv_r {x : Cond} (h1 : isVarB x.Left = false) (h2 : isVarB x.Right = true) : putS (sortT (varsL x.Pattern.Args)) x.Right = sortT (cvars x) := by rw [sortT_snoc]; simp [cvars, varsL, h1, h2]
theorem cv_b {x : Cond} (h1 : isVarB x.Left = true) (h2 : isVarB x.Right = true) : putS (putS (sortT (varsL x.Pattern.Args)) x.Left) x.Right = sortT (cvars x) := by rw [sortT_snoc, sortT_snoc]; simp [cvars, varsL, h1, h2]
/-- the variables of the first conditions that are presences -/
def bvT (r : Rule) (k : Nat) : List ByteArray := ((r.If.take k).filter (fun x => decide (x.Kind = 1))).flatMap (fun x => varsL x.Pattern.Args)
def bvars (r : Rule) (n : Int) : List ByteArray := bvT r n.toNat
theorem bvT_t {r : Rule} {k : Nat} {x : Cond} (h : r.If[k]? = some x) (hk : x.Kind = 1) : bvT r k ++ varsL x.Pattern.Args = bvT r (k + 1) := by
  unfold bvT; rw [take_snoc h, List.filter_append, List.flatMap_append]; simp [hk]
theorem bvT_f {r : Rule} {k : Nat} {x : Cond} (h : r.If[k]? = some x) (hk : x.Kind ≠ 1) : bvT r k = bvT r (k + 1) := by
  unfold bvT; rw [take_snoc h, List.filter_append, List.flatMap_append]; simp [hk]
theorem bvT_cut {r : Rule} {k m : Nat} (h : r.If.length ≤ k) (hm : k ≤ m) : bvT r k = bvT r m := by
  unfold bvT; rw [List.take_of_length_le h, List.take_of_length_le (by omega)]
/-- impl: the first n conditions, all of them looked at -/
def bwT (r : Rule) (n : Int) (k : Nat) : List ByteArray := bvT r (min k n.toNat)
theorem bwT_t {r : Rule} {n : Int} {k : Nat} {x : Cond} (h : r.If[k]? = some x) (hn : (k : Int) < n) (hk : x.Kind = 1) : bwT r n k ++ varsL x.Pattern.Args = bwT r n (k + 1) := by
  unfold bwT
  rw [Nat.min_eq_left (by omega), Nat.min_eq_left (by omega)]; exact bvT_t h hk
theorem bwT_f {r : Rule} {n : Int} {k : Nat} {x : Cond} (h : r.If[k]? = some x) (hn : ¬ (k : Int) < n ∨ x.Kind ≠ 1) : bwT r n k = bwT r n (k + 1) := by
  unfold bwT
  by_cases hk : (k : Int) < n
  · rw [Nat.min_eq_left (by omega), Nat.min_eq_left (by omega)]
    exact bvT_f h (by rcases hn with h | h; (· exact absurd hk h); (· exact h))
  · rw [Nat.min_eq_right (by omega), Nat.min_eq_right (by omega)]
theorem bwT_done {r : Rule} {n : Int} {k : Nat} (h : r.If.length ≤ k) (h2 : k ≤ r.If.length) : bwT r n k = bvars r n := by
  unfold bwT bvars
  by_cases hn : k ≤ n.toNat
  · rw [Nat.min_eq_left hn]; exact bvT_cut h hn
  · rw [Nat.min_eq_right (by omega)]
theorem flat_len {α : Type} {f : α → List ByteArray} {c : α → Nat} (hf : ∀ x, (f x).length ≤ c x) : ∀ l : List α, (l.flatMap f).length ≤ sumC c l
  | [] => by simp [sumC]
  | x :: l => by
    have ih := flat_len hf l
    have h1 := hf x
    rw [List.flatMap_cons, List.length_append]
    simp only [sumC, List.map_cons, List.sum_cons] at ih ⊢
    omega
theorem szPat_args (p : Pattern) : p.Args.length ≤ szPattern p := by unfold szPattern szSs; omega
theorem szCond_args (x : Cond) : x.Pattern.Args.length ≤ szCond x := by have := szPat_args x.Pattern; unfold szCond; omega
theorem sumC_subl {α : Type} {c : α → Nat} {a b : List α} (h : List.Sublist a b) : sumC c a ≤ sumC c b := by
  induction h with
  | slnil => exact Nat.le_refl _
  | cons x _ ih => simp only [sumC, List.map_cons, List.sum_cons] at ih ⊢; omega
  | cons_cons x _ ih => simp only [sumC, List.map_cons, List.sum_cons] at ih ⊢; omega
theorem bvT_len (r : Rule) (k : Nat) : (bvT r k).length ≤ sumC szCond r.If := by
  refine Nat.le_trans (flat_len (c := szCond) (fun x => Nat.le_trans (varsL_len _) (szCond_args x)) _) ?_
  exact Nat.le_trans (sumC_subl (List.filter_sublist)) (sumC_take_le r.If szCond k)
theorem bwT_len (r : Rule) (n : Int) (k : Nat) : (bwT r n k).length ≤ sumC szCond r.If := bvT_len r _
/-- the variables of all conditions, of all conditions and actions -/
def cvT (l : List Cond) (k : Nat) : List ByteArray := (l.take k).flatMap cvars
def csT (l : List Cond) (k : Nat) : List ByteArray := (l.take k).flatMap (fun x => sortT (cvars x))
theorem csT_step {l : List Cond} {k : Nat} {x : Cond} (h : l[k]? = some x) : csT l k ++ sortT (cvars x) = csT l (k + 1) := by
  unfold csT; rw [take_snoc h, List.flatMap_append]; simp
theorem csT_len (l : List Cond) (k : Nat) : (csT l k).length ≤ sumC szCond l + 2 * l.length := by
  have h1 := flat_len (f := fun x => sortT (cvars x)) (c := fun x => szCond x + 2) (fun x => Nat.le_trans (sortT_len _) (Nat.le_trans (cvars_len x) (by have := szCond_args x; omega))) (l.take k)
  have h2 := sumC_take_le l (fun x => szCond x + 2) k
  have h3 : sumC (fun x => szCond x + 2) l = sumC szCond l + 2 * l.length := by
    clear h1 h2
    induction l with
    | nil => rfl
    | cons x l ih => simp only [sumC, List.map_cons, List.sum_cons, List.length_cons] at ih ⊢; omega
  unfold csT; omega
theorem cs_cv (l : List Cond) (k : Nat) : sortT (csT l k) = sortT (cvT l k) := by
  refine sortT_congr (fun y => ?_)
  unfold csT cvT
  simp only [List.mem_flatMap, sortT_mem]
def allV (r : Rule) : List ByteArray := cvT r.If r.If.length
def avT (r : Rule) (k : Nat) : List ByteArray := (r.Then.take k).flatMap (fun a => varsL a.Pattern.Args)
/-- the reference's fold over the variables of one condition after another -/
theorem fold_sort (a l : List ByteArray) : (sortT l).foldl putS (sortT a) = sortT (a ++ l) := by
  refine sortT_of (foldS_asc _ (sortT_asc a)) (fun y => ?_)
  rw [foldS_mem, sortT_mem, sortT_mem, List.mem_append]
theorem foldT_step {l : List ByteArray} {a : List ByteArray} {k : Nat} {x : ByteArray} (h : l[k]? = some x) : putS ((l.take k).foldl putS a) x = (l.take (k + 1)).foldl putS a := by
  rw [take_snoc h, List.foldl_append]; rfl
theorem foldT_len (l a : List ByteArray) (k : Nat) : ((l.take k).foldl putS a).length ≤ a.length + k := by
  have key : ∀ (l a : List ByteArray), (l.foldl putS a).length ≤ a.length + l.length := by
    intro l
    induction l with
    | nil => intro a; simp
    | cons x l ih =>
      intro a
      have h1 := ih (putS a x)
      have h2 := putS_len a x
      rw [List.foldl_cons, List.length_cons]; omega
  have := key (l.take k) a
  have h2 : (l.take k).length ≤ k := by rw [List.length_take]; omega
  omega
theorem foldT_done {l a b : List ByteArray} {k : Nat} (h : (sortT l).length ≤ k) : ((sortT l).take k).foldl putS (sortT a) = sortT (a ++ l) := by
  rw [List.take_of_length_le h]; exact fold_sort a l
/-- a variable elsewhere in a rule -/
def elsC (r : Rule) (k : Int) (v : ByteArray) (i : Nat) : Bool := match r.If[i]? with | none => false | some x => decide ((i : Int) ≠ k) && hasS (cvars x) v
def elsA (v : ByteArray) (a : Action) : Bool := hasS (varsL a.Pattern.Args) v
def elsB (r : Rule) (k : Int) (v : ByteArray) : Bool := (List.range r.If.length).any (elsC r k v) || r.Then.any (elsA v)
theorem els_t1 {r : Rule} {k : Int} {v : ByteArray} {i : Nat} {x : Cond} (h : r.If[i]? = some x) (hk : (i : Int) ≠ k) (hc : v ∈ cvars x) : true = elsB r k v := by
  unfold elsB
  have : (List.range r.If.length).any (elsC r k v) = true := by
    rw [List.any_eq_true]
    exact ⟨i, by simpa using lS h, by simp [elsC, h, hk, hasS_iff.2 hc]⟩
  rw [this]; rfl
theorem els_t2 {r : Rule} {k : Int} {v : ByteArray} {i : Nat} {a : Action} (h : r.Then[i]? = some a) (hc : v ∈ varsL a.Pattern.Args) : true = elsB r k v := by
  unfold elsB
  have : r.Then.any (elsA v) = true := List.any_eq_true.2 ⟨a, List.mem_of_getElem? h, hasS_iff.2 hc⟩
  rw [this]; simp
theorem els_f {r : Rule} {k : Int} {v : ByteArray} (h1 : ∀ i, i < r.If.length → elsC r k v i = false) (h2 : ∀ i, i < r.Then.length → ∀ a, r.Then[i]? = some a → elsA v a = false) : false = elsB r k v := by
  unfold elsB
  have e1 : (List.range r.If.length).any (elsC r k v) = false := by
    rw [List.any_eq_false]; intro i hi; rw [h1 i (by simpa using hi)]; simp
  have e2 : r.Then.any (elsA v) = false := by
    rw [List.any_eq_false]
    intro a ha
    obtain ⟨i, hi⟩ := List.getElem?_of_mem ha
    rw [h2 i (lS hi) a hi]; simp
  rw [e1, e2]; rfl
theorem elsC_f2 {r : Rule} {k : Int} {v : ByteArray} {i : Nat} {x : Cond} (h : r.If[i]? = some x) (hc : ¬ v ∈ cvars x) : elsC r k v i = false := by
  have : hasS (cvars x) v = false := by rw [Bool.eq_false_iff]; exact fun c => hc (hasS_iff.1 c)
  simp [elsC, h, this]
theorem var_args {v : ByteArray} {l : List ByteArray} (hv : isVarB v = true) : v ∈ varsL l ↔ v ∈ l := by
  unfold varsL; rw [List.mem_filter]; exact ⟨fun h => h.1, fun h => ⟨h, hv⟩⟩
theorem cv_var {x : Cond} {v : ByteArray} (h : v ∈ cvars x) : isVarB v = true := (List.mem_filter.1 h).2
/-- a condition fits its place -/
def okV (r : Rule) (k : Int) (x : Cond) (v : ByteArray) : Bool := decide (x.Kind = 1) || (hasS (bvars r k) v || (decide (x.Kind = 2) && !(elsB r k v)))
def condOk (r : Rule) (k : Nat) : Bool := match r.If[k]? with | none => false | some x => isCondB x && ((decide (k ≠ 0) || decide (x.Kind = 1)) && (cvars x).all (okV r (k : Int) x))
def actOk (r : Rule) (a : Action) : Bool := isActionB a && (varsL a.Pattern.Args).all (fun v => hasS (bvars r (r.If.length : Int)) v)
def isRuleB (r : Rule) : Bool :=
  isNameB r.Name && (inR r.Priority 0 9 && (inR (r.If.length : Int) 1 4 && (inR (r.Then.length : Int) 1 2 && ((List.range r.If.length).all (condOk r) && (r.Then.all (actOk r) && decide ((sortT (allV r)).length ≤ 6))))))
def findT (l : List Rule) (name : ByteArray) : Int := match l.findIdx? (fun r => decide (r.Name = name)) with | none => -1 | some i => (i : Int)
def areOk (l : List Rule) (i : Nat) : Bool := match l[i]? with | none => false | some r => isRuleB r && decide (findT l r.Name = (i : Int))
def areRulesB (l : List Rule) : Bool := decide (l.length ≤ 6) && (List.range l.length).all (areOk l)
theorem find_y {l : List Rule} {name : ByteArray} {i : Nat} {r : Rule} (h : l[i]? = some r) (hn : r.Name = name) (hi : ∀ j, j < i → ∀ q, l[j]? = some q → q.Name ≠ name) : (i : Int) = findT l name := by
  unfold findT
  have : l.findIdx? (fun r => decide (r.Name = name)) = some i := by
    rw [List.findIdx?_eq_some_iff_getElem]
    obtain ⟨b, c⟩ := List.getElem?_eq_some_iff.1 h
    refine ⟨b, by rw [c]; simpa using hn, fun j hj => ?_⟩
    have := hi j hj l[j] (List.getElem?_eq_getElem (by omega))
    simpa using this
  rw [this]
theorem find_n {l : List Rule} {name : ByteArray} (hi : ∀ j, j < l.length → ∀ q, l[j]? = some q → q.Name ≠ name) : -1 = findT l name := by
  unfold findT
  have : l.findIdx? (fun r => decide (r.Name = name)) = none := by
    rw [List.findIdx?_eq_none_iff]
    intro q hq
    obtain ⟨j, hj⟩ := List.getElem?_of_mem hq
    simpa using hi j (lS hj) q hj
  rw [this]
theorem are_n1 {l : List Rule} (h : ¬ l.length ≤ 6) : false = areRulesB l := by unfold areRulesB; rw [decide_eq_false h]; rfl
theorem are_n2 {l : List Rule} {i : Nat} (hi : i < l.length) (h : areOk l i = false) : false = areRulesB l := by
  unfold areRulesB
  have : (List.range l.length).all (areOk l) = false := by rw [List.all_eq_false]; exact ⟨i, by simpa using hi, by rw [h]; simp⟩
  rw [this]; simp
theorem are_y {l : List Rule} (hi : ∀ i, i < l.length → areOk l i = true) : decide (l.length ≤ 6) = areRulesB l := by
  unfold areRulesB
  have : (List.range l.length).all (areOk l) = true := by rw [List.all_eq_true]; intro i h; exact hi i (by simpa using h)
  rw [this]; simp
theorem areOk_f1 {l : List Rule} {i : Nat} {r : Rule} (h : l[i]? = some r) (hr : isRuleB r = false) : areOk l i = false := by simp [areOk, h, hr]
theorem areOk_f2 {l : List Rule} {i : Nat} {r : Rule} (h : l[i]? = some r) (hr : findT l r.Name ≠ (i : Int)) : areOk l i = false := by simp [areOk, h, hr]
theorem areOk_t {l : List Rule} {i : Nat} {r : Rule} (h : l[i]? = some r) (h1 : isRuleB r = true) (h2 : findT l r.Name = (i : Int)) : areOk l i = true := by simp [areOk, h, h1, h2]
/-- rules: the ways out -/
theorem ru_n1 {r : Rule} (h : isNameB r.Name = false ∨ inR r.Priority 0 9 = false ∨ inR (r.If.length : Int) 1 4 = false ∨ inR (r.Then.length : Int) 1 2 = false) : false = isRuleB r := by
  unfold isRuleB
  rcases h with h | h | h | h <;> rw [h] <;> simp
theorem ru_n2 {r : Rule} {k : Nat} (hk : k < r.If.length) (h : condOk r k = false) : false = isRuleB r := by
  unfold isRuleB
  have : (List.range r.If.length).all (condOk r) = false := by rw [List.all_eq_false]; exact ⟨k, by simpa using hk, by rw [h]; simp⟩
  rw [this]; simp
theorem ru_n3 {r : Rule} {k : Nat} {a : Action} (ha : r.Then[k]? = some a) (h : actOk r a = false) : false = isRuleB r := by
  unfold isRuleB
  have : r.Then.all (actOk r) = false := by rw [List.all_eq_false]; exact ⟨a, List.mem_of_getElem? ha, by rw [h]; simp⟩
  rw [this]; simp
theorem ru_y {r : Rule} (h1 : isNameB r.Name = true) (h2 : inR r.Priority 0 9 = true) (h3 : inR (r.If.length : Int) 1 4 = true) (h4 : inR (r.Then.length : Int) 1 2 = true) (hc : ∀ k, k < r.If.length → condOk r k = true) (ha : ∀ k, k < r.Then.length → ∀ a, r.Then[k]? = some a → actOk r a = true) {n : Nat} (hn : n = (sortT (allV r)).length) : decide ((n : Int) ≤ 6) = isRuleB r := by
  unfold isRuleB
  have e1 : (List.range r.If.length).all (condOk r) = true := by rw [List.all_eq_true]; intro i h; exact hc i (by simpa using h)
  have e2 : r.Then.all (actOk r) = true := by
    rw [List.all_eq_true]; intro a hm
    obtain ⟨i, hi⟩ := List.getElem?_of_mem hm
    exact ha i (lS hi) a hi
  rw [h1, h2, h3, h4, e1, e2, hn, Bool.eq_iff_iff]
  simp
  omega
theorem bv_all {r : Rule} {v : ByteArray} (h : v ∈ bvars r (r.If.length : Int)) : v ∈ allV r := by
  unfold bvars bvT at h
  simp only [List.mem_flatMap, List.mem_filter] at h
  obtain ⟨x, ⟨hx, _⟩, hv⟩ := h
  unfold allV cvT
  rw [List.mem_flatMap]
  refine ⟨x, by simpa using hx, ?_⟩
  unfold cvars varsL at *
  rw [List.mem_filter] at *
  exact ⟨by simp [hv.1], hv.2⟩
/-- with the variables of the actions, where each of them is bound -/
theorem rv_len {r : Rule} (ha : ∀ k, k < r.Then.length → ∀ a, r.Then[k]? = some a → actOk r a = true) : (sortT (allV r ++ avT r r.Then.length)).length = (sortT (allV r)).length := by
  congr 1
  refine sortT_congr (fun y => ?_)
  rw [List.mem_append]
  refine ⟨fun h => ?_, fun h => .inl h⟩
  rcases h with h | h
  · exact h
  · unfold avT at h
    rw [List.mem_flatMap] at h
    obtain ⟨a, ham, hv⟩ := h
    rw [List.take_of_length_le (Nat.le_refl _)] at ham
    obtain ⟨i, hi⟩ := List.getElem?_of_mem ham
    have := ha i (lS hi) a hi
    unfold actOk at this
    simp only [Bool.and_eq_true, List.all_eq_true] at this
    have := this.2 y hv
    exact bv_all (hasS_iff.1 this)
/-! ### the loops -/
theorem hasS_sort {l : List ByteArray} {v : ByteArray} : hasS (sortT l) v = hasS l v := by rw [Bool.eq_iff_iff, hasS_iff, hasS_iff, sortT_mem]
theorem hasS_not {l : List ByteArray} {v : ByteArray} (h : hasS l v = false) : ¬ v ∈ l := fun c => by rw [hasS_iff.2 c] at h; cases h
theorem bw_zero (r : Rule) (n : Int) : [] = bwT r n 0 := by simp [bwT, bvT]
theorem bvS_zero (r : Rule) : [] = sortT (bvT r 0) := by simp [bvT, sortT]
theorem bvS_t {r : Rule} {k q : Nat} {x : Cond} (h : r.If[k]? = some x) (hk : x.Kind = 1) (hq : (sortT (varsL x.Pattern.Args)).length ≤ q) : ((sortT (varsL x.Pattern.Args)).take q).foldl putS (sortT (bvT r k)) = sortT (bvT r (k + 1)) := by
  rw [foldT_done (b := []) hq, bvT_t h hk]
theorem bvS_f {r : Rule} {k : Nat} {x : Cond} (h : r.If[k]? = some x) (hk : x.Kind ≠ 1) : sortT (bvT r k) = sortT (bvT r (k + 1)) := by rw [bvT_f h hk]
theorem bvS_end {r : Rule} {i : Nat} {n : Int} (h : r.If.length ≤ i ∨ n ≤ (i : Int)) (hin : i = 0 ∨ (i : Int) ≤ n) : sortT (bvT r i) = sortT (bvars r n) := by
  unfold bvars
  rcases h with h | h
  · rw [bvT_cut (m := n.toNat) h (by omega)]
  · rw [show i = n.toNat by omega]
theorem cs_done {l : List Cond} {k : Nat} (h1 : k ≤ l.length) (h2 : l.length ≤ k) : csT l k = csT l l.length := by rw [show k = l.length by omega]
theorem cvT_len (l : List Cond) (k : Nat) : (cvT l k).length ≤ sumC szCond l + 2 * l.length := by
  have h1 := flat_len (f := cvars) (c := fun x => szCond x + 2) (fun x => Nat.le_trans (cvars_len x) (by have := szCond_args x; omega)) (l.take k)
  have h2 := sumC_take_le l (fun x => szCond x + 2) k
  have h3 : sumC (fun x => szCond x + 2) l = sumC szCond l + 2 * l.length := by
    clear h1 h2
    induction l with
    | nil => rfl
    | cons x l ih => simp only [sumC, List.map_cons, List.sum_cons, List.length_cons] at ih ⊢; omega
  unfold cvT; omega
theorem avT_len (r : Rule) (k : Nat) : (avT r k).length ≤ sumC szAction r.Then := by
  refine Nat.le_trans (flat_len (c := szAction) (fun x => Nat.le_trans (varsL_len _) (szPat_args x.Pattern)) _) (sumC_take_le r.Then szAction k)
theorem szAct_args (x : Action) : x.Pattern.Args.length ≤ szAction x := szPat_args x.Pattern
theorem cvT_step {l : List Cond} {k : Nat} {x : Cond} (h : l[k]? = some x) : cvT l k ++ cvars x = cvT l (k + 1) := by
  unfold cvT; rw [take_snoc h, List.flatMap_append]; simp
theorem cvS_zero (l : List Cond) : [] = sortT (cvT l 0) := by simp [cvT, sortT]
theorem cvS_t {l : List Cond} {k q : Nat} {x : Cond} (h : l[k]? = some x) (hq : (sortT (cvars x)).length ≤ q) : ((sortT (cvars x)).take q).foldl putS (sortT (cvT l k)) = sortT (cvT l (k + 1)) := by
  rw [foldT_done (b := []) hq, cvT_step h]
theorem avS_zero {r : Rule} {k : Nat} (h1 : k ≤ r.If.length) (h2 : r.If.length ≤ k) : sortT (cvT r.If k) = sortT (allV r ++ avT r 0) := by
  rw [show k = r.If.length by omega]; simp [allV, avT]
theorem avS_t {r : Rule} {k q : Nat} {x : Action} (h : r.Then[k]? = some x) (hq : (sortT (varsL x.Pattern.Args)).length ≤ q) : ((sortT (varsL x.Pattern.Args)).take q).foldl putS (sortT (allV r ++ avT r k)) = sortT (allV r ++ avT r (k + 1)) := by
  rw [foldT_done (b := []) hq]
  unfold avT
  rw [take_snoc h, List.flatMap_append]; simp
theorem avS_done {r : Rule} {k : Nat} (h1 : k ≤ r.Then.length) (h2 : r.Then.length ≤ k) : sortT (allV r ++ avT r k) = sortT (allV r ++ avT r r.Then.length) := by rw [show k = r.Then.length by omega]
theorem allV_len (r : Rule) : (allV r).length ≤ sumC szCond r.If + 2 * r.If.length := cvT_len r.If _
theorem els_t1s {r : Rule} {k : Int} {v : ByteArray} {i : Nat} {x : Cond} (h : r.If[i]? = some x) (hk : (i : Int) ≠ k) (hc : hasS (sortT (cvars x)) v = true) : true = elsB r k v := els_t1 h hk (sortT_mem.1 (hasS_iff.1 hc))
theorem elsC_f2s {r : Rule} {k : Int} {v : ByteArray} {i : Nat} {x : Cond} (h : r.If[i]? = some x) (hc : hasS (sortT (cvars x)) v = false) : elsC r k v i = false := elsC_f2 h (fun c => hasS_not hc (sortT_mem.2 c))
theorem els_t2i {r : Rule} {k : Int} {v : ByteArray} {i : Nat} {a : Action} (hv : isVarB v = true) (h : r.Then[i]? = some a) (hc : hasS a.Pattern.Args v = true) : true = elsB r k v := els_t2 h ((var_args hv).2 (hasS_iff.1 hc))
theorem els_t2s {r : Rule} {k : Int} {v : ByteArray} {i : Nat} {a : Action} (h : r.Then[i]? = some a) (hc : hasS (sortT (varsL a.Pattern.Args)) v = true) : true = elsB r k v := els_t2 h (sortT_mem.1 (hasS_iff.1 hc))
theorem elsA_i {v : ByteArray} {a : Action} (hv : isVarB v = true) (hc : hasS a.Pattern.Args v = false) : elsA v a = false := by
  unfold elsA; rw [Bool.eq_false_iff]; intro c
  exact hasS_not hc ((var_args hv).1 (hasS_iff.1 c))
theorem elsA_s {v : ByteArray} {a : Action} (hc : hasS (sortT (varsL a.Pattern.Args)) v = false) : elsA v a = false := by unfold elsA; rw [← hasS_sort]; exact hc
def fitB (r : Rule) (k : Int) : Bool := match r.If[k.toNat]? with | none => false | some x => (cvars x).all (okV r k x)
theorem okV_t1 {r : Rule} {k : Int} {x : Cond} {v : ByteArray} (h : x.Kind = 1) : okV r k x v = true := by simp [okV, h]
theorem okV_t2 {r : Rule} {k : Int} {x : Cond} {v : ByteArray} (h : hasS (sortT (bvars r k)) v = true) : okV r k x v = true := by rw [hasS_sort] at h; simp [okV, h]
theorem okV_t3 {r : Rule} {k : Int} {x : Cond} {v : ByteArray} (h : x.Kind = 2) (h2 : elsB r k v = false) : okV r k x v = true := by simp [okV, h, h2]
theorem okV_f {r : Rule} {k : Int} {x : Cond} {v : ByteArray} (h1 : x.Kind ≠ 1) (h2 : hasS (sortT (bvars r k)) v = false) (h3 : x.Kind ≠ 2 ∨ elsB r k v = true) : okV r k x v = false := by
  rw [hasS_sort] at h2
  rcases h3 with h3 | h3 <;> simp [okV, h1, h2, h3]
theorem okV_sf {r : Rule} {k : Int} {x : Cond} {v : ByteArray} (h1 : isTestB x = true) (h2 : hasS (sortT (bvars r k)) v = false) : okV r k x v = false := by
  unfold isTestB at h1
  simp only [Bool.and_eq_true, decide_eq_true_eq] at h1
  exact okV_f (by omega) h2 (.inl (by omega))
theorem okV_st {r : Rule} {k : Int} {x : Cond} {v : ByteArray} (hc : isCondB x = true) (h1 : isTestB x = false) (h2 : x.Kind ≠ 2 ∨ elsB r k v = false) : okV r k x v = true := by
  have hk := cond_kind hc
  unfold isTestB at h1
  rw [hc, Bool.true_and, decide_eq_false_iff_not] at h1
  rcases h2 with h2 | h2
  · exact okV_t1 (by omega)
  · by_cases e : x.Kind = 1
    · exact okV_t1 e
    · exact okV_t3 (by omega) h2
theorem all_sort {l : List ByteArray} {p : ByteArray → Bool} (h : ∀ i, i < (sortT l).length → ∀ y, (sortT l)[i]? = some y → p y = true) : l.all p = true := by
  rw [List.all_eq_true]; intro y hy
  obtain ⟨i, hi⟩ := List.getElem?_of_mem (sortT_mem.2 hy)
  exact h i (lS hi) y hi
theorem all_sortn {l : List ByteArray} {p : ByteArray → Bool} {i : Nat} {y : ByteArray} (hi : (sortT l)[i]? = some y) (h : p y = false) : l.all p = false := by
  rw [List.all_eq_false]; exact ⟨y, sortT_mem.1 (List.mem_of_getElem? hi), by rw [h]; simp⟩
theorem fit_y {r : Rule} {k : Int} {x : Cond} (hx : r.If[k.toNat]? = some x) (h : ∀ i, i < (sortT (cvars x)).length → ∀ y, (sortT (cvars x))[i]? = some y → okV r k x y = true) : true = fitB r k := by
  unfold fitB; rw [hx]; exact (all_sort h).symm
theorem fit_n {r : Rule} {k : Int} {x : Cond} {i : Nat} {y : ByteArray} (hx : r.If[k.toNat]? = some x) (hi : (sortT (cvars x))[i]? = some y) (h : okV r k x y = false) : false = fitB r k := by
  unfold fitB; rw [hx]; exact (all_sortn hi h).symm
theorem condOk_t {r : Rule} {k : Nat} {x : Cond} (h : r.If[k]? = some x) (h1 : isCondB x = true) (h2 : k ≠ 0 ∨ x.Kind = 1) (h3 : fitB r (k : Int) = true) : condOk r k = true := by
  unfold fitB at h3
  rw [Int.toNat_natCast, h] at h3
  unfold condOk
  rw [h]
  simp only [h1, h3, Bool.and_true, Bool.true_and]
  simpa using h2
theorem condOk_ts {r : Rule} {k : Nat} {x : Cond} (h : r.If[k]? = some x) (h1 : isCondB x = true) (h2 : k ≠ 0 ∨ x.Kind = 1) (h3 : ∀ i, i < (sortT (cvars x)).length → ∀ y, (sortT (cvars x))[i]? = some y → okV r (k : Int) x y = true) : condOk r k = true :=
  condOk_t h h1 h2 (fit_y (by rw [Int.toNat_natCast]; exact h) h3).symm
theorem condOk_f1 {r : Rule} {k : Nat} {x : Cond} (h : r.If[k]? = some x) (h1 : isCondB x = false) : condOk r k = false := by simp [condOk, h, h1]
theorem condOk_f2 {r : Rule} {k : Nat} {x : Cond} (h : r.If[k]? = some x) (h0 : k = 0) (h1 : x.Kind ≠ 1) : condOk r k = false := by subst h0; simp [condOk, h, h1]
theorem condOk_f3 {r : Rule} {k : Nat} {x : Cond} (h : r.If[k]? = some x) (h3 : fitB r (k : Int) = false) : condOk r k = false := by
  unfold fitB at h3
  rw [Int.toNat_natCast, h] at h3
  unfold condOk
  rw [h]
  simp only [h3, Bool.and_false]
theorem condOk_f3s {r : Rule} {k i : Nat} {x : Cond} {y : ByteArray} (h : r.If[k]? = some x) (hi : (sortT (cvars x))[i]? = some y) (h3 : okV r (k : Int) x y = false) : condOk r k = false :=
  condOk_f3 h (fit_n (by rw [Int.toNat_natCast]; exact h) hi h3).symm
theorem actOk_t {r : Rule} {a : Action} (h1 : isActionB a = true) (h2 : ∀ i, i < (varsL a.Pattern.Args).length → ∀ y, (varsL a.Pattern.Args)[i]? = some y → hasS (sortT (bvars r (r.If.length : Int))) y = true) : actOk r a = true := by
  unfold actOk
  rw [h1, Bool.true_and, List.all_eq_true]
  intro y hy
  obtain ⟨i, hi⟩ := List.getElem?_of_mem hy
  rw [← hasS_sort]; exact h2 i (lS hi) y hi
theorem actOk_ts {r : Rule} {a : Action} (h1 : isActionB a = true) (h2 : ∀ i, i < (sortT (varsL a.Pattern.Args)).length → ∀ y, (sortT (varsL a.Pattern.Args))[i]? = some y → hasS (sortT (bvars r (r.If.length : Int))) y = true) : actOk r a = true := by
  unfold actOk
  rw [h1, Bool.true_and]
  exact all_sort (fun i hi y hy => by rw [← hasS_sort]; exact h2 i hi y hy)
theorem actOk_f1 {r : Rule} {a : Action} (h1 : isActionB a = false) : actOk r a = false := by simp [actOk, h1]
theorem actOk_f2 {r : Rule} {a : Action} {i : Nat} {y : ByteArray} (hi : (varsL a.Pattern.Args)[i]? = some y) (h : hasS (sortT (bvars r (r.If.length : Int))) y = false) : actOk r a = false := by
  unfold actOk
  rw [hasS_sort] at h
  have : (varsL a.Pattern.Args).all (fun v => hasS (bvars r (r.If.length : Int)) v) = false := by rw [List.all_eq_false]; exact ⟨y, List.mem_of_getElem? hi, by rw [h]; simp⟩
  rw [this, Bool.and_false]
theorem actOk_f2s {r : Rule} {a : Action} {i : Nat} {y : ByteArray} (hi : (sortT (varsL a.Pattern.Args))[i]? = some y) (h : hasS (sortT (bvars r (r.If.length : Int))) y = false) : actOk r a = false := by
  obtain ⟨j, hj⟩ := List.getElem?_of_mem (sortT_mem.1 (List.mem_of_getElem? hi))
  exact actOk_f2 hj h
theorem cond_sz {r : Rule} {k : Nat} {x : Cond} (h : r.If[k]? = some x) : szCond x ≤ sumC szCond r.If := sumC_mem (c := szCond) (List.mem_of_getElem? h)
theorem act_sz {r : Rule} {k : Nat} {x : Action} (h : r.Then[k]? = some x) : szAction x ≤ sumC szAction r.Then := sumC_mem (c := szAction) (List.mem_of_getElem? h)
theorem elsC_f0 {r : Rule} {k : Int} {v : ByteArray} {i : Nat} (hk : (i : Int) = k) : elsC r k v i = false := by
  unfold elsC
  split
  · rfl
  · simp [hk]
theorem are_y2 {l : List Rule} (h : l.length ≤ 6) (hi : ∀ i, i < l.length → areOk l i = true) : true = areRulesB l := by rw [← are_y hi, decide_eq_true h]
theorem are_y3 {l : List Rule} (hi : ∀ i, i < l.length → areOk l i = true) : decide ((l.length : Int) ≤ 6) = areRulesB l := by
  rw [← are_y hi, Bool.eq_iff_iff]; simp; omega
end Go.Sy
