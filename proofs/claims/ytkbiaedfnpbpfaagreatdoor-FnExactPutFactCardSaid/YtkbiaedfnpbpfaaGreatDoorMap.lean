/-
  Maps whose keys are numbers and whose values are all true.
  Conditions: those that each theorem states.
-/
import Derived.Test.YtkbiaedfnpbpfaaGreatDoorNum
namespace Go.Sy
open Go Go.RowKit
structure ISet where
  l : List Int
def ISet.has (s : ISet) (z : Int) : Bool := s.l.contains z
def ISet.add (s : ISet) (z : Int) : ISet := ⟨s.l ++ [z]⟩
def entB (l : List Int) : List (Value × Value) := l.map (fun x => (Value.int .i64 x, Value.bool true))
def owMap (w : World) (cs : List Value) (x : ISet) (fp : List Nat) : Prop :=
  ∃ (g : Nat) (es : Array MapEntry) (clock : Nat), cs = [.map (some g)] ∧ fp = [g] ∧ w.heap[g]? = some (.map es clock) ∧ es.toList.map (fun e => (e.key, e.val)) = entB x.l
instance instISet : Gd ISet where
  n := 1
  st := false
  rd := fun _ cs _ => ∃ g, cs = [.map (some g)]
  ow := owMap
  rd_len := fun h => by obtain ⟨g, e⟩ := h; rw [e]; rfl
  rd_one := fun h u hu => by obtain ⟨g, e⟩ := h; rw [e] at hu; simp only [List.mem_singleton] at hu; rw [hu]; rfl
  rd_sub := fun _ h => h
  ow_loc := fun h hs => by
    obtain ⟨g, es, c, h1, h2, h3, h4⟩ := h
    exact ⟨g, es, c, h1, h2, by rw [hs g (by rw [h2]; simp)]; exact h3, h4⟩
  ow_lt := fun h k hk => by
    obtain ⟨g, es, c, h1, h2, h3, h4⟩ := h
    rw [h2] at hk
    simp only [List.mem_singleton] at hk
    rw [hk]
    rcases Nat.lt_or_ge g (_ : World).heap.size with hh | hh
    · exact hh
    · rw [Array.getElem?_eq_none hh] at h3; cases h3
  ow_rd := fun h => by obtain ⟨g, _, _, h1, _⟩ := h; exact ⟨g, h1⟩
theorem find_t (z : Int) : ∀ (es : List MapEntry) (l : List Int) (i : Nat), es.map (fun e => (e.key, e.val)) = entB l → l.contains z = true → ∃ j, Instr.findNow (.int .i64) (.int .i64 z) es i = some (some (j, .bool true))
  | [], [], _, _, h => by simp at h
  | [], _ :: _, _, h, _ => by simp [entB] at h
  | _ :: _, [], _, h, _ => by simp [entB] at h
  | e :: es, x :: l, i, h, hc => by
    simp only [entB, List.map_cons, List.cons.injEq, Prod.mk.injEq] at h
    obtain ⟨⟨h1, h2⟩, h3⟩ := h
    unfold Instr.findNow
    rw [h1]
    simp only [Instr.sameNow, if_true]
    by_cases hz : z = x
    · subst hz
      simp [h2]
    · have hb : (z == x) = false := by simpa using hz
      rw [hb]
      refine find_t z es l (i + 1) h3 ?_
      simpa [hz] using hc
theorem find_f (z : Int) : ∀ (es : List MapEntry) (l : List Int) (i : Nat), es.map (fun e => (e.key, e.val)) = entB l → l.contains z = false → Instr.findNow (.int .i64) (.int .i64 z) es i = some none
  | [], [], _, _, _ => rfl
  | [], _ :: _, _, h, _ => by simp [entB] at h
  | _ :: _, [], _, h, _ => by simp [entB] at h
  | e :: es, x :: l, i, h, hc => by
    simp only [entB, List.map_cons, List.cons.injEq, Prod.mk.injEq] at h
    obtain ⟨⟨h1, h2⟩, h3⟩ := h
    have hz : ¬ z = x ∧ l.contains z = false := by simpa using hc
    unfold Instr.findNow
    rw [h1]
    simp only [Instr.sameNow, if_true]
    have hb : (z == x) = false := by simpa using hz.1
    rw [hb]
    exact find_f z es l (i + 1) h3 hz.2
section
variable {P : Program} {N : Nat} {w0 : World} {H : List Chunk} {L : Fm} {Q : Exit → Act → World → Prop} {o : Oper} {d : Nat} {K : Act → World → Prop}
theorem mg_run {w : World} {r : Nat} {es : Array MapEntry} {clock : Nat} (h : w.heap[r]? = some (.map es clock)) : (getObj r).run P w = .ok (.map es clock) w := by simp [getObj, Sem.run, h]
theorem ms_run {w : World} {r : Nat} {es : Array MapEntry} {clock : Nat} (ob : Obj) (h : w.heap[r]? = some (.map es clock)) : (setObj r ob).run P w = .ok () { w with heap := w.heap.setIfInBounds r ob } := by simp [setObj, Sem.run, h]
theorem D_mkmap {t : TypeId} (ho : o.op = .makeMap t none) (hd : o.dst = some d) (hN : Nat.blt d N = true) (k : ∀ g, D N w0 (ov [.map (some g)] (⟨[]⟩ : ISet) :: H) ((d, .map (some g)) :: L) K) : D N w0 H L (fun a w => o.wp P a w K Q) := by
  refine D_gen hd hN (fun a w hf hs => ⟨.map (some w.heap.size), w.alloc (.map #[] 0), ?_, fun a' hf' => k _ a' _ hf' (hs.push (fp := [w.heap.size]) (Ex.alloc w _) ⟨_, #[], 0, rfl, rfl, heap_alloc_new w _, rfl⟩ (by simp) ?_)⟩)
  · unfold execOp
    rw [ho]
    simp [Instr.makeMap]
  · intro g hg
    simp only [List.mem_singleton] at hg
    subst hg
    simp
theorem run_checkKey (w : World) {key : TypeId} (hk : P.underlying key = some (.int .i64)) (b : Bool) (z : Int) : (Instr.checkKey b 10000 key (.int .i64 z)).run P w = .ok () w := by
  have h : ∀ n : Nat, (Instr.checkKey b (n + 1) key (.int .i64 z)).run P w = .ok () w := fun n => by
    rw [Instr.checkKey]
    simp [run_underlying hk]
  exact h 9999
theorem D_lookup {t key elem g : Nat} {x y : Operand} {z : Int} {s : ISet} (k : Nat) (ht : P.underlying t = some (.map key elem)) (hkey : P.underlying key = some (.int .i64)) (hz : zeroTy P elem = some (.bool false)) (ho : o.op = .lookup t x y false) (hx : ev L x = some (.map (some g))) (hy : ev L y = some (.int .i64 z))
    (hk : H[k]? = some (ov [.map (some g)] s)) : RunV P N w0 H L o (.bool (s.has z)) := by
  intro a w hf hs
  obtain ⟨fp, ⟨g', es, c, h1, h2, h3, h4⟩, _⟩ := hs.at hk
  simp only [List.cons.injEq, and_true, Value.map.injEq, Option.some.injEq] at h1
  subst h1
  unfold zeroTy at hz
  unfold execOp
  rw [ho]
  cases hi : P.info? elem with
  | none => rw [hi] at hz; simp at hz
  | some i =>
    rw [hi] at hz
    simp only [Option.bind_some] at hz
    unfold ISet.has
    cases hc : s.l.contains z with
    | true =>
      obtain ⟨j, hj⟩ := find_t z es.toList s.l 0 h4 hc
      simp [Instr.lookup, hf.ev hx, hf.ev hy, run_underlying ht, mg_run h3, run_checkKey w hkey, Instr.findKey, run_underlying hkey, hj]
    | false =>
      have hj := find_f z es.toList s.l 0 h4 hc
      simp [Instr.lookup, hf.ev hx, hf.ev hy, run_underlying ht, mg_run h3, run_checkKey w hkey, Instr.findKey, run_underlying hkey, hj, zeroValue, typeInfo, hi, hz]
theorem D_mapup {t key elem g : Nat} {x y v : Operand} {z : Int} {s : ISet} (k : Nat) (ht : P.underlying t = some (.map key elem)) (hkey : P.underlying key = some (.int .i64)) (ho : o.op = .mapUpdate t x y v) (hx : ev L x = some (.map (some g))) (hy : ev L y = some (.int .i64 z)) (hv : ev L v = some (.bool true)) (hd : o.dst = none)
    (hk : H[k]? = some (ov [.map (some g)] s)) (hn : s.has z = false) (r : D N w0 (H.set k (ov [.map (some g)] (s.add z))) L K) : D N w0 H L (fun a w => o.wp P a w K Q) := by
  refine D_gen0 hd (fun a w hf hs => ?_)
  obtain ⟨fp, ⟨g', es, c, h1, h2, h3, h4⟩, hnd, hb, put⟩ := hs.set hk
  simp only [List.cons.injEq, and_true, Value.map.injEq, Option.some.injEq] at h1
  subst h1
  subst h2
  have hlt : g < w.heap.size := (hb g (by simp)).2
  have hj := find_f z es.toList s.l 0 h4 hn
  refine ⟨{ w with heap := w.heap.setIfInBounds g (.map (es.push { key := .int .i64 z, val := .bool true, born := c }) (c + 1)) }, ?_, fun a' hf' => r a' _ hf' (put _ (ov [.map (some g)] (s.add z)) [g] ⟨rfl, rfl, rfl, by simp, fun q hq hqn => ?_⟩ ?_ (by simp) (fun q hq => ⟨.inl hq, by have := hb q hq; simpa using this.2⟩))⟩
  · unfold execOp
    rw [ho]
    simp [Instr.mapUpdate, hf.ev hx, hf.ev hy, hf.ev hv, run_underlying ht, mg_run h3, run_checkKey w hkey, Instr.findKey, run_underlying hkey, hj, ms_run _ h3]
  · have hne : g ≠ q := fun e => hqn (by simp [e])
    simp [Array.getElem?_setIfInBounds, hne]
  · refine ⟨g, es.push { key := .int .i64 z, val := .bool true, born := c }, c + 1, rfl, rfl, by simp [Array.getElem?_setIfInBounds, hlt], ?_⟩
    have e : entB (s.add z).l = entB s.l ++ [(Value.int .i64 z, Value.bool true)] := by simp [entB, ISet.add]
    rw [e, ← h4]
    simp
end
end Go.Sy
