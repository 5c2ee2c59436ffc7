/-
  Owned lists of lists, with the values of their rows at hand: a row is read or written through its own value.
  Conditions: none.
-/
import Derived.Test.YtkdghbglefhcjaaHole
namespace Go.Sy
open Go Go.RowKit

theorem ow_take {α : Type} [Gd α] [Tid α] {w : World} {v : Value} {l : List α} {fp : List Nat} {i : Nat} {x : α} (h : Gd.ow w [v] l fp) (hi : l[i]? = some x) :
    ∃ es f1 f2, (ov es x).ok w f1 ∧ (hl v l i es).ok w f2 ∧ List.Perm fp (f1 ++ f2) := by
  rcases h with ⟨_, e, _⟩ | ⟨g, cap, cur, fps, h1, h2, h3, h4, h5, h6, h7, h8⟩
  · subst e; simp at hi
  · simp only [List.cons.injEq, and_true] at h1
    subst h1
    obtain ⟨f, hf2⟩ := some_of_lt (l := fps) (i := i) (by rw [h7]; exact lt_of_some hi)
    refine ⟨(cur.toList.drop (i * Gd.n α)).take (Gd.n α), f, g :: (fps.set i []).flatten, h8 i x f hi hf2, ?_, ?_⟩
    · refine ⟨g, cap, cur, fps.set i [], rfl, h2, h3, h4, h5, by simpa using h7, by rw [List.getElem?_set_self (lt_of_some hf2)], rfl, rfl, fun j y f' hj hy hf' => ?_⟩
      rw [List.getElem?_set_ne (fun e => hj e.symm)] at hf'
      exact h8 j y f' hy hf'
    · subst h6
      refine ((flatten_out hf2).cons g).trans ?_
      exact (List.perm_middle (l₁ := f) (l₂ := (fps.set i []).flatten) (a := g)).symm

theorem ow_put {α : Type} [Gd α] [Tid α] {w : World} {v : Value} {l : List α} {i : Nat} {x : α} {es : List Value} {f f2 : List Nat} (h1 : (ov es x).ok w f) (h2 : (hl v l i es).ok w f2) :
    ∃ fp, Gd.ow w [v] (l.set i x) fp ∧ List.Perm (f ++ f2) fp := by
  obtain ⟨g, cap, cur, fps, k1, k2, k3, k4, k5, k6, k7, k8, k9, k10⟩ := h2
  subst k8
  refine ⟨g :: (fps.set i f).flatten, .inr ⟨g, cap, cur, fps.set i f, by simpa using k1, k2, by simpa using k3, k4, k5, rfl, by simpa using k6, fun j y f' hy hf' => ?_⟩, ?_⟩
  · by_cases hj : j = i
    · subst hj
      have hlt : j < l.length := by have := lt_of_some hy; simpa using this
      rw [List.getElem?_set_self hlt] at hy
      rw [List.getElem?_set_self (by rw [k6]; exact hlt)] at hf'
      simp only [Option.some.injEq] at hy hf'
      subst hy; subst hf'
      rw [k9]; exact h1
    · rw [List.getElem?_set_ne (fun e => hj e.symm)] at hy hf'
      exact k10 j y f' hj hy hf'
  · refine List.Perm.trans ?_ ((flatten_in (f := f) k7).symm.cons g)
    exact List.perm_middle

/-- the values of the rows -/
def Rows (w : World) (v : Value) (hs : List Value) : Prop := ∀ (i : Nat) u, hs[i]? = some u → w.cell? (elemA v (i * 1)) = some u

theorem Rows.loc {w w' : World} {v : Value} {hs : List Value} {g n cap : Nat} (hv : v = .slice (some ⟨g, 0, none⟩) n cap) (h : Rows w v hs) (hg : w'.heap[g]? = w.heap[g]?) : Rows w' v hs := by
  subst hv
  intro i u hu
  have := h i u hu
  simp only [elemA, add_none] at this ⊢
  unfold World.cell? at this ⊢
  simpa [hg] using this

def mx {α : Type} [Gd α] [Tid α] [Tid (List α)] (v : Value) (hs : List Value) (M : List (List α)) : Chunk where
  ok w fp := Gd.ow w [v] M fp ∧ hs.length = M.length ∧ Rows w v hs
  loc := fun w w' fp ⟨h1, h2, h3⟩ hs' => by
    refine ⟨Gd.ow_loc h1 hs', h2, ?_⟩
    rcases h1 with ⟨_, e, _⟩ | ⟨g, cap, cur, fps, k1, k2, k3, k4, k5, k6, k7, k8⟩
    · subst e
      intro i u hu
      have := lt_of_some hu
      simp [h2] at this
    · simp only [List.cons.injEq, and_true] at k1
      exact h3.loc k1 (hs' g (by rw [k6]; simp))

def mh {α : Type} [Gd α] [Tid α] [Tid (List α)] (v : Value) (hs : List Value) (M : List (List α)) (i : Nat) (r : Value) : Chunk where
  ok w fp := (hl v M i [r]).ok w fp ∧ hs.length = M.length ∧ Rows w v hs
  loc := fun w w' fp ⟨h1, h2, h3⟩ hs' => by
    refine ⟨(hl v M i [r]).loc _ _ _ h1 hs', h2, ?_⟩
    obtain ⟨g, cap, cur, fps, k1, k2, k3, k4, k5, k6, k7, k8, k9, k10⟩ := h1
    exact h3.loc k1 (hs' g (by rw [k8]; simp))

section
variable {P : Program} {N : Nat} {w0 : World} {H : List Chunk} {L : Fm} {ops : Array Oper} {Q : Exit → Act → World → Prop} {o : Oper} {rest : List Oper} {d : Nat} {K : Act → World → Prop}

theorem D_mopen {α : Type} [Gd α] [Tid α] [Tid (List α)] {v : Value} {M : List (List α)} (k : ∀ hs, hs.length = M.length → D N w0 (mx v hs M :: H) L K) : D N w0 (ov [v] M :: H) L K := by
  intro a w hf hst
  obtain ⟨fp0, hok0, _⟩ := hst.at (k := 0) rfl
  have key : ∃ hs : List Value, hs.length = M.length ∧ Rows w v hs := by
    rcases hok0 with ⟨_, e, _⟩ | ⟨g, cap, cur, fps, h1, h2, h3, h4, h5, h6, h7, h8⟩
    · subst e
      exact ⟨[], rfl, fun i u hu => by simp at hu⟩
    · simp only [List.cons.injEq, and_true] at h1
      subst h1
      have h5' : cur.size = cap := by rw [h5]; show cap * 1 = cap; omega
      refine ⟨cur.toList.take M.length, by have hq : cur.toList.length = cap := (by simpa using h5'); rw [List.length_take, hq]; exact Nat.min_eq_left h3, fun i u hu => ?_⟩
      simp only [elemA, add_none, Nat.mul_one, Nat.zero_add]
      rw [cell_of_heap h2]
      rw [List.getElem?_take] at hu
      split at hu
      · simpa using hu
      · cases hu
  obtain ⟨hs, hl1, hr⟩ := key
  exact k hs hl1 a w hf (St.conv hst (fun fp hok => ⟨fp, ⟨hok, hl1, hr⟩, List.Perm.refl _⟩))

theorem D_mclose {α : Type} [Gd α] [Tid α] [Tid (List α)] {v : Value} {hs : List Value} {M : List (List α)} (k : D N w0 (ov [v] M :: H) L K) : D N w0 (mx v hs M :: H) L K :=
  fun a w hf hst => k a w hf (St.conv hst (fun fp hok => ⟨fp, hok.1, List.Perm.refl _⟩))

theorem D_mtake {α : Type} [Gd α] [Tid α] [Tid (List α)] {v r : Value} {hs : List Value} {M : List (List α)} {i : Nat} {row : List α} (hh : hs[i]? = some r) (hr : M[i]? = some row) (k : D N w0 (ov [r] row :: mh v hs M i r :: H) L K) : D N w0 (mx v hs M :: H) L K := by
  intro a w hf hst
  refine k a w hf (St.split (St.conv (c' := star _ _) hst ?_))
  rintro fp ⟨h1, h2, h3⟩
  obtain ⟨es, f1, f2, k1, k2, k3⟩ := ow_take h1 hr
  have he : es = [r] := by
    obtain ⟨u, rfl⟩ := ow_cell k1
    have hc := h3 i r hh
    obtain ⟨g, cap, cur, fps, q1, q2, q3, q4, q5, q6, q7, q8, q9, q10⟩ := k2
    subst q1
    simp only [elemA, add_none, Nat.mul_one, Nat.zero_add] at hc
    rw [cell_of_heap q2] at hc
    have q9' : (cur.toList.drop (i * 1)).take 1 = [u] := q9
    have : ((cur.toList.drop (i * 1)).take 1)[0]? = some u := by rw [q9']; rfl
    rw [List.getElem?_take, if_pos (by omega), List.getElem?_drop, Nat.mul_one, Nat.add_zero] at this
    have hc' : cur.toList[i]? = some r := by simpa using hc
    rw [hc'] at this
    simp only [Option.some.injEq] at this
    rw [this]
  subst he
  exact ⟨f1 ++ f2, ⟨f1, f2, rfl, k1, k2, h2, h3⟩, k3⟩

theorem D_mput {α : Type} [Gd α] [Tid α] [Tid (List α)] {v r : Value} {hs : List Value} {M : List (List α)} {i : Nat} {row : List α} (k : D N w0 (mx v hs (M.set i row) :: H) L K) : D N w0 (ov [r] row :: mh v hs M i r :: H) L K := by
  intro a w hf hst
  refine k a w hf (St.conv (c := star (ov [r] row) (mh v hs M i r)) hst.star ?_)
  rintro fp ⟨f, f2, rfl, h1, h2, h3, h4⟩
  obtain ⟨fp', k1, k2⟩ := ow_put h1 h2
  exact ⟨fp', ⟨k1, by simpa using h3, h4⟩, k2⟩

theorem mx_rd {α : Type} [Gd α] [Tid α] [Tid (List α)] {w : World} {v : Value} {hs : List Value} {M : List (List α)} {k : Nat} (hst : St w0 H w) (h : H[k]? = some (mx v hs M)) : Gd.rd w [v] M := by
  obtain ⟨fp, hk, _⟩ := hst.at h
  exact Gd.ow_rd hk.1

theorem mx_row {α : Type} [Gd α] [Tid α] [Tid (List α)] {w : World} {v r : Value} {hs : List Value} {M : List (List α)} {k i : Nat} {row : List α} (hst : St w0 H w) (h : H[k]? = some (mx v hs M)) (hh : hs[i]? = some r) (hr : M[i]? = some row) : Gd.rd w [r] row := by
  obtain ⟨fp, hk, _⟩ := hst.at h
  obtain ⟨es, hat, hrd⟩ := rd_elem (n := 1) rfl (Gd.ow_rd hk.1) hr
  obtain ⟨u, rfl⟩ := rd_cell hrd
  have h1 := hk.2.2 i r hh
  have h2 := hat 0 u rfl
  rw [add_zero, h1] at h2
  simp only [Option.some.injEq] at h2
  rw [h2]
  exact hrd

/-- the value of a row -/
theorem lmx {α : Type} [Gd α] [Tid α] [Tid (List α)] {t : TypeId} {x : Operand} {v r : Value} {hs : List Value} {M : List (List α)} {j : Nat} (k : Nat) (ht : oneTy P t = true) (ho : o.op = .load t x) (hx : ev L x = some (.pointer (some (elemA v (j * 1)))))
    (hk : H[k]? = some (mx v hs M)) (hh : hs[j]? = some r) : RunV P N w0 H L o r :=
  D_ld1 ht ho hx (fun w hst => by obtain ⟨fp, h, _⟩ := hst.at hk; exact h.2.2 j r hh)

/-- an element that is read -/
theorem lrd {α : Type} [Fl α] [Tid α] {t : TypeId} {x : Operand} {v : Value} {l : List α} {j : Nat} {y : α} (ht : oneTy P t = true) (ho : o.op = .load t x) (hx : ev L x = some (.pointer (some (elemA v (j * 1)))))
    (hr : ∀ w, St w0 H w → Gd.rd w [v] l) (hj : l[j]? = some y) : RunV P N w0 H L o (Fl.enc y) := by
  refine D_ld1 ht ho hx (fun w hs => ?_)
  obtain ⟨es, hat, hrd⟩ := rd_elem (n := 1) rfl (hr w hs) hj
  have hr' : es = [Fl.enc y] := hrd
  subst hr'
  have := hat 0 (Fl.enc y) rfl
  rwa [add_zero] at this

theorem D_lenr {α : Type} [Gd α] [Tid α] {t : TypeId} {x : Operand} {v : Value} {l : List α} {e3 : Nat × Nat × Nat} (ht : sliceTy P t = some e3) (ho : o.op = .call ⟨.builtin .len, #[x], #[t]⟩) (hx : ev L x = some v)
    (hr : ∀ w, St w0 H w → Gd.rd w [v] l) : RunV P N w0 H L o (.int .i64 (l.length : Int)) := fun a w hf hs =>
  D_len (N := N) (w0 := w0) (H := H) ht ho hx (rd_sl (hr w hs)) a w hf hs

theorem D_meq {α : Type} [Gd α] [Tid α] [Tid (List α)] {v : Value} {hs : List Value} {M M' : List (List α)} (e : M = M') (k : D N w0 (mx v hs M' :: H) L K) : D N w0 (mx v hs M :: H) L K := e ▸ k
theorem mx_one {α : Type} [Gd α] [Tid α] [Tid (List α)] {w : World} {v : Value} {hs : List Value} {M : List (List α)} {k : Nat} (hst : St w0 H w) (h : H[k]? = some (mx v hs M)) : v.oneCell' = true := Gd.rd_one (mx_rd hst h) v (by simp)
end
end Go.Sy
