/-
  Data in memory: what a value reads as ('rd': borrowed), and what is held alone ('ow': owned, with the blocks it lies in).
  Conditions: none.
-/
import Derived.Test.YtkdghbglefhcjaaSym
namespace Go.Sy
open Go Go.RowKit

class Gd (α : Type) where
  n : Nat
  st : Bool
  rd : World → List Value → α → Prop
  ow : World → List Value → α → List Nat → Prop
  rd_len : ∀ {w cs x}, rd w cs x → cs.length = n
  rd_one : ∀ {w cs x}, rd w cs x → ∀ u ∈ cs, u.oneCell' = true
  rd_ext : ∀ {w w' cs x}, Ex w w' → rd w cs x → rd w' cs x
  ow_loc : ∀ {w w' cs x fp}, ow w cs x fp → (∀ g ∈ fp, w'.heap[g]? = w.heap[g]?) → ow w' cs x fp
  ow_lt : ∀ {w cs x fp}, ow w cs x fp → ∀ g ∈ fp, g < w.heap.size
  ow_rd : ∀ {w cs x fp}, ow w cs x fp → rd w cs x

class Tid (α : Type) where
  id : Nat

class Fl (α : Type) where
  enc : α → Value
  one : ∀ x, (enc x).oneCell' = true

instance : Fl Int := ⟨fun n => .int .i64 n, fun _ => rfl⟩
instance : Fl Bool := ⟨fun b => .bool b, fun _ => rfl⟩
instance : Fl ByteArray := ⟨fun s => .string s, fun _ => rfl⟩

instance instFl {α : Type} [Fl α] : Gd α where
  n := 1
  st := false
  rd := fun _ cs x => cs = [Fl.enc x]
  ow := fun _ cs x fp => cs = [Fl.enc x] ∧ fp = []
  rd_len := fun h => by rw [h]; rfl
  rd_one := fun {_ _ x} h u hu => by rw [h] at hu; simp only [List.mem_singleton] at hu; rw [hu]; exact Fl.one x
  rd_ext := fun _ h => h
  ow_loc := fun h _ => h
  ow_lt := fun h g hg => by rw [h.2] at hg; cases hg
  ow_rd := fun h => h.1

theorem lt_of_heap {w : World} {g : Nat} {o : Obj} (h : w.heap[g]? = some o) : g < w.heap.size := (Array.getElem?_eq_some_iff.1 h).1

theorem lt_of_cell {w : World} {p : Addr} {v : Value} (h : w.cell? p = some v) : p.block < w.heap.size := by
  unfold World.cell? at h
  cases hb : w.heap[p.block]? with
  | none => rw [hb] at h; simp at h
  | some o => exact lt_of_heap hb

theorem Ex.cell {w w' : World} (e : Ex w w') {p : Addr} {v : Value} (h : w.cell? p = some v) : w'.cell? p = some v := by
  rw [← h]; exact Below.cell e (lt_of_cell h)

def rdList {α : Type} [Gd α] (w : World) (cs : List Value) (l : List α) : Prop :=
  ∃ a cap, cs = [.slice a l.length cap] ∧ l.length ≤ maxLen ∧ ∀ (i : Nat) (x : α), l[i]? = some x →
    ∃ ad es, a = some ad ∧ (∀ (j : Nat) u, es[j]? = some u → w.cell? (ad.add (i * Gd.n α + j)) = some u) ∧ Gd.rd w es x

def owList {α : Type} [Gd α] [Tid α] (w : World) (cs : List Value) (l : List α) (fp : List Nat) : Prop :=
  (cs = [.slice none 0 0] ∧ l = [] ∧ fp = []) ∨
  ∃ (g cap : Nat) (cur : Array Value) (fps : List (List Nat)), cs = [.slice (some ⟨g, 0, none⟩) l.length cap] ∧ w.heap[g]? = some (.cells cur (Tid.id α) (0, 0)) ∧ l.length ≤ cap ∧ cap ≤ maxLen ∧
    cur.size = cap * Gd.n α ∧ fp = g :: fps.flatten ∧ fps.length = l.length ∧
    ∀ (i : Nat) (x : α) (f : List Nat), l[i]? = some x → fps[i]? = some f → Gd.ow w ((cur.toList.drop (i * Gd.n α)).take (Gd.n α)) x f

theorem mem_of_idx {α : Type} {l : List (List α)} {i : Nat} {f : List α} {g : α} (h : l[i]? = some f) (hg : g ∈ f) : g ∈ l.flatten :=
  List.mem_flatten.2 ⟨f, List.mem_of_getElem? h, hg⟩

theorem idx_of_mem {α : Type} {l : List (List α)} {g : α} (h : g ∈ l.flatten) : ∃ (i : Nat) (f : List α), l[i]? = some f ∧ g ∈ f := by
  obtain ⟨f, hf, hg⟩ := List.mem_flatten.1 h
  obtain ⟨i, hi⟩ := List.getElem?_of_mem hf
  exact ⟨i, f, hi, hg⟩

theorem some_of_lt {α : Type} {l : List α} {i : Nat} (h : i < l.length) : ∃ x, l[i]? = some x := ⟨l[i], List.getElem?_eq_getElem h⟩
theorem lt_of_some {α : Type} {l : List α} {i : Nat} {x : α} (h : l[i]? = some x) : i < l.length := (List.getElem?_eq_some_iff.1 h).1

theorem cell_of_heap {w : World} {g o : Nat} {cur : Array Value} {t : TypeId} {fz : Nat × Nat} (h : w.heap[g]? = some (.cells cur t fz)) :
    w.cell? ⟨g, o, none⟩ = cur[o]? := by
  simp [World.cell?, h]

theorem add_none (g o k : Nat) : (⟨g, o, none⟩ : Addr).add k = ⟨g, o + k, none⟩ := by
  unfold Addr.add
  split
  · rename_i h; subst h; rfl
  · rfl

instance instList {α : Type} [Gd α] [Tid α] : Gd (List α) where
  n := 1
  st := false
  rd := rdList
  ow := owList
  rd_len := fun h => by obtain ⟨a, cap, e, _⟩ := h; rw [e]; rfl
  rd_one := fun h u hu => by
    obtain ⟨a, cap, e, _⟩ := h; rw [e] at hu; simp only [List.mem_singleton] at hu; rw [hu]; rfl
  rd_ext := fun e h => by
    obtain ⟨a, cap, hc, hm, hx⟩ := h
    refine ⟨a, cap, hc, hm, fun i x hi => ?_⟩
    obtain ⟨ad, es, ha, hj, hr⟩ := hx i x hi
    exact ⟨ad, es, ha, fun j u hu => Ex.cell e (hj j u hu), Gd.rd_ext e hr⟩
  ow_loc := fun h hs => by
    rcases h with h | ⟨g, cap, cur, fps, h1, h2, h3, h4, h5, h6, h7, h8⟩
    · exact .inl h
    · subst h6
      refine .inr ⟨g, cap, cur, fps, h1, by rw [hs g (by simp)]; exact h2, h3, h4, h5, rfl, h7, fun i x f hx hf => ?_⟩
      exact Gd.ow_loc (h8 i x f hx hf) (fun k hk => hs k (List.mem_cons_of_mem _ (mem_of_idx hf hk)))
  ow_lt := fun h k hk => by
    rcases h with ⟨_, _, h⟩ | ⟨g, cap, cur, fps, h1, h2, h3, h4, h5, h6, h7, h8⟩
    · rw [h] at hk; cases hk
    · rw [h6] at hk
      rcases List.mem_cons.1 hk with e | hk
      · rw [e]; exact lt_of_heap h2
      · obtain ⟨i, f, hf, hg⟩ := idx_of_mem hk
        obtain ⟨x, hx⟩ := some_of_lt (by rw [← h7]; exact lt_of_some hf)
        exact Gd.ow_lt (h8 i x f hx hf) k hg
  ow_rd := fun {w cs x fp} h => by
    rcases h with ⟨hc, hl, _⟩ | ⟨g, cap, cur, fps, h1, h2, h3, h4, h5, h6, h7, h8⟩
    · subst hl
      exact ⟨none, 0, hc, by simp [maxLen], fun i y hy => by simp at hy⟩
    · refine ⟨some ⟨g, 0, none⟩, cap, h1, Nat.le_trans h3 h4, fun i y hy => ?_⟩
      obtain ⟨f, hf⟩ := some_of_lt (l := fps) (i := i) (by rw [h7]; exact lt_of_some hy)
      refine ⟨_, _, rfl, fun j u hu => ?_, Gd.ow_rd (h8 i y f hy hf)⟩
      rw [add_none, cell_of_heap h2]
      rw [List.getElem?_take] at hu
      split at hu
      · rw [List.getElem?_drop] at hu
        simpa using hu
      · cases hu

instance instProd {α β : Type} [Gd α] [Gd β] : Gd (α × β) where
  n := Gd.n α + Gd.n β
  st := true
  rd := fun w cs x => ∃ c1 c2, cs = c1 ++ c2 ∧ Gd.rd w c1 x.1 ∧ Gd.rd w c2 x.2
  ow := fun w cs x fp => ∃ c1 c2 f1 f2, cs = c1 ++ c2 ∧ fp = f1 ++ f2 ∧ Gd.ow w c1 x.1 f1 ∧ Gd.ow w c2 x.2 f2
  rd_len := fun h => by
    obtain ⟨c1, c2, e, h1, h2⟩ := h
    rw [e, List.length_append, Gd.rd_len h1, Gd.rd_len h2]
  rd_one := fun h u hu => by
    obtain ⟨c1, c2, e, h1, h2⟩ := h
    rw [e] at hu
    rcases List.mem_append.1 hu with hu | hu
    · exact Gd.rd_one h1 u hu
    · exact Gd.rd_one h2 u hu
  rd_ext := fun e h => by
    obtain ⟨c1, c2, e1, h1, h2⟩ := h
    exact ⟨c1, c2, e1, Gd.rd_ext e h1, Gd.rd_ext e h2⟩
  ow_loc := fun h hs => by
    obtain ⟨c1, c2, f1, f2, e1, e2, h1, h2⟩ := h
    subst e2
    exact ⟨c1, c2, f1, f2, e1, rfl, Gd.ow_loc h1 (fun g hg => hs g (by simp [hg])), Gd.ow_loc h2 (fun g hg => hs g (by simp [hg]))⟩
  ow_lt := fun h g hg => by
    obtain ⟨c1, c2, f1, f2, e1, e2, h1, h2⟩ := h
    rw [e2] at hg
    rcases List.mem_append.1 hg with hg | hg
    · exact Gd.ow_lt h1 g hg
    · exact Gd.ow_lt h2 g hg
  ow_rd := fun h => by
    obtain ⟨c1, c2, f1, f2, e1, e2, h1, h2⟩ := h
    exact ⟨c1, c2, e1, Gd.ow_rd h1, Gd.ow_rd h2⟩

/-- a struct type, through the tuple of its fields -/
@[reducible] def Gd.via {α β : Type} [Gd α] (f : β → α) : Gd β where
  n := Gd.n α
  st := true
  rd := fun w cs x => Gd.rd w cs (f x)
  ow := fun w cs x fp => Gd.ow w cs (f x) fp
  rd_len := fun h => Gd.rd_len h
  rd_one := fun h => Gd.rd_one h
  rd_ext := fun e h => Gd.rd_ext e h
  ow_loc := fun h hs => Gd.ow_loc h hs
  ow_lt := fun h => Gd.ow_lt h
  ow_rd := fun h => Gd.ow_rd h

def Gd.vl (α : Type) [Gd α] (cs : List Value) : Value := if Gd.st α then .agg cs.toArray else cs.headD undef

/-- what is read with one's own base stays as it is -/
theorem rd_at {α : Type} [Gd α] {w0 w : World} {H : List Chunk} {cs : List Value} {x : α} (hs : St w0 H w) (h : Gd.rd w0 cs x) : Gd.rd w cs x := Gd.rd_ext hs.bel h

def ov {α : Type} [Gd α] (cs : List Value) (x : α) : Chunk := ⟨fun w fp => Gd.ow w cs x fp, fun _ _ _ h hs => Gd.ow_loc h hs⟩

theorem rd_own {α : Type} [Gd α] {w0 w : World} {H : List Chunk} {cs : List Value} {x : α} {k : Nat} (hs : St w0 H w) (h : H[k]? = some (ov cs x)) : Gd.rd w cs x := by
  obtain ⟨fp, hk, _⟩ := hs.at h
  exact Gd.ow_rd hk

/-- a call's result in new memory -/
def Res {α : Type} [Gd α] (w : World) (x : α) (e : Ending) (w' : World) : Prop :=
  ∃ cs fp, e = .returned (Gd.vl α cs) ∧ Gd.ow w' cs x fp ∧ fp.Nodup ∧ (∀ g ∈ fp, w.heap.size ≤ g) ∧ Ex w w'

/-- a call's result that is a plain value -/
def Val (w : World) (v : Value) (e : Ending) (w' : World) : Prop := e = .returned v ∧ Ex w w'

end Go.Sy
