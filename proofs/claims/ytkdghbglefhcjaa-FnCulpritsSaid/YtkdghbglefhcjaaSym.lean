/-
  A small symbolic calculus over the model: frames known slot by slot, memory known chunk by chunk, one lemma an operation.
  Conditions: none; nothing here speaks of a program of its own.
-/
import Derived.WalkKit
import Derived.Below
import Derived.OrdersHeld
import Derived.Deep.RegionHeld3
import Derived.Laws.OwnMore
import Derived.Maps.AppendAt
import Derived.KernelRfl
namespace Go.Sy
open Go Go.RowKit

/-! ## Frames -/
abbrev Fm := List (Nat × Value)

def look : Fm → Nat → Option Value
  | [], _ => none
  | (j, v) :: L, i => cond (Nat.beq j i) (some v) (look L i)

structure Fits (a : Act) (N : Nat) (L : Fm) : Prop where
  dfr : a.defers = []
  size : a.tmps.size = N
  at_ : ∀ i v, look L i = some v → a.tmps.getD i undef = v

theorem Fits.put {a : Act} {N : Nat} {L : Fm} (h : Fits a N L) {d : Nat} (hd : Nat.blt d N = true) (v : Value) :
    Fits (a.put (some d) v) N ((d, v) :: L) := by
  have hd' : d < a.tmps.size := by
    rw [h.size]; exact Nat.le_of_ble_eq_true hd
  refine ⟨h.dfr, by simp [Act.put, h.size], fun i u hu => ?_⟩
  simp only [look] at hu
  cases hb : Nat.beq d i with
  | true =>
    have e : d = i := Nat.eq_of_beq_eq_true hb
    subst e
    rw [hb] at hu
    simp only [cond_true, Option.some.injEq] at hu
    subst hu
    simp [Act.put, hd']
  | false =>
    have e : d ≠ i := Nat.ne_of_beq_eq_false hb
    rw [hb] at hu
    simp only [cond_false] at hu
    have := h.at_ i u hu
    rw [← this]
    simp [Act.put, Array.getElem?_setIfInBounds_ne e]

def subF : Fm → Fm → Prop
  | [], _ => True
  | (i, v) :: L', L => look L i = some v ∧ subF L' L

theorem look_subF {L : Fm} : ∀ {L' : Fm}, subF L' L → ∀ i v, look L' i = some v → look L i = some v
  | [], _, _, _, h => by simp [look] at h
  | (j, u) :: L', hs, i, v, h => by
    simp only [look] at h
    cases hb : Nat.beq j i with
    | true =>
      rw [hb] at h
      simp only [cond_true, Option.some.injEq] at h
      have e : j = i := Nat.eq_of_beq_eq_true hb
      rw [← h, ← e]; exact hs.1
    | false =>
      rw [hb] at h
      exact look_subF hs.2 i v h

theorem Fits.weak {a : Act} {N : Nat} {L L' : Fm} (h : Fits a N L) (hs : subF L' L) : Fits a N L' :=
  ⟨h.dfr, h.size, fun i v hv => h.at_ i v (look_subF hs i v hv)⟩

def ev (L : Fm) : Operand → Option Value
  | .tmp t => look L t
  | .const v => some v
  | .global g => some (.pointer (some ⟨g, 0, none⟩))
  | .func f => some (.func (.func f) #[] #[])

theorem Fits.ev {a : Act} {N : Nat} {L : Fm} (h : Fits a N L) {x : Operand} {v : Value} (hx : ev L x = some v) : a.eval x = v := by
  cases x with
  | tmp t => exact h.at_ t v hx
  | const u => simpa [Sy.ev, Act.eval] using hx
  | global g => simpa [Sy.ev, Act.eval] using hx
  | func f => simpa [Sy.ev, Act.eval] using hx

def evs (L : Fm) : List Operand → Option (List Value)
  | [] => some []
  | x :: xs => match ev L x, evs L xs with
    | some v, some vs => some (v :: vs)
    | _, _ => none

theorem Fits.evs {a : Act} {N : Nat} {L : Fm} (h : Fits a N L) : ∀ {xs : List Operand} {vs : List Value}, evs L xs = some vs → xs.map a.eval = vs
  | [], vs, he => by simpa [Sy.evs] using he
  | x :: xs, vs, he => by
    simp only [Sy.evs] at he
    split at he
    · rename_i v ws h1 h2
      simp only [Option.some.injEq] at he
      subst he
      simp [h.ev h1, h.evs h2]
    · cases he

/-! ## Memory -/
abbrev Ex (w w' : World) : Prop := Below w.heap.size w w'

theorem Ex.refl (w : World) : Ex w w := Below.refl _ w
theorem Ex.trans {a b c : World} (h : Ex a b) (k : Ex b c) : Ex a c := Below.trans h (k.mono h.size)
theorem Ex.alloc (w : World) (o : Obj) : Ex w (w.alloc o) := (Below.refl _ w).alloc (Nat.le_refl _) o
theorem Ex.drew (w : World) : Ex w w.drew := (Below.refl _ w).drew

structure Chunk where
  ok : World → List Nat → Prop
  loc : ∀ w w' fp, ok w fp → (∀ g ∈ fp, w'.heap[g]? = w.heap[g]?) → ok w' fp

def Ows (w : World) : List Chunk → List Nat → Prop
  | [], F => F = []
  | c :: H, F => ∃ fp F', F = fp ++ F' ∧ c.ok w fp ∧ Ows w H F'

theorem Ows.loc {w w' : World} : ∀ {H : List Chunk} {F : List Nat}, Ows w H F → (∀ g ∈ F, w'.heap[g]? = w.heap[g]?) → Ows w' H F
  | [], _, h, _ => h
  | c :: H, F, ⟨fp, F', e, hc, hH⟩, hs => by
    subst e
    exact ⟨fp, F', rfl, c.loc _ _ _ hc (fun g hg => hs g (List.mem_append_left _ hg)), Ows.loc hH (fun g hg => hs g (List.mem_append_right _ hg))⟩

/-- One chunk of many: what the rest is, and how it is put back. -/
theorem Ows.focus {w : World} {c : Chunk} : ∀ {H : List Chunk} {F : List Nat} {k : Nat}, Ows w H F → H[k]? = some c →
    ∃ F1 fp F2, F = F1 ++ (fp ++ F2) ∧ c.ok w fp ∧
      ∀ (w' : World) (c' : Chunk) (fp' : List Nat), (∀ g ∈ F1 ++ F2, w'.heap[g]? = w.heap[g]?) → c'.ok w' fp' → Ows w' (H.set k c') (F1 ++ (fp' ++ F2))
  | [], _, _, _, h => by simp at h
  | x :: H, F, 0, ⟨fp, F', e, hc, hH⟩, h => by
    simp only [List.getElem?_cons_zero, Option.some.injEq] at h
    subst h
    refine ⟨[], fp, F', by simpa using e, hc, fun w' c' fp' hs hk => ?_⟩
    exact ⟨fp', F', by simp, hk, Ows.loc hH (fun g hg => hs g (by simpa using hg))⟩
  | x :: H, F, k + 1, ⟨fp, F', e, hc, hH⟩, h => by
    simp only [List.getElem?_cons_succ] at h
    obtain ⟨F1, fq, F2, e2, hq, put⟩ := Ows.focus hH h
    refine ⟨fp ++ F1, fq, F2, by rw [e, e2, List.append_assoc], hq, fun w' c' fp' hs hk => ?_⟩
    refine ⟨fp, F1 ++ (fp' ++ F2), by rw [List.append_assoc], x.loc _ _ _ hc (fun g hg => hs g (by simp [hg])), put w' c' fp' (fun g hg => hs g ?_) hk⟩
    rcases List.mem_append.1 hg with hg | hg <;> simp [hg]

structure St (w0 : World) (H : List Chunk) (w : World) : Prop where
  bel : Ex w0 w
  own : ∃ F, Ows w H F ∧ F.Nodup ∧ ∀ g ∈ F, w0.heap.size ≤ g ∧ g < w.heap.size

theorem St.start (w : World) : St w [] w := ⟨Ex.refl w, [], rfl, List.nodup_nil, fun _ h => by cases h⟩

theorem St.ext {w0 w w' : World} {H : List Chunk} (h : St w0 H w) (e : Ex w w') : St w0 H w' := by
  obtain ⟨F, ho, hn, hb⟩ := h.own
  exact ⟨h.bel.trans e, F, ho.loc (fun g hg => e.block g (hb g hg).2), hn, fun g hg => ⟨(hb g hg).1, Nat.lt_of_lt_of_le (hb g hg).2 e.size⟩⟩

theorem St.tail {w0 w : World} {c : Chunk} {H : List Chunk} (h : St w0 (c :: H) w) : St w0 H w := by
  obtain ⟨F, ⟨fp, F', e, hc, hH⟩, hn, hb⟩ := h.own
  subst e
  exact ⟨h.bel, F', hH, (List.nodup_append.1 hn).2.1, fun g hg => hb g (List.mem_append_right _ hg)⟩

/-- a chunk of one's own in new blocks -/
theorem St.push {w0 w w' : World} {c : Chunk} {H : List Chunk} {fp : List Nat} (h : St w0 H w) (e : Ex w w') (hc : c.ok w' fp) (hn : fp.Nodup)
    (hb : ∀ g ∈ fp, w.heap.size ≤ g ∧ g < w'.heap.size) : St w0 (c :: H) w' := by
  obtain ⟨F, ho, hnF, hbF⟩ := (h.ext e).own
  obtain ⟨F0, ho0, hn0, hb0⟩ := h.own
  refine ⟨h.bel.trans e, fp ++ F0, ⟨fp, F0, rfl, hc, ho0.loc (fun g hg => e.block g (hb0 g hg).2)⟩, ?_, ?_⟩
  · rw [List.nodup_append]
    refine ⟨hn, hn0, fun a ha b hb' => ?_⟩
    have := (hb a ha).1
    have := (hb0 b hb').2
    omega
  · intro g hg
    rcases List.mem_append.1 hg with hg | hg
    · have := h.bel.size
      exact ⟨by have := (hb g hg).1; omega, (hb g hg).2⟩
    · exact ⟨(hb0 g hg).1, Nat.lt_of_lt_of_le (hb0 g hg).2 e.size⟩

/-- only the blocks of 'fp' and new ones have changed -/
structure Kb (fp : List Nat) (w w' : World) : Prop where
  os : w'.os = w.os
  tape : w'.tape = w.tape
  output : w'.output = w.output
  size : w.heap.size ≤ w'.heap.size
  block : ∀ g, g < w.heap.size → g ∉ fp → w'.heap[g]? = w.heap[g]?

theorem Kb.of_ex {fp : List Nat} {w w' : World} (e : Ex w w') : Kb fp w w' := ⟨e.os, e.tape, e.output, e.size, fun g hg _ => e.block g hg⟩

theorem St.at {w0 w : World} {c : Chunk} {H : List Chunk} {k : Nat} (h : St w0 H w) (hk : H[k]? = some c) :
    ∃ fp, c.ok w fp ∧ fp.Nodup ∧ ∀ g ∈ fp, w0.heap.size ≤ g ∧ g < w.heap.size := by
  obtain ⟨F, ho, hn, hb⟩ := h.own
  obtain ⟨F1, fp, F2, e, hc, _⟩ := ho.focus hk
  subst e
  refine ⟨fp, hc, ?_, fun g hg => hb g (by simp [hg])⟩
  exact (List.nodup_append.1 (List.nodup_append.1 hn).2.1).1

/-- a chunk changes, and nothing else does -/
theorem St.set {w0 w : World} {c : Chunk} {H : List Chunk} {k : Nat} (h : St w0 H w) (hk : H[k]? = some c) :
    ∃ fp, c.ok w fp ∧ fp.Nodup ∧ (∀ g ∈ fp, w0.heap.size ≤ g ∧ g < w.heap.size) ∧
      ∀ (w' : World) (c' : Chunk) (fp' : List Nat), Kb fp w w' → c'.ok w' fp' → fp'.Nodup →
        (∀ g ∈ fp', (g ∈ fp ∨ w.heap.size ≤ g) ∧ g < w'.heap.size) → St w0 (H.set k c') w' := by
  obtain ⟨F, ho, hn, hb⟩ := h.own
  obtain ⟨F1, fp, F2, e, hc, put⟩ := ho.focus hk
  subst e
  have hn' := hn
  rw [List.nodup_append] at hn'
  obtain ⟨n1, n23, d1⟩ := hn'
  rw [List.nodup_append] at n23
  obtain ⟨n2, n3, d2⟩ := n23
  refine ⟨fp, hc, n2, fun g hg => hb g (by simp [hg]), fun w' c' fp' kb hc' hn' hb' => ?_⟩
  have hlt : ∀ g ∈ F1 ++ F2, g < w.heap.size ∧ w0.heap.size ≤ g := fun g hg => by
    have : g ∈ F1 ++ (fp ++ F2) := by
      rcases List.mem_append.1 hg with hg | hg <;> simp [hg]
    exact ⟨(hb g this).2, (hb g this).1⟩
  have hnot : ∀ g ∈ F1 ++ F2, g ∉ fp := fun g hg hf => by
    rcases List.mem_append.1 hg with hg | hg
    · exact d1 g hg g (by simp [hf]) rfl
    · exact d2 g hf g hg rfl
  refine ⟨⟨kb.os.trans h.bel.os, kb.tape.trans h.bel.tape, kb.output.trans h.bel.output, Nat.le_trans h.bel.size kb.size, fun g hg => ?_⟩,
    F1 ++ (fp' ++ F2), put w' c' fp' (fun g hg => kb.block g (hlt g hg).1 (hnot g hg)) hc', ?_, ?_⟩
  · rw [kb.block g (Nat.lt_of_lt_of_le hg h.bel.size) (fun hf => by have := (hb g (by simp [hf])).1; omega)]
    exact h.bel.block g hg
  · rw [List.nodup_append]
    refine ⟨n1, ?_, fun a ha b hb2 => ?_⟩
    · rw [List.nodup_append]
      refine ⟨hn', n3, fun a ha b hb2 e => ?_⟩
      subst e
      rcases (hb' a ha).1 with hf | hf
      · exact hnot a (by simp [hb2]) hf
      · have := (hlt a (by simp [hb2])).1; omega
    · intro e
      subst e
      rcases List.mem_append.1 hb2 with hf | hf
      · rcases (hb' a hf).1 with hf | hf
        · exact hnot a (by simp [ha]) hf
        · have := (hlt a (by simp [ha])).1; omega
      · exact d1 a ha a (by simp [hf]) rfl
  · intro g hg
    rcases List.mem_append.1 hg with hg | hg
    · exact ⟨(hlt g (by simp [hg])).2, Nat.lt_of_lt_of_le (hlt g (by simp [hg])).1 kb.size⟩
    · rcases List.mem_append.1 hg with hg | hg
      · refine ⟨?_, (hb' g hg).2⟩
        rcases (hb' g hg).1 with hf | hf
        · exact (hb g (by simp [hf])).1
        · exact Nat.le_trans h.bel.size hf
      · exact ⟨(hlt g (by simp [hg])).2, Nat.lt_of_lt_of_le (hlt g (by simp [hg])).1 kb.size⟩

/-- chunks in another order, some of them forgotten -/
theorem Ows.perm {w : World} {H H' : List Chunk} (p : List.Perm H H') : ∀ {F : List Nat}, Ows w H F → ∃ F', Ows w H' F' ∧ List.Perm F F' := by
  induction p with
  | nil => exact fun h => ⟨_, h, List.Perm.refl _⟩
  | cons x p ih =>
    rintro F ⟨fp, F', e, hc, hH⟩
    obtain ⟨F2, h2, p2⟩ := ih hH
    subst e
    exact ⟨fp ++ F2, ⟨fp, F2, rfl, hc, h2⟩, p2.append_left fp⟩
  | swap x y l =>
    rintro F ⟨fp, F', e, hc, fq, F2, e2, hq, hH⟩
    subst e; subst e2
    refine ⟨fq ++ (fp ++ F2), ⟨fq, fp ++ F2, rfl, hq, fp, F2, rfl, hc, hH⟩, ?_⟩
    rw [← List.append_assoc, ← List.append_assoc]
    exact List.Perm.append_right _ List.perm_append_comm
  | trans p q ih1 ih2 =>
    intro F h
    obtain ⟨F1, h1, p1⟩ := ih1 h
    obtain ⟨F2, h2, p2⟩ := ih2 h1
    exact ⟨F2, h2, p1.trans p2⟩

theorem St.perm {w0 w : World} {H H' : List Chunk} (h : St w0 H w) (p : List.Perm H H') : St w0 H' w := by
  obtain ⟨F, ho, hn, hb⟩ := h.own
  obtain ⟨F', ho', pF⟩ := ho.perm p
  exact ⟨h.bel, F', ho', pF.nodup_iff.1 hn, fun g hg => hb g (pF.mem_iff.2 hg)⟩

theorem St.dropEnd {w0 w : World} : ∀ {H X : List Chunk}, St w0 (H ++ X) w → St w0 H w := by
  intro H X h
  induction X generalizing H with
  | nil => simpa using h
  | cons x X ih =>
    have p : List.Perm (H ++ x :: X) (x :: (H ++ X)) := List.perm_middle
    exact ih (h.perm p).tail

/-- take the k-th to the front -/
def front {α : Type} : List α → Nat → List α
  | [], _ => []
  | x :: l, 0 => x :: l
  | x :: l, k + 1 => match front l k with
    | [] => [x]
    | y :: r => y :: x :: r

theorem front_perm {α : Type} : ∀ (l : List α) (k : Nat), List.Perm l (front l k)
  | [], _ => List.Perm.refl _
  | x :: l, 0 => List.Perm.refl _
  | x :: l, k + 1 => by
    have h := front_perm l k
    unfold front
    split
    · rename_i e; rw [e] at h; have := h.eq_nil; subst this; exact List.Perm.refl _
    · rename_i y r e
      rw [e] at h
      exact (h.cons x).trans (List.Perm.swap y x r)

/-- the listed ones, in this order (each place counted in what is left) -/
def picks {α : Type} : List α → List Nat → List α
  | _, [] => []
  | l, k :: ks => match front l k with
    | [] => []
    | y :: r => y :: picks r ks

theorem picks_perm {α : Type} : ∀ (ks : List Nat) (l : List α), ∃ X, List.Perm l (picks l ks ++ X)
  | [], l => ⟨l, by simp [picks]⟩
  | k :: ks, l => by
    have h := front_perm l k
    unfold picks
    split
    · rename_i e; exact ⟨l, by simp⟩
    · rename_i y r e
      rw [e] at h
      obtain ⟨X, hX⟩ := picks_perm ks r
      exact ⟨X, h.trans (by simpa using hX.cons y)⟩

theorem St.picks {w0 w : World} {H : List Chunk} (h : St w0 H w) (ks : List Nat) : St w0 (Sy.picks H ks) w := by
  obtain ⟨X, hX⟩ := picks_perm ks H
  exact (h.perm hX).dropEnd

/-! ## The judgement -/
def D (N : Nat) (w0 : World) (H : List Chunk) (L : Fm) (K : Act → World → Prop) : Prop := ∀ a w, Fits a N L → St w0 H w → K a w

section
variable {P : Program} {N : Nat} {w0 : World} {H : List Chunk} {L : Fm} {ops : Array Oper} {Q : Exit → Act → World → Prop} {o : Oper} {rest : List Oper} {d : Nat}

theorem D.use {K : Act → World → Prop} {a : Act} {w : World} (h : D N w0 H L K) (hf : Fits a N L) (hs : St w0 H w) : K a w := h a w hf hs

theorem D_weak {K : Act → World → Prop} (L' : Fm) (hs : subF L' L) (h : D N w0 H L' K) : D N w0 H L K := fun a w hf hst => h a w (hf.weak hs) hst
theorem D_picks {K : Act → World → Prop} (ks : List Nat) {H' : List Chunk} (e : picks H ks = H') (h : D N w0 H' L K) : D N w0 H L K :=
  fun a w hf hst => h a w hf (e ▸ hst.picks ks)
theorem D_pw {K : Act → World → Prop} (ks : List Nat) (L' : Fm) {H' : List Chunk} (hs : subF L' L) (e : picks H ks = H') (h : D N w0 H' L' K) : D N w0 H L K :=
  fun a w hf hst => h a w (hf.weak hs) (e ▸ hst.picks ks)

def gd (ops : Array Oper) (L : Fm) (o : Oper) : Option Bool :=
  match o.guard with
  | none => some true
  | some (j, b) => match ((ops[j]?).bind (·.dst)).bind (look L) with
    | some (.bool c) => some (c == b)
    | some (.tuple _) => some false
    | _ => none

theorem gd_sound {a : Act} {r : Bool} (hf : Fits a N L) (h : gd ops L o = some r) : Region.wanted o (yielded ops a.tmps) = r := by
  unfold gd at h
  unfold Region.wanted
  cases hg : o.guard with
  | none => rw [hg] at h; simpa using h
  | some jb =>
    obtain ⟨j, b⟩ := jb
    rw [hg] at h
    simp only at h ⊢
    unfold yielded
    cases hj : (ops[j]?).bind (·.dst) with
    | none => rw [hj] at h; simp at h
    | some dj =>
      rw [hj] at h
      simp only [Option.bind_some] at h ⊢
      split at h
      · rename_i c hc
        have h1 := hf.at_ dj _ hc
        have h2 : a.tmps[dj]? = some (.bool c) := by
          rw [Array.getD_eq_getD_getElem?] at h1
          cases hx : a.tmps[dj]? with
          | none => rw [hx] at h1; simp [undef] at h1
          | some u => rw [hx] at h1; simpa using h1
        rw [h2]
        simp only [Option.some.injEq] at h
        rw [← h]
        cases c <;> cases b <;> rfl
      · rename_i vs hc
        have h1 := hf.at_ dj _ hc
        simp only [Option.some.injEq] at h
        rw [← h]
        cases hx : a.tmps[dj]? with
        | none => rfl
        | some u =>
          rw [Array.getD_eq_getD_getElem?, hx] at h1
          simp only [Option.getD_some] at h1
          subst h1
          rfl
      · cases h

theorem wpList_run {a : Act} {w : World} (hw : Region.wanted o (yielded ops a.tmps) = true) (h : o.wp P a w (wpList P ops Q rest) Q) : wpList P ops Q (o :: rest) a w := by
  unfold wpList
  rw [if_pos hw]
  exact .inl h

variable {K : Act → World → Prop}
/-- an operation that yields a value -/
theorem D_gen (hd : o.dst = some d) (hN : Nat.blt d N = true)
    (hr : ∀ a w, Fits a N L → St w0 H w → ∃ v w', (execOp a.eval o).run P w = .ok (.value v) w' ∧ ∀ a', Fits a' N ((d, v) :: L) → K a' w') :
    D N w0 H L (fun a w => o.wp P a w K Q) := by
  intro a w hf hs
  obtain ⟨v, w', h1, h2⟩ := hr a w hf hs
  show o.wp P a w K Q
  unfold Oper.wp
  rw [h1]
  simp only [Oper.upon_value]
  rw [hd]
  exact h2 _ (hf.put hN v)

/-- an operation that yields nothing -/
theorem D_gen0 (hd : o.dst = none)
    (hr : ∀ a w, Fits a N L → St w0 H w → ∃ w', (execOp a.eval o).run P w = .ok .skip w' ∧ ∀ a', Fits a' N L → K a' w') :
    D N w0 H L (fun a w => o.wp P a w K Q) := by
  intro a w hf hs
  obtain ⟨w', h1, h2⟩ := hr a w hf hs
  show o.wp P a w K Q
  unfold Oper.wp
  rw [h1]
  simp only [Oper.upon_skip]
  rw [hd]
  exact h2 _ hf

/-- an operation that yields a value and leaves the world alone -/
def RunV (P : Program) (N : Nat) (w0 : World) (H : List Chunk) (L : Fm) (o : Oper) (v : Value) : Prop := ∀ a w, Fits a N L → St w0 H w → (execOp a.eval o).run P w = .ok (.value v) w

theorem sv {v : Value} (hd : o.dst = some d) (hN : Nat.blt d N = true) (hr : RunV P N w0 H L o v) (k : D N w0 H ((d, v) :: L) K) : D N w0 H L (fun a w => o.wp P a w K Q) :=
  D_gen hd hN fun a w hf hs => ⟨v, w, hr a w hf hs, fun a' hf' => k a' w hf' hs⟩

/-- the next operation of a list -/
theorem li (hg : gd ops L o = some true) (h : D N w0 H L (fun a w => o.wp P a w (wpList P ops Q rest) Q)) : D N w0 H L (wpList P ops Q (o :: rest)) :=
  fun a w hf hs => wpList_run (gd_sound hf hg) (h a w hf hs)

theorem D_val {v : Value} (hg : gd ops L o = some true) (hd : o.dst = some d) (hN : Nat.blt d N = true)
    (hr : RunV P N w0 H L o v) (k : D N w0 H ((d, v) :: L) (wpList P ops Q rest)) :
    D N w0 H L (wpList P ops Q (o :: rest)) := li hg (sv hd hN hr k)

def hdr (N : Nat) (ops : Array Oper) (L : Fm) (o : Oper) : Option Nat :=
  match gd ops L o, o.dst with
  | some true, some d => cond (Nat.blt d N) (some d) none
  | _, _ => none
theorem hdr_parts (h : hdr N ops L o = some d) : gd ops L o = some true ∧ o.dst = some d ∧ Nat.blt d N = true := by
  unfold hdr at h
  split at h
  · rename_i d' h1 h2
    cases hb : Nat.blt d' N with
    | false => rw [hb] at h; cases h
    | true =>
      rw [hb] at h
      simp only [cond_true, Option.some.injEq] at h
      subst h
      exact ⟨h1, h2, hb⟩
  · cases h

/-- a quiet operation of a list -/
theorem q1 {v : Value} (h : hdr N ops L o = some d) (hr : RunV P N w0 H L o v) (k : D N w0 H ((d, v) :: L) (wpList P ops Q rest)) : D N w0 H L (wpList P ops Q (o :: rest)) :=
  D_val (hdr_parts h).1 (hdr_parts h).2.1 (hdr_parts h).2.2 hr k

/-- the guard says no -/
theorem D_no (hg : gd ops L o = some false) (hd : o.dst = some d) (hN : Nat.blt d N = true) (k : D N w0 H ((d, undef) :: L) (wpList P ops Q rest)) :
    D N w0 H L (wpList P ops Q (o :: rest)) := by
  intro a w hf hs
  unfold wpList
  rw [if_neg (by rw [gd_sound hf hg]; simp), hd]
  exact k _ _ (hf.put hN _) hs

/-! ### operations that compute -/
def cmpI : BinOp → Int → Int → Option Bool
  | .eql, x, y => some (x == y)
  | .neq, x, y => some (x != y)
  | .lss, x, y => some (decide (x < y))
  | .leq, x, y => some (decide (x ≤ y))
  | .gtr, x, y => some (decide (y < x))
  | .geq, x, y => some (decide (y ≤ x))
  | _, _, _ => none

def evOp (L : Fm) : Op → Option Value
  | .move x => ev L x
  | .assign x => ev L x
  | .pick c x y => match ev L c with
    | some (.bool true) => ev L x
    | some (.bool false) => ev L y
    | _ => none
  | .unOp .not _ x => match ev L x with
    | some (.bool b) => some (.bool (!b))
    | _ => none
  | .binOp op _ x y _ => match ev L x, ev L y with
    | some (.int .i64 m), some (.int .i64 n) => (cmpI op m n).map .bool
    | some (.int .u8 m), some (.int .u8 n) => (cmpI op m n).map .bool
    | some (.int .i32 m), some (.int .i32 n) => (cmpI op m n).map .bool
    | _, _ => none
  | .extract x i => match ev L x with
    | some (.tuple vs) => vs[i]?
    | _ => none
  | _ => none

theorem cmp_run {w : World} {op : BinOp} {t : TypeId} {x y : Operand} {k : IntKind} {m n : Int} {b : Bool} (h : cmpI op m n = some b) :
    (do eqGuard op t x y (.int k m) (.int k n); binOp op t (.int k m) (.int k n) : Sem Value).run P w = .ok (.bool b) w := by
  cases op <;> simp only [cmpI, Option.some.injEq, reduceCtorEq] at h <;> subst h <;>
    simp [eqGuard, binOp, Op.intCmp, Sem.run_bind, Sem.run_pure]

theorem evOp_sound {a : Act} {v : Value} (w : World) (hf : Fits a N L) (h : evOp L o.op = some v) : (execOp a.eval o).run P w = .ok (.value v) w := by
  unfold execOp
  unfold evOp at h
  split at h
  · rename_i x hx
    rw [hx]; simp only; rw [hf.ev h]; rfl
  · rename_i x hx
    rw [hx]; simp only; rw [hf.ev h]; rfl
  · rename_i c x y hx
    rw [hx]; simp only
    split at h
    · rename_i hc; rw [hf.ev hc, hf.ev h]; rfl
    · rename_i hc; rw [hf.ev hc, hf.ev h]; rfl
    · cases h
  · rename_i t x hx
    rw [hx]; simp only
    split at h
    · rename_i b hb
      simp only [Option.some.injEq] at h
      rw [hf.ev hb, ← h]; rfl
    · cases h
  · rename_i op t x y t' hx
    rw [hx]; simp only
    split at h
    · rename_i m n h1 h2
      simp only [Option.map_eq_some_iff] at h
      obtain ⟨b, hb, e⟩ := h
      rw [hf.ev h1, hf.ev h2, ← e, Sem.run_bind, cmp_run hb]; rfl
    · rename_i m n h1 h2
      simp only [Option.map_eq_some_iff] at h
      obtain ⟨b, hb, e⟩ := h
      rw [hf.ev h1, hf.ev h2, ← e, Sem.run_bind, cmp_run hb]; rfl
    · rename_i m n h1 h2
      simp only [Option.map_eq_some_iff] at h
      obtain ⟨b, hb, e⟩ := h
      rw [hf.ev h1, hf.ev h2, ← e, Sem.run_bind, cmp_run hb]; rfl
    · cases h
  · rename_i x i hx
    rw [hx]; simp only
    split at h
    · rename_i vs hv
      rw [hf.ev hv]
      simp [Instr.extract, h, Sem.run_bind, Sem.run_pure]
    · cases h
  · cases h

/-- an operation that only computes -/
theorem pp {v : Value} (hg : gd ops L o = some true) (hv : evOp L o.op = some v) (hd : o.dst = some d) (hN : Nat.blt d N = true)
    (k : D N w0 H ((d, v) :: L) (wpList P ops Q rest)) : D N w0 H L (wpList P ops Q (o :: rest)) :=
  D_val hg hd hN (fun _ w hf _ => evOp_sound w hf hv) k

def stp (N : Nat) (ops : Array Oper) (L : Fm) (o : Oper) : Option (Nat × Value) :=
  match gd ops L o, o.dst, evOp L o.op with
  | some true, some d, some v => cond (Nat.blt d N) (some (d, v)) none
  | _, _, _ => none

theorem rp {v : Value} (hv : evOp L o.op = some v) : RunV P N w0 H L o v := fun _ w hf _ => evOp_sound w hf hv

theorem p1 {v : Value} (h : stp N ops L o = some (d, v)) (k : D N w0 H ((d, v) :: L) (wpList P ops Q rest)) : D N w0 H L (wpList P ops Q (o :: rest)) := by
  unfold stp at h
  split at h
  · rename_i d' v' h1 h2 h3
    cases hb : Nat.blt d' N with
    | false => rw [hb] at h; cases h
    | true =>
      rw [hb] at h
      simp only [cond_true, Option.some.injEq, Prod.mk.injEq] at h
      obtain ⟨e1, e2⟩ := h
      subst e1; subst e2
      exact pp h1 h3 h2 hb k
  · cases h

def ntp (N : Nat) (ops : Array Oper) (L : Fm) (o : Oper) : Option Nat :=
  match gd ops L o, o.dst with
  | some false, some d => cond (Nat.blt d N) (some d) none
  | _, _ => none

/-- the guard says no -/
theorem n1 (h : ntp N ops L o = some d) (k : D N w0 H ((d, undef) :: L) (wpList P ops Q rest)) : D N w0 H L (wpList P ops Q (o :: rest)) := by
  unfold ntp at h
  split at h
  · rename_i d' h1 h2
    cases hb : Nat.blt d' N with
    | false => rw [hb] at h; cases h
    | true =>
      rw [hb] at h
      simp only [cond_true, Option.some.injEq] at h
      subst h
      exact D_no h1 h2 hb k
  · cases h

/-- a test is decided -/
theorem gs {K : Act → World → Prop} (i : Nat) {b : Bool} (h : look L i = some (.bool b)) (hN : Nat.blt i N = true) (ht : b = true → D N w0 H ((i, .bool true) :: L) K) (hf : b = false → D N w0 H ((i, .bool false) :: L) K) : D N w0 H L K := by
  have up : ∀ a : Act, Fits a N L → ∀ c : Bool, b = c → Fits a N ((i, .bool c) :: L) := fun a hfit c hc => by
    refine ⟨hfit.dfr, hfit.size, fun j v hv => ?_⟩
    simp only [look] at hv
    cases hb : Nat.beq i j with
    | true =>
      have e : i = j := Nat.eq_of_beq_eq_true hb
      subst e
      rw [hb] at hv
      simp only [cond_true, Option.some.injEq] at hv
      rw [← hv, ← hc]; exact hfit.at_ i _ h
    | false => rw [hb] at hv; exact hfit.at_ j v hv
  cases hb : b with
  | true => exact fun a w hfit hs => ht hb a w (up a hfit true hb) hs
  | false => exact fun a w hfit hs => hf hb a w (up a hfit false hb) hs

/-! ### regions that draw their order: a condition S holds behind every operation but z, which waits for all others -/
def deps (ops : Array Oper) (k : Nat) : List Nat := match ops[k]? with
  | some o => (o.after.toList.filter (fun e => Region.binds .any e)).map (·.on)
  | none => []
def below (ops : Array Oper) (z : Nat) : List Nat := (List.range ops.size).reverse.foldl (fun l k => bif l.contains k then l ++ deps ops k else l) [z]
def zok (ops : Array Oper) (zs : List Nat) : Bool := zs.all fun z => (List.range ops.size).all (fun k => (below ops z).contains k || (below ops k).contains z)

def Closed (ops : Array Oper) (listed : Array Bool) : Prop := ∀ k o, ops[k]? = some o → listed.getD k false = true → ∀ e ∈ o.after, Region.binds .any e = true → listed.getD e.on false = true

theorem closed_set {listed : Array Bool} {j : Nat} (h : Closed ops listed) (hj : j ∈ Region.ready .any ops listed) : Closed ops (listed.setIfInBounds j true) := by
  intro k o hk hl e he hb
  refine getD_set_true ?_
  by_cases hjk : j = k
  · subst hjk
    obtain ⟨_, o', ho', hall⟩ := mem_ready.1 hj
    rw [hk] at ho'
    simp only [Option.some.injEq] at ho'
    subst ho'
    exact hall e he hb
  · rw [getD_set_ne false hjk] at hl
    exact h k o hk hl e he hb

theorem below_listed {listed : Array Bool} {z : Nat} (hc : Closed ops listed) (hz : z ∈ Region.ready .any ops listed) : ∀ k ∈ below ops z, k = z ∨ listed.getD k false = true := by
  have step : ∀ k, (k = z ∨ listed.getD k false = true) → ∀ q ∈ deps ops k, q = z ∨ listed.getD q false = true := fun k hk q hq => by
    unfold deps at hq
    split at hq
    · rename_i o ho
      simp only [List.mem_map, List.mem_filter] at hq
      obtain ⟨e, ⟨he, hb⟩, rfl⟩ := hq
      right
      rcases hk with rfl | hk
      · obtain ⟨_, o', ho', hall⟩ := mem_ready.1 hz
        rw [ho] at ho'
        simp only [Option.some.injEq] at ho'
        subst ho'
        exact hall e (by simpa using he) hb
      · exact hc k o ho hk e (by simpa using he) hb
    · cases hq
  have go : ∀ (ks l : List Nat), (∀ k ∈ l, k = z ∨ listed.getD k false = true) → ∀ k ∈ ks.foldl (fun l k => bif l.contains k then l ++ deps ops k else l) l, k = z ∨ listed.getD k false = true := fun ks => by
    induction ks with
    | nil => exact fun l h => h
    | cons k ks ih =>
      intro l h
      simp only [List.foldl_cons]
      refine ih _ ?_
      cases hk : l.contains k with
      | false => exact h
      | true =>
        intro q hq
        simp only [cond_true, List.mem_append] at hq
        rcases hq with hq | hq
        · exact h q hq
        · exact step k (h k (by simpa using hk)) q hq
  exact go _ _ (fun k hk => .inl (by simpa using hk))

theorem z_last {listed : Array Bool} {zs : List Nat} {z i : Nat} (ho : zok ops zs = true) (hm : z ∈ zs) (hc : Closed ops listed) (hz : z ∈ Region.ready .any ops listed) (hi : i ∈ Region.ready .any ops listed) : i = z := by
  have unl : ∀ j, j ∈ Region.ready .any ops listed → ¬ listed.getD j false = true := fun j hj h => by
    obtain ⟨hun, o, hoj, _⟩ := mem_ready.1 hj
    rcases Nat.lt_or_ge j listed.size with h' | h'
    · simp [h'] at hun h; rw [hun] at h; cases h
    · simp [Array.getElem?_eq_none h'] at h
  obtain ⟨_, o, hoi, _⟩ := mem_ready.1 hi
  have hil : i < ops.size := (Array.getElem?_eq_some_iff.1 hoi).1
  simp only [zok, List.all_eq_true, List.mem_range, Bool.or_eq_true] at ho
  rcases ho z hm i hil with h | h
  · rcases below_listed hc hz i (by simpa using h) with h | h
    · exact h
    · exact absurd h (unl i hi)
  · rcases below_listed hc hi z (by simpa using h) with h | h
    · exact h.symm
    · exact absurd h (unl z hz)

def anyG (P : Program) (ops : Array Oper) (Q : Exit → Act → World → Prop) (S : World → Prop) (z : List Nat) : Nat → Array Bool → Act → World → Prop
  | 0, listed, a, w => Region.ready .any ops listed = [] ∧ Q .normal a w
  | n + 1, listed, a, w => (Region.ready .any ops listed = [] → Q .normal a w) ∧
    ∀ i ∈ Region.ready .any ops listed, wpOp P ops Q i (fun a' w' => (i ∉ z → S w') ∧ anyG P ops Q S z n (listed.setIfInBounds i true) a' w') a w

theorem anyG_any {S : World → Prop} {z : List Nat} : ∀ (n : Nat) (listed : Array Bool) (a : Act) (w : World), anyG P ops Q S z n listed a w → wpAny P .any ops Q n listed a w
  | 0, _, _, _, h => h
  | n + 1, _, _, _, h => ⟨h.1, fun i hi => wpOp_mono (fun a' w' h' => anyG_any n _ a' w' h'.2) (h.2 i hi)⟩

theorem anyG_done {S : World → Prop} {z : List Nat} {listed : Array Bool} {a : Act} {w : World} (hr : Region.ready .any ops listed = []) (h : Q .normal a w) : ∀ n, anyG P ops Q S z n listed a w
  | 0 => ⟨hr, h⟩
  | _ + 1 => ⟨fun _ => h, by rw [hr]; simp⟩

theorem anyG_take {S : World → Prop} {z : List Nat} {i : Nat} {oi : Oper} {v : Value} (hzo : zok ops z = true) (hi : ops[i]? = some oi) (hsel : Region.noSelect ops = true) (hQ : ∀ c a w, Q (.panic c) (a.put oi.dst v) w → Q (.panic c) a w) :
    ∀ (n : Nat) (listed : Array Bool) (a : Act) (w : World), Closed ops listed →
      (∀ j oj, ops[j]? = some oj → j ≠ i → listed.getD j true = false → (∀ e ∈ oj.after, Region.binds .any e = true → e.on ≠ i) → oi.apart ops oj = true) →
      i ∈ Region.ready .any ops listed → YieldsIf P ops S oi v a → S w →
      anyG P ops Q S z n (listed.setIfInBounds i true) (a.put oi.dst v) w → anyG P ops Q S z (n + 1) listed a w := by
  intro n
  induction n with
  | zero =>
    intro listed a w _ _ hr hy hS G
    refine ⟨fun h => absurd hr (by rw [h]; simp), fun j hj => ?_⟩
    by_cases e : j = i
    · subst e
      exact hy.wpOp hi hS ⟨fun _ => hS, G⟩
    · have h1 := ready_mono hj e
      rw [G.1] at h1
      cases h1
  | succ n ih =>
    intro listed a w hc hfree hr hy hS G
    refine ⟨fun h => absurd hr (by rw [h]; simp), fun j hj => ?_⟩
    by_cases e : j = i
    · subst e
      exact hy.wpOp hi hS ⟨fun _ => hS, G⟩
    · obtain ⟨hun, oj, hoj, hall⟩ := mem_ready.1 hj
      have hjz : j ∉ z := fun e2 => e (z_last hzo e2 hc hj hr).symm
      have hno : ∀ x ∈ oj.after, Region.binds .any x = true → x.on ≠ i := fun x hx hb hx2 => by
        have h1 := hall x hx hb
        have h0 := (mem_ready.1 hr).1
        rw [hx2] at h1
        rcases Nat.lt_or_ge i listed.size with h' | h'
        · simp [h'] at h0 h1
          rw [h0] at h1; cases h1
        · simp [Array.getElem?_eq_none h'] at h1
      have h2 := wpOp_putIf hoj (hfree j oj hoj e hun hno) (fun cs b => Region.noSelect_spec hsel i oi cs b hi) (fun cs b => Region.noSelect_spec hsel j oj cs b hoj) hQ hy (G.2 j (ready_mono hj e))
      have hri := ready_mono hr (Ne.symm e)
      refine wpOp_mono (fun a' w' h3 => ?_) h2
      have hfree' : ∀ k ok, ops[k]? = some ok → k ≠ i → (listed.setIfInBounds j true).getD k true = false →
          (∀ x ∈ ok.after, Region.binds .any x = true → x.on ≠ i) → oi.apart ops ok = true := fun k ok hk hki hkun hkno => by
        refine hfree k ok hk hki ?_ hkno
        by_cases hjk : j = k
        · subst hjk; exact hun
        · rw [getD_set_ne true hjk] at hkun; exact hkun
      refine ⟨fun _ => h3.2.1 hjz, ih (listed.setIfInBounds j true) a' w' (closed_set hc hj) hfree' hri h3.1 (h3.2.1 hjz) ?_⟩
      rw [Array.setIfInBounds_comm _ _ e]
      exact h3.2.2

abbrev AnyH (P : Program) (ops : Array Oper) (Q : Exit → Act → World → Prop) (w0 : World) (H0 : List Chunk) (z : List Nat) (n : Nat) (listed : Array Bool) : Act → World → Prop :=
  fun a w => zok ops z = true → Closed ops listed → anyG P ops (NoPanic Q) (St w0 H0) z n listed a w

theorem C_draw {id : Nat} {l : List Oper} (hm : P.follows .mixedOrders = true) (z : List Nat) (hz : zok l.toArray z = true) (h : D N w0 H L (AnyH P l.toArray Q w0 H z l.length (Array.replicate l.length false))) : D N w0 H L ((Code.region id l.toArray true).wp P Q) := by
  intro a w hf hs
  refine wp_region_noPanic (wp_region_any hm (anyG_any (S := St w0 H) (z := z) _ _ _ _ ?_))
  have := h a w.drew hf (hs.ext (Ex.drew w)) hz (fun k o hk hl => by
    exfalso
    simp only [Array.getD_eq_getD_getElem?, Array.getElem?_replicate] at hl
    split at hl <;> simp at hl)
  simpa using this

/-- a quiet operation may be taken first -/
theorem tk {H0 : List Chunk} {z : List Nat} {n : Nat} {listed : Array Bool} (i : Nat) {v : Value} (hi : ops[i]? = some o) (hsel : Region.noSelect ops = true) (hfr : Region.free .any ops listed i = true) (hrd : (Region.ready .any ops listed).contains i = true)
    (h : hdr N ops L o = some d) (hS : ∀ w, St w0 H w → St w0 H0 w) (hr : RunV P N w0 H0 L o v) (k : D N w0 H ((d, v) :: L) (AnyH P ops Q w0 H0 z n (listed.setIfInBounds i true))) : D N w0 H L (AnyH P ops Q w0 H0 z (n + 1) listed) := by
  obtain ⟨hg, hd, hN⟩ := hdr_parts h
  intro a w hf hs hz hc
  have hi2 : i ∈ Region.ready .any ops listed := by simpa using hrd
  refine anyG_take hz hi hsel (v := v) (fun c a w hp => hp) _ _ _ _ hc (Region.free_spec hi hfr) hi2 (.inl ⟨gd_sound hf hg, fun w' hs' => hr a w' hf hs'⟩) (hS w hs) ?_
  rw [hd]
  exact k _ _ (hf.put hN v) hs hz (closed_set hc hi2)

/-- so may one whose guard says no -/
theorem tn {H0 : List Chunk} {z : List Nat} {n : Nat} {listed : Array Bool} (i : Nat) (hi : ops[i]? = some o) (hsel : Region.noSelect ops = true) (hfr : Region.free .any ops listed i = true) (hrd : (Region.ready .any ops listed).contains i = true)
    (hg : gd ops L o = some false) (hd : o.dst = some d) (hN : Nat.blt d N = true) (hS : ∀ w, St w0 H w → St w0 H0 w) (k : D N w0 H ((d, undef) :: L) (AnyH P ops Q w0 H0 z n (listed.setIfInBounds i true))) : D N w0 H L (AnyH P ops Q w0 H0 z (n + 1) listed) := by
  intro a w hf hs hz hc
  have hi2 : i ∈ Region.ready .any ops listed := by simpa using hrd
  refine anyG_take hz hi hsel (v := undef) (fun c a w hp => hp) _ _ _ _ hc (Region.free_spec hi hfr) hi2 (.inr ⟨gd_sound hf hg, rfl⟩) (hS w hs) ?_
  rw [hd]
  exact k _ _ (hf.put hN _) hs hz (closed_set hc hi2)

/-- the only one that may come up -/
theorem ty {H0 : List Chunk} {z : List Nat} {n : Nat} {listed : Array Bool} (i : Nat) (hi : ops[i]? = some o) (hrd : Region.ready .any ops listed = [i]) (hg : gd ops L o = some true)
    (k : D N w0 H L (fun a w => o.wp P a w (fun a' w' => (i ∉ z → St w0 H0 w') ∧ AnyH P ops Q w0 H0 z n (listed.setIfInBounds i true) a' w') (NoPanic Q))) : D N w0 H L (AnyH P ops Q w0 H0 z (n + 1) listed) := by
  intro a w hf hs hz hc
  refine ⟨fun h0 => absurd (hrd.symm.trans h0) (by simp), fun j hj => ?_⟩
  have hj2 := hj
  rw [hrd, List.mem_singleton] at hj
  subst hj
  unfold wpOp
  simp only [hi, gd_sound hf hg, if_true]
  refine .inl (Oper.wp_mono (fun a' w' h' => ⟨h'.1, h'.2 hz (closed_set hc hj2)⟩) (k a w hf hs))

theorem tS {H0 : List Chunk} {φ : Prop} {K : Act → World → Prop} (hS : ∀ w, St w0 H w → St w0 H0 w) (k : D N w0 H L K) : D N w0 H L (fun a w => (φ → St w0 H0 w) ∧ K a w) := fun a w hf hs => ⟨fun _ => hS w hs, k a w hf hs⟩
theorem tZ {H0 : List Chunk} {z : List Nat} {i : Nat} {K : Act → World → Prop} (hi : z.contains i = true) (k : D N w0 H L K) : D N w0 H L (fun a w => (i ∉ z → St w0 H0 w) ∧ K a w) := fun a w hf hs => ⟨fun h => absurd (by simpa using hi) h, k a w hf hs⟩

theorem tE {H0 : List Chunk} {z : List Nat} {n : Nat} {listed : Array Bool} (hrd : Region.ready .any ops listed = []) (k : D N w0 H L (Q .normal)) : D N w0 H L (AnyH P ops Q w0 H0 z n listed) :=
  fun a w hf hs _ _ => anyG_done (Q := NoPanic Q) hrd (NoPanic.normal (k a w hf hs)) n

theorem D_end (k : D N w0 H L (Q .normal)) : D N w0 H L (wpList P ops Q []) := k
end
end Go.Sy
