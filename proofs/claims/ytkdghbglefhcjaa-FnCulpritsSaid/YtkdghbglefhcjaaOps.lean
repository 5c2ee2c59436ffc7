/-
  Operations over memory, in the calculus: boxes, borrowed data, owned lists, calls, loops, returns.
  Conditions: none.
-/
import Derived.Test.YtkdghbglefhcjaaMem
namespace Go.Sy
open Go Go.RowKit

/-! ## what is asked of the program's tables -/
def fieldOff (P : Program) (t j : Nat) : Option Nat :=
  match P.underlying t with
  | some (.struct fs) => match fs[j]? with
    | some f => match P.info? f.type with
      | some i => if i.size = 0 then none else some f.offset
      | none => none
    | none => none
  | _ => none

def oneTy (P : Program) (t : Nat) : Bool :=
  match P.underlying t with
  | some (.struct _) | some (.array _ _) | none => false
  | some _ => true

def aggTy (P : Program) (t : Nat) : Option Nat :=
  match P.underlying t with
  | some (.struct _) => (P.info? t).map (·.size)
  | _ => none

def sizeTy (P : Program) (t : Nat) : Option Nat := (P.info? t).map (·.size)
def zeroTy (P : Program) (t : Nat) : Option Value := (P.info? t).bind (·.zero)

/-- a slice type: its element's type, cells and bytes -/
def sliceTy (P : Program) (t : Nat) : Option (Nat × Nat × Nat) :=
  match P.underlying t with
  | some (.slice e) => (P.info? e).map fun i => (e, i.size, i.bytes)
  | _ => none

def hasBody (P : Program) (f : Nat) : Bool :=
  match P.funcs[f]? with
  | some fn => !(fn.name == "runtime.NumGoroutine") && fn.body.isSome
  | none => false

def elemA : Value → Nat → Addr
  | .slice (some a) _ _, n => a.add n
  | _, _ => ⟨0, 0, none⟩

def AtE (w : World) (p : Addr) (es : List Value) : Prop := ∀ (j : Nat) u, es[j]? = some u → w.cell? (p.add j) = some u

theorem add_add (a : Addr) (i j : Nat) : (a.add i).add j = a.add (i + j) := by
  unfold Addr.add
  by_cases hi : i = 0 <;> by_cases hj : j = 0 <;> simp [hi, hj, Nat.add_assoc]

theorem AtE.ext {w w' : World} {p : Addr} {es : List Value} (h : AtE w p es) (e : Ex w w') : AtE w' p es := fun j u hu => Ex.cell e (h j u hu)

/-- an element of a slice that is read -/
theorem rd_elem {α : Type} [Gd α] [Tid α] {w : World} {v : Value} {l : List α} {i n : Nat} {x : α} (hn : Gd.n α = n) (h : Gd.rd w [v] l) (hi : l[i]? = some x) :
    ∃ es, AtE w (elemA v (i * n)) es ∧ Gd.rd w es x := by
  subst hn
  obtain ⟨a, cap, e, hm, hx⟩ := h
  obtain ⟨ad, es, ha, hc, hr⟩ := hx i x hi
  simp only [List.cons.injEq, and_true] at e
  subst e; subst ha
  exact ⟨es, fun j u hu => by simp only [elemA]; rw [add_add]; exact hc j u hu, hr⟩

def IsSl (v : Value) (n : Nat) : Prop := ∃ a c, v = .slice a n c

theorem rd_sl {α : Type} [Gd α] [Tid α] {w : World} {v : Value} {l : List α} (h : Gd.rd w [v] l) : IsSl v l.length := by
  obtain ⟨a, cap, e, _⟩ := h
  simp only [List.cons.injEq, and_true] at e
  exact ⟨a, cap, e⟩

theorem rd_max {α : Type} [Gd α] [Tid α] {w : World} {v : Value} {l : List α} (h : Gd.rd w [v] l) : l.length ≤ 9223372036854775807 := by
  obtain ⟨a, cap, e, hm, _⟩ := h
  simpa [maxLen] using hm

theorem rd_nonnil {α : Type} [Gd α] [Tid α] {w : World} {v : Value} {l : List α} (h : Gd.rd w [v] l) (hp : 0 < l.length) : ∃ a c, v = .slice (some a) l.length c := by
  obtain ⟨a, cap, e, hm, hx⟩ := h
  obtain ⟨x, hx0⟩ := some_of_lt hp
  obtain ⟨ad, es, ha, _⟩ := hx 0 x hx0
  simp only [List.cons.injEq, and_true] at e
  subst ha
  exact ⟨ad, cap, e⟩

theorem eq_of_bne_f {x y : Int} (h : (x != y) = false) : x = y := by simpa using h
theorem ne_of_beq_false {x y : Int} (h : (x == y) = false) : x ≠ y := by simpa using h

/-- no cell holds more than a cell -/
theorem rd_nil {α : Type} [Gd α] [Tid α] {w : World} : Gd.rd w [.slice none 0 0] ([] : List α) := ⟨none, 0, rfl, by simp [maxLen], fun i x h => by simp at h⟩

section
variable {P : Program} {N : Nat} {w0 : World} {H : List Chunk} {L : Fm} {ops : Array Oper} {Q : Exit → Act → World → Prop} {o : Oper} {rest : List Oper} {d : Nat} {K : Act → World → Prop}

/-! ### integers -/
theorem D_add {t t' : TypeId} {x y : Operand} {m n r : Int}  (ho : o.op = .binOp .add t x y t') (hx : ev L x = some (.int .i64 m)) (hy : ev L y = some (.int .i64 n))
      (he : m + n = r) (hr : -9223372036854775808 ≤ r ∧ r ≤ 9223372036854775807)
     : RunV P N w0 H L o (.int .i64 r) := by
  intro a w hf _
  unfold execOp
  rw [ho]
  simp only [hf.ev hx, hf.ev hy]
  subst he
  simp [eqGuard, binOp, Op.intArith, IntWalk.i64_in _ hr]

theorem D_sub {t t' : TypeId} {x y : Operand} {m n r : Int}  (ho : o.op = .binOp .sub t x y t') (hx : ev L x = some (.int .i64 m)) (hy : ev L y = some (.int .i64 n))
      (he : m - n = r) (hr : -9223372036854775808 ≤ r ∧ r ≤ 9223372036854775807)
     : RunV P N w0 H L o (.int .i64 r) := by
  intro a w hf _
  unfold execOp
  rw [ho]
  simp only [hf.ev hx, hf.ev hy]
  subst he
  simp [eqGuard, binOp, Op.intArith, IntWalk.i64_in _ hr]

/-- == and != of bools -/
theorem eql_bool {t : TypeId} (ht : P.underlying t = some .bool) (w : World) (x y : Bool) : (Op.equal t (.bool x) (.bool y)).run P w = .ok (x == y) w := by
  have h : ∀ d : Nat, (Op.equalIn (d + 1) t (.bool x) (.bool y)).run P w = .ok (x == y) w := fun d => by
    simp [Op.equalIn, run_underlying ht]
  simp only [Op.equal, Op.maxDepth]
  exact h 9999

theorem D_eqB {t t' : TypeId} {x y : Operand} {m n : Bool} (ht : P.underlying t = some .bool)  (ho : o.op = .binOp .eql t x y t') (hx : ev L x = some (.bool m)) (hy : ev L y = some (.bool n))
     
     : RunV P N w0 H L o (.bool (m == n)) := by
  intro a w hf _
  unfold execOp
  rw [ho]
  simp only [hf.ev hx, hf.ev hy]
  simp [eqGuard, binOp, eql_bool ht]

theorem D_neB {t t' : TypeId} {x y : Operand} {m n : Bool} (ht : P.underlying t = some .bool)  (ho : o.op = .binOp .neq t x y t') (hx : ev L x = some (.bool m)) (hy : ev L y = some (.bool n))
     
     : RunV P N w0 H L o (.bool (!(m == n))) := by
  intro a w hf _
  unfold execOp
  rw [ho]
  simp only [hf.ev hx, hf.ev hy]
  simp [eqGuard, binOp, eql_bool ht]

/-! ### len -/
theorem D_len {t : TypeId} {x : Operand} {v : Value} {n : Nat} {e3 : Nat × Nat × Nat} (ht : sliceTy P t = some e3)  (ho : o.op = .call ⟨.builtin .len, #[x], #[t]⟩) (hx : ev L x = some v)
      (hv : IsSl v n)
     : RunV P N w0 H L o (.int .i64 (n : Int)) := by
  intro a w hf _
  obtain ⟨ad, c, rfl⟩ := hv
  unfold sliceTy at ht
  split at ht
  · rename_i e he
    unfold execOp
    rw [ho]
    simp [resolve, invoke, builtin, Builtin.len_, hf.ev hx, run_underlying he, goInt]
  · cases ht

/-! ### boxes: variables whose address the code takes -/
def bx (g : Nat) (cs : List Value) : Chunk where
  ok w fp := fp = [g] ∧ ∃ t, w.heap[g]? = some (.cells cs.toArray t (0, 0))
  loc := fun w w' fp h hs => by
    obtain ⟨h1, t, h2⟩ := h
    subst h1
    exact ⟨rfl, t, by rw [hs g (by simp)]; exact h2⟩

theorem bx_new {w w' : World} {cs : List Value} {t : TypeId} (h : St w0 H w) (e : w' = w.alloc (.cells cs.toArray t)) : St w0 (bx w.heap.size cs :: H) w' := by
  subst e
  refine h.push (fp := [w.heap.size]) (Ex.alloc w _) ⟨rfl, t, ?_⟩ (by simp) ?_
  · exact heap_alloc_new w _
  · intro g hg
    simp only [List.mem_singleton] at hg
    subst hg
    simp

theorem D_box {t : TypeId} {x : Operand} {v : Value} {cs : List Value}  (ho : o.op = .box t x) (hx : ev L x = some v) (hd : o.dst = some d) (hN : Nat.blt d N = true)
    (hc : v.cells = cs.toArray) (k : ∀ g, D N w0 (bx g cs :: H) ((d, .pointer (some ⟨g, 0, none⟩)) :: L) K) : D N w0 H L (fun a w => o.wp P a w K Q) := by
  refine D_gen hd hN (fun a w hf hs => ⟨.pointer (some ⟨w.heap.size, 0, none⟩), w.alloc (.cells cs.toArray t), ?_, fun a' hf' => k _ a' _ hf' (bx_new hs rfl)⟩)
  unfold execOp
  rw [ho]
  simp [Instr.box, newVar, newRow, hf.ev hx, hc]

theorem D_alloc {t : TypeId} {v : Value} {cs : List Value} (hz : zeroTy P t = some v)  (ho : o.op = .alloc t) (hd : o.dst = some d) (hN : Nat.blt d N = true)
    (hc : v.cells = cs.toArray) (k : ∀ g, D N w0 (bx g cs :: H) ((d, .pointer (some ⟨g, 0, none⟩)) :: L) K) : D N w0 H L (fun a w => o.wp P a w K Q) := by
  refine D_gen hd hN (fun a w hf hs => ⟨.pointer (some ⟨w.heap.size, 0, none⟩), w.alloc (.cells cs.toArray t), ?_, fun a' hf' => k _ a' _ hf' (bx_new hs rfl)⟩)
  unfold zeroTy at hz
  cases hi : P.info? t with
  | none => rw [hi] at hz; simp at hz
  | some i =>
    rw [hi] at hz
    simp only [Option.bind_some] at hz
    unfold execOp
    rw [ho]
    simp [Instr.alloc, zeroValue, typeInfo, hi, hz, newVar, newRow, hc]

theorem D_fa {t j off : Nat} {x : Operand} {p : Addr} (hf' : fieldOff P t j = some off)  (ho : o.op = .fieldAddr t x j) (hx : ev L x = some (.pointer (some p)))  
     : RunV P N w0 H L o (.pointer (some (p.add off))) := by
  intro a w hf _
  unfold fieldOff at hf'
  split at hf'
  · rename_i fs hu
    split at hf'
    · rename_i f hfj
      split at hf'
      · rename_i i hi
        split at hf'
        · cases hf'
        · rename_i hne
          simp only [Option.some.injEq] at hf'
          subst hf'
          unfold execOp
          rw [ho]
          simp [Instr.fieldAt, run_underlying hu, hfj, Instr.sureAddr, hf.ev hx, fieldPlace, sizeOf, typeInfo, hi, hne]
      · cases hf'
    · cases hf'
  · cases hf'

/-- a field of a box -/
theorem D_fb {t j off g i q : Nat} {x : Operand} (hf' : fieldOff P t j = some off)  (ho : o.op = .fieldAddr t x j) (hx : ev L x = some (.pointer (some ⟨g, i, none⟩)))  
    (hq : i + off = q)  : RunV P N w0 H L o (.pointer (some ⟨g, q, none⟩)) := by
  have h := D_fa (N := N) (w0 := w0) (H := H) hf' ho hx
  rw [add_none, hq] at h
  exact h

theorem run_load1 {t : TypeId} {p : Addr} {v : Value} {w : World} (ht : oneTy P t = true) (hc : w.cell? p = some v) : (Instr.loadAt t (.pointer (some p))).run P w = .ok v w := by
  unfold oneTy at ht
  split at ht
  · cases ht
  · cases ht
  · cases ht
  · rename_i dsc h1 h2 h3 hd
    have : (isAgg t).run P w = .ok false w := by
      unfold isAgg
      rw [Sem.run_bind, run_underlying hd]
      simp only [Result.andThen_ok]
      cases dsc <;> first | rfl | (exfalso; exact h1 _ hd) | (exfalso; exact h2 _ _ hd)
    simp [Instr.loadAt, Instr.sureAddr, loadVar, this, hc]

theorem D_ld1 {t : TypeId} {x : Operand} {p : Addr} {v : Value} (ht : oneTy P t = true)  (ho : o.op = .load t x) (hx : ev L x = some (.pointer (some p)))  
    (hc : ∀ w, St w0 H w → w.cell? p = some v)  : RunV P N w0 H L o v := by
  intro a w hf hs
  unfold execOp
  rw [ho]
  simp [hf.ev hx, run_load1 ht (hc w hs)]

theorem bx_cell {g i k : Nat} {cs : List Value} {v : Value} (hk : H[k]? = some (bx g cs)) (hv : cs[i]? = some v) (w : World) (hs : St w0 H w) : w.cell? ⟨g, i, none⟩ = some v := by
  obtain ⟨fp, ⟨_, t, hh⟩, _⟩ := hs.at hk
  rw [cell_of_heap hh]
  simpa using hv

/-- one cell of a box -/
theorem lb {t : TypeId} {x : Operand} {g i : Nat} {cs : List Value} {v : Value} (k : Nat) (ht : oneTy P t = true)  (ho : o.op = .load t x) (hx : ev L x = some (.pointer (some ⟨g, i, none⟩)))  
    (hk : H[k]? = some (bx g cs)) (hv : cs[i]? = some v)  : RunV P N w0 H L o v :=
  D_ld1 ht ho hx (fun w hs => bx_cell hk hv w hs)

theorem run_loadA {t : TypeId} {p : Addr} {es : List Value} {w : World} (ht : aggTy P t = some es.length) (hc : AtE w p es) : (Instr.loadAt t (.pointer (some p))).run P w = .ok (.agg es.toArray) w := by
  unfold aggTy at ht
  split at ht
  · rename_i fs hu
    simp only [Option.map_eq_some_iff] at ht
    obtain ⟨i, hi, hsz⟩ := ht
    have hl := run_loadCells_list (P := P) w p es hc
    simp [Instr.loadAt, Instr.sureAddr, loadVar, isAgg, run_underlying hu, sizeOf, typeInfo, hi, hsz, hl]
  · cases ht

theorem D_ldA {t : TypeId} {x : Operand} {p : Addr} {es : List Value} (ht : aggTy P t = some es.length)  (ho : o.op = .load t x) (hx : ev L x = some (.pointer (some p)))  
    (hc : ∀ w, St w0 H w → AtE w p es)  : RunV P N w0 H L o (.agg es.toArray) := by
  intro a w hf hs
  unfold execOp
  rw [ho]
  simp [hf.ev hx, run_loadA ht (hc w hs)]

/-- a struct out of a box -/
theorem lba {t : TypeId} {x : Operand} {g i : Nat} {cs es : List Value} (k : Nat) (ht : aggTy P t = some es.length)  (ho : o.op = .load t x) (hx : ev L x = some (.pointer (some ⟨g, i, none⟩)))  
    (hk : H[k]? = some (bx g cs)) (hv : (cs.drop i).take es.length = es)  : RunV P N w0 H L o (.agg es.toArray) := by
  refine D_ldA ht ho hx (fun w hs j u hu => ?_)
  rw [add_none]
  refine bx_cell hk ?_ w hs
  rw [← hv, List.getElem?_take] at hu
  split at hu
  · rw [List.getElem?_drop] at hu; exact hu
  · cases hu

/-- the whole struct out of a box -/
theorem lbw {t : TypeId} {x : Operand} {g : Nat} {cs : List Value} (k : Nat) (ht : aggTy P t = some cs.length)  (ho : o.op = .load t x) (hx : ev L x = some (.pointer (some ⟨g, 0, none⟩)))  
    (hk : H[k]? = some (bx g cs))  : RunV P N w0 H L o (.agg cs.toArray) :=
  lba k ht ho hx hk (by simp)

theorem storeCells_bx {g i : Nat} {cur vs : List Value} {t : TypeId} {w : World} (hh : w.heap[g]? = some (.cells cur.toArray t (0, 0))) (hl : i + vs.length ≤ cur.length) (h1 : ∀ v ∈ vs, v.oneCell' = true) :
    ∃ w', (storeCells ⟨g, i, none⟩ vs).run P w = .ok () w' ∧ w'.heap[g]? = some (.cells (cur.take i ++ vs ++ cur.drop (i + vs.length)).toArray t (0, 0)) ∧ Kb [g] w w' ∧ w'.heap.size = w.heap.size := by
  have h := run_storeCells_at (P := P) g i t vs 0 cur.toArray w hh (by simpa using hl) h1
  refine ⟨_, by simpa using h, ?_, ?_, ?_⟩
  · simpa using setRow_heap w g cur.toArray (cur.take i ++ vs ++ cur.drop (i + vs.length)).toArray t (0, 0) hh
  · refine ⟨rfl, rfl, rfl, by simp [World.setRow], fun k hk hn => ?_⟩
    simp only [List.mem_singleton] at hn
    simp only [World.setRow, Array.getElem?_modify]
    rw [if_neg (fun e => hn e.symm)]
  · simp [World.setRow]

/-- a store into a box -/
theorem D_stb {t : TypeId} {x y : Operand} {g i : Nat} {cs vs cs' : List Value} {v : Value} (k : Nat) (hz : sizeTy P t = some vs.length)  (ho : o.op = .store t x y) (hx : ev L x = some (.pointer (some ⟨g, i, none⟩))) (hy : ev L y = some v) (hd : o.dst = none)
    (hk : H[k]? = some (bx g cs)) (hv : v.cells = vs.toArray) (h1 : ∀ u ∈ vs, u.oneCell' = true) (hl : i + vs.length ≤ cs.length) (hc : cs.take i ++ vs ++ cs.drop (i + vs.length) = cs')
    (r : D N w0 (H.set k (bx g cs')) L K) : D N w0 H L (fun a w => o.wp P a w K Q) := by
  refine D_gen0 hd (fun a w hf hs => ?_)
  obtain ⟨fp, ⟨e, t', hh⟩, hn, hb, put⟩ := hs.set hk
  subst e
  obtain ⟨w', hr, hh', kb, hsz⟩ := storeCells_bx (P := P) (g := g) (i := i) hh hl h1
  refine ⟨w', ?_, fun a' hf' => r a' w' hf' (put w' (bx g cs') [g] kb ⟨rfl, t', by rw [← hc]; exact hh'⟩ hn (fun q hq => ⟨.inl hq, by have := hb q hq; omega⟩))⟩
  unfold sizeTy at hz
  simp only [Option.map_eq_some_iff] at hz
  obtain ⟨ti, hi, hsz2⟩ := hz
  unfold execOp
  rw [ho]
  simp [Instr.storeAt, Instr.sureAddr, storeVar, hf.ev hx, hf.ev hy, sizeOf, typeInfo, hi, hsz2, hv, hr]

/-! ### borrowed data -/
theorem run_ix {t : TypeId} {e3 : Nat × Nat × Nat} {v : Value} {n : Nat} {z : Int} {a : Addr} {c : Nat} {w : World} (ht : sliceTy P t = some e3) (hv : v = .slice (some a) n c) (h0 : 0 ≤ z) (h1 : z < n) :
    (Instr.indexAt t v (.int .i64 z)).run P w = .ok (.pointer (some (elemA v (z.toNat * e3.2.1)))) w := by
  subst hv
  unfold sliceTy at ht
  split at ht
  · rename_i e he
    simp only [Option.map_eq_some_iff] at ht
    obtain ⟨i, hi, h3⟩ := ht
    subst h3
    simp [Instr.indexAt, asIntOf, run_underlying he, h0, h1, sizeOf, typeInfo, hi, elemA]
  · cases ht

/-- the address of an element of a slice that is read -/
theorem D_ix {α : Type} [Gd α] [Tid α] {t : TypeId} {e n b : Nat} {x i : Operand} {v : Value} {l : List α} {j : Nat} {z : Int} (ht : sliceTy P t = some (e, n, b))  (ho : o.op = .indexAddr t x i) (hx : ev L x = some v) (hi : ev L i = some (.int .i64 z))  
    (hr : ∀ w, St w0 H w → Gd.rd w [v] l) (hj : z = (j : Int)) (hlt : j < l.length)
     : RunV P N w0 H L o (.pointer (some (elemA v (j * n)))) := by
  intro a w hf hs
  obtain ⟨ad, c, hv⟩ := rd_nonnil (hr w hs) (by omega)
  unfold execOp
  rw [ho]
  simp only [hf.ev hx, hf.ev hi]
  rw [Sem.run_bind, run_ix ht hv (by omega) (by omega)]
  subst hj
  simp

/-- a cell of an element that is read -/
theorem lr {t : TypeId} {x : Operand} {p : Addr} {es : List Value} {v : Value} {j : Nat} (ht : oneTy P t = true)  (ho : o.op = .load t x) (hx : ev L x = some (.pointer (some (p.add j))))  
    (ha : AtE w0 p es) (hv : es[j]? = some v)  : RunV P N w0 H L o v :=
  D_ld1 ht ho hx (fun _ hs => Ex.cell hs.bel (ha j v hv))

theorem add_zero (p : Addr) : p.add 0 = p := by simp [Addr.add]

theorem lr0 {t : TypeId} {x : Operand} {p : Addr} {es : List Value} {v : Value} (ht : oneTy P t = true)  (ho : o.op = .load t x) (hx : ev L x = some (.pointer (some p)))  
    (ha : AtE w0 p es) (hv : es[0]? = some v)  : RunV P N w0 H L o v :=
  D_ld1 ht ho hx (fun _ hs => by have := Ex.cell hs.bel (ha 0 v hv); rwa [add_zero] at this)

/-- a struct element that is read -/
theorem lra {t : TypeId} {x : Operand} {p : Addr} {es : List Value} (ht : aggTy P t = some es.length)  (ho : o.op = .load t x) (hx : ev L x = some (.pointer (some p)))  
    (ha : AtE w0 p es)  : RunV P N w0 H L o (.agg es.toArray) :=
  D_ldA ht ho hx (fun _ hs => ha.ext hs.bel)

/-! ### calls -/
theorem D_call {σ : Type} {f : Nat} {as : List Operand} {vs : List Value} {tys : Array TypeId} {val : σ → Value} {H' : σ → List Chunk} {J : σ → Prop} (hb : hasBody P f = true) 
    (ho : o.op = .call ⟨.value (.func f), as.toArray, tys⟩) (ha : evs L as = some vs) (hd : o.dst = some d) (hN : Nat.blt d N = true)
    (hc : ∀ w, St w0 H w → Calls P f vs.toArray w fun e w' => ∃ s, e = .returned (val s) ∧ J s ∧ St w0 (H' s) w')
    (k : ∀ s, J s → D N w0 (H' s) ((d, val s) :: L) K) : D N w0 H L (fun a w => o.wp P a w K Q) := by
  intro a w hf hs
  show o.wp P a w K Q
  unfold hasBody at hb
  split at hb
  · rename_i fn hfn
    simp only [Bool.and_eq_true, Bool.not_eq_true'] at hb
    have hrun : (execOp a.eval o).run P w = .ok (.enter f vs.toArray) w := by
      unfold execOp
      rw [ho]
      have hbody : fn.body.isNone = false := by rw [← Option.not_isSome, hb.2]; rfl
      have he : (as.toArray.map a.eval) = vs.toArray := by rw [List.map_toArray, hf.evs ha]
      have hf0 : a.eval (.func f) = .func (.func f) #[] #[] := rfl
      simp only [resolve, hf0, Deferred.ofValue, he, Sem.run_bind, Sem.run_pure, Result.andThen_ok, invoke, callFunc, program]
      have hnm : ¬ fn.name = "runtime.NumGoroutine" := by simpa using hb.1
      have hbn : ¬ fn.body = none := by intro e; rw [e] at hbody; cases hbody
      simp [Sem.run, hfn, hnm, hbn]
    unfold Oper.wp
    rw [hrun, Oper.upon_enter]
    refine (hc w hs).mono fun e w' he => ?_
    obtain ⟨s, rfl, hj, hst⟩ := he
    simp only
    rw [hd]
    exact k s hj _ _ (hf.put hN _) hst
  · cases hb

/-- a call whose result is a plain value -/
theorem cv {f : Nat} {as : List Operand} {vs : List Value} {tys : Array TypeId} {v : Value} (hb : hasBody P f = true) 
    (ho : o.op = .call ⟨.value (.func f), as.toArray, tys⟩) (ha : evs L as = some vs) (hd : o.dst = some d) (hN : Nat.blt d N = true)
    (hc : ∀ w, St w0 H w → Calls P f vs.toArray w (Val w v))
    (k : D N w0 H ((d, v) :: L) K) : D N w0 H L (fun a w => o.wp P a w K Q) :=
  D_call (σ := Unit) (val := fun _ => v) (H' := fun _ => H) (J := fun _ => True) hb ho ha hd hN
    (fun w hs => (hc w hs).mono fun _ _ ⟨he, hx⟩ => ⟨(), he, trivial, hs.ext hx⟩) (fun _ _ => k)

/-- a call whose result lies in new memory -/
theorem cr {α : Type} [Gd α] {f : Nat} {as : List Operand} {vs : List Value} {tys : Array TypeId} {x : α} (hb : hasBody P f = true) 
    (ho : o.op = .call ⟨.value (.func f), as.toArray, tys⟩) (ha : evs L as = some vs) (hd : o.dst = some d) (hN : Nat.blt d N = true)
    (hc : ∀ w, St w0 H w → Calls P f vs.toArray w (Res w x))
    (k : ∀ cs, D N w0 (ov cs x :: H) ((d, Gd.vl α cs) :: L) K) : D N w0 H L (fun a w => o.wp P a w K Q) :=
  D_call (σ := List Value) (val := fun cs => Gd.vl α cs) (H' := fun cs => ov cs x :: H) (J := fun _ => True) hb ho ha hd hN
    (fun w hs => (hc w hs).mono fun _ _ ⟨cs, fp, he, how, hn, hb, hx⟩ => ⟨cs, he, trivial, hs.push hx (c := ov cs x) how hn (fun g hg => ⟨hb g hg, Gd.ow_lt how g hg⟩)⟩) (fun cs _ => k cs)

/-! ### code -/
theorem C_seq {x y : Code} (h : D N w0 H L (x.wp P (Exit.then (y.wp P Q) Q))) : D N w0 H L ((Code.seq x y).wp P Q) := fun a w hf hs => wp_seq (h a w hf hs)
theorem C_reg {id : Nat} {l : List Oper} (h : D N w0 H L (wpList P l.toArray Q l)) : D N w0 H L ((Code.region id l.toArray false).wp P Q) := fun a w hf hs => wp_region_lit (h a w hf hs)
theorem C_block {id : Nat} {c : Code} (h : D N w0 H L (c.wp P (Exit.inBlock id Q))) : D N w0 H L ((Code.block id c).wp P Q) := fun a w hf hs => wp_block (h a w hf hs)
theorem C_skip (h : D N w0 H L (Q .normal)) : D N w0 H L (Code.skip.wp P Q) := fun a w hf hs => wp_skip (h a w hf hs)
theorem C_ret (h : D N w0 H L (Q .ret)) : D N w0 H L (Code.ret.wp P Q) := fun a w hf hs => wp_ret (h a w hf hs)
theorem C_exit {id : Nat} (h : D N w0 H L (Q (.exit id))) : D N w0 H L ((Code.exit id).wp P Q) := fun a w hf hs => wp_exit (h a w hf hs)
theorem C_if {c : Operand} {x y : Code} (b : Bool) (hc : ev L c = some (.bool b)) (ht : b = true → D N w0 H L (x.wp P Q)) (hf' : b = false → D N w0 H L (y.wp P Q)) : D N w0 H L ((Code.cond c x y).wp P Q) :=
  fun a w hf hs => wp_cond_split (hf.ev hc) (fun h => ht h a w hf hs) (fun h => hf' h a w hf hs)
theorem C_t {c : Operand} {x y : Code} (hc : ev L c = some (.bool true)) (h : D N w0 H L (x.wp P Q)) : D N w0 H L ((Code.cond c x y).wp P Q) := fun a w hf hs => wp_cond_true (hf.ev hc) (h a w hf hs)
theorem C_f {c : Operand} {x y : Code} (hc : ev L c = some (.bool false)) (h : D N w0 H L (y.wp P Q)) : D N w0 H L ((Code.cond c x y).wp P Q) := fun a w hf hs => wp_cond_false (hf.ev hc) (h a w hf hs)

/-! exits through what stands around -/
theorem x_then {K : Act → World → Prop} (h : D N w0 H L K) : D N w0 H L (Exit.then K Q .normal) := h
theorem x_then_ret {K : Act → World → Prop} (h : D N w0 H L (Q .ret)) : D N w0 H L (Exit.then K Q .ret) := h
theorem x_then_exit {K : Act → World → Prop} {i : Nat} (h : D N w0 H L (Q (.exit i))) : D N w0 H L (Exit.then K Q (.exit i)) := h
theorem x_blk {i : Nat} (h : D N w0 H L (Q .normal)) : D N w0 H L (Exit.inBlock i Q .normal) := h
theorem x_blk_ret {i : Nat} (h : D N w0 H L (Q .ret)) : D N w0 H L (Exit.inBlock i Q .ret) := h
theorem x_blk_eq {i : Nat} (h : D N w0 H L (Q .normal)) : D N w0 H L (Exit.inBlock i Q (.exit i)) := fun a w hf hs => by
  simp only [Exit.inBlock, if_true]; exact h a w hf hs
theorem x_blk_ne {i j : Nat} (hij : Nat.beq j i = false) (h : D N w0 H L (Q (.exit j))) : D N w0 H L (Exit.inBlock i Q (.exit j)) := fun a w hf hs => by
  have : ¬ j = i := Nat.ne_of_beq_eq_false hij
  simp only [Exit.inBlock, if_neg this]; exact h a w hf hs

/-- a function's end -/
theorem R_1 {fn : Func} {R : Ending → World → Prop} {t : Tmp} {v : Value} (hr : fn.results = #[.tmp t]) (hv : look L t = some v) (h : ∀ w, St w0 H w → R (.returned v) w) : D N w0 H L (bodyPost P fn R .ret) :=
  fun a w hf hs => by
    refine bodyPost_ret (results_tmp hr _ _ _) hf.dfr ?_
    rw [hf.at_ t v hv]; exact h w hs
theorem R_2 {fn : Func} {R : Ending → World → Prop} {t u : Tmp} {v v' : Value} (hr : fn.results = #[.tmp t, .tmp u]) (hv : look L t = some v) (hv' : look L u = some v') (h : ∀ w, St w0 H w → R (.returned (.tuple #[v, v'])) w) : D N w0 H L (bodyPost P fn R .ret) :=
  fun a w hf hs => by
    refine bodyPost_ret (results_tmp2 hr _ _ _) hf.dfr ?_
    rw [hf.at_ t v hv, hf.at_ u v' hv']; exact h w hs
end

/-- entering a function -/
def args0 : Nat → List Value → Fm
  | _, [] => []
  | i, v :: vs => (i, v) :: args0 (i + 1) vs

theorem look_args0 : ∀ (vs : List Value) (i j : Nat) (v : Value), look (args0 i vs) j = some v → i ≤ j ∧ vs[j - i]? = some v
  | [], i, j, v, h => by simp [args0, look] at h
  | u :: vs, i, j, v, h => by
    simp only [args0, look] at h
    cases hb : Nat.beq i j with
    | true =>
      have e : i = j := Nat.eq_of_beq_eq_true hb
      subst e
      rw [hb] at h
      simpa using h
    | false =>
      have e : i ≠ j := Nat.ne_of_beq_eq_false hb
      rw [hb] at h
      obtain ⟨h1, h2⟩ := look_args0 vs (i + 1) j v h
      refine ⟨by omega, ?_⟩
      have : j - i = (j - (i + 1)) + 1 := by omega
      rw [this]
      simpa using h2

theorem enter {P : Program} {f : Nat} {fn : Func} {c : Code} {vs : List Value} {w : World} {R : Ending → World → Prop} (N : Nat) (hf : P.funcs[f]? = some fn) (hb : fn.body = some c) (hN : fn.ntmps = N) (hl : Nat.ble vs.length N = true)
    (h : D N w [] (args0 0 vs) (c.wp P (bodyPost P fn R))) : Calls P f vs.toArray w R := by
  refine calls_of_wp hf hb (h _ _ ?_ (St.start w))
  have hl' := Nat.le_of_ble_eq_true hl
  refine ⟨rfl, by simp [hN]; omega, fun i v hv => ?_⟩
  obtain ⟨_, h2⟩ := look_args0 vs 0 i v hv
  simp only [Nat.sub_zero] at h2
  have hlt := lt_of_some h2
  simp only [Array.getD_eq_getD_getElem?]
  rw [Array.getElem?_append_left (by simpa using hlt)]
  simp [h2]

/-- a loop -/
theorem C_loop {P : Program} {N : Nat} {w0 : World} {H : List Chunk} {L : Fm} {c : Code} {Q : Exit → Act → World → Prop} (I : Nat → Act → World → Prop) (h0 : D N w0 H L (fun a w => ∃ m, I m a w))
    (round : ∀ m a w, I m a w → c.wp P (Exit.then (fun a' w' => ∃ m', m' < m ∧ I m' a' w') Q) a w) : D N w0 H L ((Code.loop c).wp P Q) := by
  intro a w hf hs b k cs
  obtain ⟨m, hm⟩ := h0 a w hf hs
  have key : ∀ m a w, I m a w → ∃ e a' w', Q e a' w' ∧ Arrives P (lone (b.at a (.code c :: .inLoop c :: k)) cs w) b k cs e a' w' := by
    intro m
    induction m using Nat.strongRecOn with
    | _ m ih =>
      intro a w hI
      obtain ⟨e, a₁, w₁, hq, harr⟩ := round m a w hI b (.inLoop c :: k) cs
      cases e with
      | normal =>
        obtain ⟨m', hlt, hI₁⟩ := hq
        obtain ⟨e₂, a₂, w₂, hq₂, harr₂⟩ := ih m' hlt a₁ w₁ hI₁
        exact ⟨e₂, a₂, w₂, hq₂, .of_steps (Steps.trans harr (.one step_inLoop)) harr₂⟩
      | exit id => exact ⟨_, a₁, w₁, hq, .pass (x := .inLoop c) rfl (fun _ _ => .inl (by simp)) harr⟩
      | goto l => exact ⟨_, a₁, w₁, hq, .pass (x := .inLoop c) rfl (fun _ _ => .inl (by simp)) harr⟩
      | ret => exact ⟨_, a₁, w₁, hq, .pass (x := .inLoop c) rfl (fun _ _ => .inl (by simp)) harr⟩
      | panic ch => exact ⟨_, a₁, w₁, hq, .pass (x := .inLoop c) rfl (fun _ _ => .inl (by simp)) harr⟩
      | outgrown => exact ⟨_, a₁, w₁, hq, .pass (x := .inLoop c) rfl (fun _ _ => .inl (by simp)) harr⟩
  obtain ⟨e, a', w', hq, harr⟩ := key m a w hm
  exact ⟨e, a', w', hq, .of_steps (.one step_loop) harr⟩

end Go.Sy
