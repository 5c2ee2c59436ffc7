/-
  Functions as values; greatest sets.
  Conditions: none.
-/
import Derived.Test.YtfpjllklccfliaaPrem
namespace Go.Sy
open Go Go.RowKit

section
variable {P : Program} {N : Nat} {w0 : World} {H : List Chunk} {L : Fm} {Q : Exit → Act → World → Prop} {o : Oper} {d : Nat} {K : Act → World → Prop}
theorem bx_at {g k : Nat} {cs : List Value} {w : World} (hs : St w0 H w) (hk : H[k]? = some (bx g cs)) : AtE w ⟨g, 0, none⟩ cs := fun j u hu => by
  rw [add_none, Nat.zero_add]
  exact bx_cell hk hu w hs
/-- a function with what it has caught -/
theorem D_mf {f : Nat} {cap : List Operand} {vs : List Value} (ho : o.op = .makeFunc (.func f) #[] cap.toArray) (ha : evs L cap = some vs) : RunV P N w0 H L o (.func (.func f) #[] vs.toArray) := by
  intro a w hf _
  have he : (cap.toArray.map a.eval) = vs.toArray := by rw [List.map_toArray, hf.evs ha]
  unfold execOp
  rw [ho]
  simp [Instr.makeFunc, he]
theorem cvf {f : Nat} {x : Operand} {as : List Operand} {vs cs : List Value} {tys : Array TypeId} {v : Value} (hb : hasBody P f = true)
    (ho : o.op = .call ⟨.value x, as.toArray, tys⟩) (hx : ev L x = some (.func (.func f) #[] cs.toArray)) (ha : evs L as = some vs) (hd : o.dst = some d) (hN : Nat.blt d N = true)
    (hc : ∀ w, St w0 H w → Calls P f (vs ++ cs).toArray w (Val w v))
    (k : D N w0 H ((d, v) :: L) K) : D N w0 H L (fun a w => o.wp P a w K Q) := by
  intro a w hf hs
  show o.wp P a w K Q
  unfold hasBody at hb
  split at hb
  · rename_i fn hfn
    simp only [Bool.and_eq_true, Bool.not_eq_true'] at hb
    have hrun : (execOp a.eval o).run P w = .ok (.enter f (vs ++ cs).toArray) w := by
      unfold execOp
      rw [ho]
      have hbody : fn.body.isNone = false := by rw [← Option.not_isSome, hb.2]; rfl
      have he : (as.toArray.map a.eval) = vs.toArray := by rw [List.map_toArray, hf.evs ha]
      have hf0 : a.eval x = .func (.func f) #[] cs.toArray := hf.ev hx
      simp only [resolve, hf0, Deferred.ofValue, he, Sem.run_bind, Sem.run_pure, Result.andThen_ok, invoke, callFunc, program]
      have hnm : ¬ fn.name = "runtime.NumGoroutine" := by simpa using hb.1
      have hbn : ¬ fn.body = none := by intro e; rw [e] at hbody; cases hbody
      simp [Sem.run, hfn, hnm, hbn]
    unfold Oper.wp
    rw [hrun, Oper.upon_enter]
    refine (hc w hs).mono fun e w' he => ?_
    obtain ⟨rfl, hx⟩ := he
    simp only
    rw [hd]
    exact k _ _ (hf.put hN _) (hs.ext hx)
  · cases hb
end

def isPartB (a b : Int) : Bool := decide (0 ≤ a) && decide (0 ≤ b) && (andZ a b == a)
def fidZ (p : Int → Bool) (k : Nat) : List Int := fidx (fun i => p (i : Int)) k
theorem fidZ_t {p : Int → Bool} {k : Nat} (h : p (k : Int) = true) : fidZ p k ++ [(k : Int)] = fidZ p (k + 1) := fidx_t (p := fun i => p (i : Int)) h
theorem fidZ_f {p : Int → Bool} {k : Nat} (h : p (k : Int) = false) : fidZ p k = fidZ p (k + 1) := fidx_f (p := fun i => p (i : Int)) h
theorem fidZ_len (p : Int → Bool) (k : Nat) : (fidZ p k).length ≤ k := fidx_len _ k
noncomputable def consB (f : Frame) (set : Int) : Bool := f.Bad.all (lO (unds f set))
noncomputable def setN (f : Frame) : Nat := if isFrame f then (shlZ 1 f.Assumed.length).toNat else 0
theorem setN_t {f : Frame} (h : isFrame f = true) : setN f = (shlZ 1 f.Assumed.length).toNat := by unfold setN; rw [if_pos h]
theorem setN_le (f : Frame) : setN f ≤ 256 := by
  unfold setN
  split
  · rename_i h
    have := shl_rng (k := f.Assumed.length) (by have := frame_al h; omega)
    omega
  · omega
theorem setN_iff {f : Frame} {k : Nat} : (isFrame f && isSetB f (k : Int)) = decide (k < setN f) := by
  unfold setN
  cases h : isFrame f with
  | false => simp
  | true =>
    have := shl_rng (k := f.Assumed.length) (by have := frame_al h; omega)
    rw [if_pos rfl, Bool.true_and, Bool.eq_iff_iff]
    simp only [isSetB, Bool.and_eq_true, decide_eq_true_eq]
    omega
noncomputable def allS (f : Frame) : List Int := fidZ (isCons f) (setN f)
theorem allS_eq {f : Frame} (h : isFrame f = true) : fidZ (consB f) (shlZ 1 f.Assumed.length).toNat = allS f := by
  unfold allS
  rw [setN_t h]
  refine fidx_congr fun x hx => ?_
  have h2 : (isFrame f && isSetB f (x : Int)) = true := by rw [setN_iff, decide_eq_true_eq, setN_t h]; exact hx
  show consB f x = isCons f x
  unfold isCons consB
  rw [h2, Bool.true_and]
theorem allS_len (f : Frame) : (allS f).length ≤ 256 := Nat.le_trans (fidZ_len _ _) (setN_le f)
def grOne (s t : Int) : Bool := (t == s) || !(isPartB s t)
def grB (l : List Int) (s : Int) : Bool := l.all (grOne s)
def grT (l : List Int) (s : Int) (m : Nat) : Bool := (l.take m).all (grOne s)
theorem grT_step {l : List Int} {s t : Int} {m : Nat} {v : Bool} (ht : l[m]? = some t) (hv : v = (grT l s m && grOne s t)) : v = grT l s (m + 1) := by
  unfold grT at hv ⊢
  rw [take_snoc ht, List.all_append, hv]
  simp
theorem grT_done {l : List Int} {s : Int} {m : Nat} (h : l.length ≤ m) : grT l s m = grB l s := by
  unfold grT grB
  rw [List.take_of_length_le h]
noncomputable def greatS (f : Frame) : List Int := (allS f).filter (grB (allS f))
theorem greatS_len (f : Frame) : (greatS f).length ≤ 256 := Nat.le_trans (List.length_filter_le _ _) (allS_len f)
theorem greatS_f {f : Frame} (h : isFrame f = false) : [] = greatS f := by
  have : allS f = [] := by unfold allS setN; rw [h]; rfl
  unfold greatS
  rw [this]; rfl
end Go.Sy
