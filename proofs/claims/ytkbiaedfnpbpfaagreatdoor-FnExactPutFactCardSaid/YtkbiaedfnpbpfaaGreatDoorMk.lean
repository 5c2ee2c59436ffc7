/-
  Marks in engines.
  Conditions: those that each theorem states.
-/
import Derived.Test.YtkbiaedfnpbpfaaGreatDoorRul2
namespace Go.Sy
open Go
/-! ### the text of a mark -/
def dgsN (n : Nat) (s : ByteArray) : ByteArray := if h : n = 0 then s else dgsN (n / 10) ((⟨#[UInt8.ofNat (48 + n % 10)]⟩ : ByteArray) ++ s)
termination_by n
decreasing_by omega
def markS (k : Int) : ByteArray := if k ≤ 0 then ⟨#[109, 48]⟩ else (⟨#[109]⟩ : ByteArray) ++ dgsN k.toNat ⟨#[]⟩
def dg (k nn : Int) (s : ByteArray) : Prop := 0 ≤ nn ∧ nn ≤ k ∧ dgsN nn.toNat s = dgsN k.toNat ⟨#[]⟩ ∧ (s.size : Int) + nn ≤ k
theorem mtmod10 {n : Int} (h : 0 ≤ n) : Int.tmod n 10 = ((n.toNat % 10 : Nat) : Int) := by
  rw [Int.tmod_eq_emod_of_nonneg h]
  omega
theorem dg_zero {k : Int} (h : 0 ≤ k) : dg k k ⟨#[]⟩ := ⟨h, Int.le_refl _, rfl, by
  have : (⟨#[]⟩ : ByteArray).size = 0 := rfl
  omega⟩
theorem dg_step {k nn : Int} {s : ByteArray} (h : dg k nn s) (hz : 0 < nn) : dg k (nn / 10) ((⟨#[UInt8.ofNat (48 + Int.tmod nn 10).toNat]⟩ : ByteArray) ++ s) := by
  obtain ⟨h0, h1, h2, h3⟩ := h
  refine ⟨by omega, by omega, ?_, ?_⟩
  · rw [← h2]
    have e2 : (nn / 10).toNat = nn.toNat / 10 := by omega
    have e3 : (48 + Int.tmod nn 10).toNat = 48 + nn.toNat % 10 := by rw [mtmod10 h0]; omega
    rw [e2, e3]
    conv => rhs; rw [dgsN, dif_neg (by omega)]
  · rw [ByteArray.size_append]
    have : (⟨#[UInt8.ofNat (48 + Int.tmod nn 10).toNat]⟩ : ByteArray).size = 1 := rfl
    omega
theorem dg_done {k nn : Int} {s : ByteArray} (h : dg k nn s) (hz : ¬ 0 < nn) (hk : ¬ k ≤ 0) : (⟨#[109]⟩ : ByteArray) ++ s = markS k := by
  obtain ⟨h0, h1, h2, h3⟩ := h
  have e : nn.toNat = 0 := by omega
  rw [e, dgsN, dif_pos rfl] at h2
  unfold markS
  rw [if_neg hk, h2]
theorem mark_low {k : Int} (h : k ≤ 0) : (⟨#[109, 48]⟩ : ByteArray) = markS k := by unfold markS; rw [if_pos h]
/-! ### marks along a list -/
section
variable {α : Type} {f : Int → α → α} {c : α → Nat}
theorem mk_set {a : List α} {k kk : Int} {i : Nat} {x r : α} (h : i ≤ a.length) (hx : (mapAt f c k a i)[i]? = some x) (hk : kk = k + sumC c (a.take i)) (hr : r = f kk x) : (mapAt f c k a i).set i r = mapAt f c k a (i + 1) := by
  rw [hr, hk]
  exact mapAt_set h hx
theorem mk_stepH {a : List α} {k kk : Int} {i : Nat} {x : α} (hx : a[i]? = some x) (hk : kk = k + sumC c (a.take i)) : kk + c x = k + sumC c (a.take (i + 1)) ∧ sumC c (a.take (i + 1)) ≤ sumC c a := by
  refine ⟨?_, sumC_take_le a c (i + 1)⟩
  rw [sumC_take hx, hk]
  omega
theorem mk_step {a : List α} {k kk : Int} {i : Nat} {x : α} (h : i ≤ a.length) (hx : (mapAt f c k a i)[i]? = some x) (hk : kk = k + sumC c (a.take i)) : kk + c x = k + sumC c (a.take (i + 1)) ∧ sumC c (a.take (i + 1)) ≤ sumC c a := by
  rw [mapAt_get h] at hx
  exact mk_stepH hx hk
end
def fS (k : Int) (_ : ByteArray) : ByteArray := markS k
def cS (_ : ByteArray) : Nat := 1
abbrev mkSs (k : Int) (l : List ByteArray) : List ByteArray := mapS fS cS k l
theorem sumS (l : List ByteArray) : sumC cS l = l.length := by
  induction l with
  | nil => rfl
  | cons x l ih => simp only [sumC, List.map_cons, List.sum_cons, cS, List.length_cons] at ih ⊢; omega
theorem mkS_set {a : List ByteArray} {k kk : Int} {i : Nat} (h : i < a.length) (hk : kk = k + i) : (mapAt fS cS k a i).set i (markS kk) = mapAt fS cS k a (i + 1) := by
  have hx : a[i]? = some a[i] := by simp [h]
  rw [← mapAt_set (f := fS) (c := cS) (k := k) (Nat.le_of_lt h) (by rw [mapAt_get (Nat.le_of_lt h)]; exact hx)]
  simp only [fS, sumS, List.length_take, Nat.min_eq_left (Nat.le_of_lt h), hk]
theorem mkS_fix {a : List ByteArray} {k : Int} {x : ByteArray} {i : Nat} (h : a = mkSs k a) (hx : a[i]? = some x) : x = markS (k + i) := by
  have := mapS_fix h hx
  simp only [fS, sumS, List.length_take, Nat.min_eq_left (Nat.le_of_lt (List.getElem?_eq_some_iff.1 hx).1)] at this
  exact this
theorem mkS_idem (k : Int) (l : List ByteArray) : mkSs k (mkSs k l) = mkSs k l := mapS_idem (f := fS) (c := cS) (fun _ _ => rfl) (fun _ _ => rfl) l k
theorem mkI_idem2 (k : Int) (l : List Int) : mkI k (mkI k l) = mkI k l := (mkI_idem k l).symm
def fCo (k : Int) (x : Cond) : Cond := ⟨k, ⟨markS (k + 1), mkSs (k + 1 + 1) x.Pattern.Args⟩, markS (k + 1 + 1 + x.Pattern.Args.length), markS (k + 1 + 1 + x.Pattern.Args.length + 1)⟩
def cCo (x : Cond) : Nat := 4 + x.Pattern.Args.length
def fAc (k : Int) (x : Action) : Action := ⟨k, ⟨markS (k + 1), mkSs (k + 1 + 1) x.Pattern.Args⟩⟩
def cAc (x : Action) : Nat := 2 + x.Pattern.Args.length
theorem cCo_f (k : Int) (x : Cond) : cCo (fCo k x) = cCo x := by simp [cCo, fCo, mapS_len]
theorem cAc_f (k : Int) (x : Action) : cAc (fAc k x) = cAc x := by simp [cAc, fAc, mapS_len]
theorem fCo_f (k : Int) (x : Cond) : fCo k (fCo k x) = fCo k x := by simp only [fCo, mapS_len, mkS_idem]
theorem fAc_f (k : Int) (x : Action) : fAc k (fAc k x) = fAc k x := by simp only [fAc, mkS_idem]
abbrev mkCs (k : Int) (l : List Cond) : List Cond := mapS fCo cCo k l
abbrev mkAs (k : Int) (l : List Action) : List Action := mapS fAc cAc k l
def fRu (k : Int) (r : Rule) : Rule := ⟨markS k, k + 1, mkCs (k + 1 + 1) r.If, mkAs (k + 1 + 1 + sumC cCo r.If) r.Then⟩
def cRu (r : Rule) : Nat := 2 + sumC cCo r.If + sumC cAc r.Then
theorem cRu_f (k : Int) (r : Rule) : cRu (fRu k r) = cRu r := by simp only [cRu, fRu, sumC_mapS cCo_f, sumC_mapS cAc_f]
theorem fRu_f (k : Int) (r : Rule) : fRu k (fRu k r) = fRu k r := by simp only [fRu, sumC_mapS cCo_f, mapS_idem fCo_f cCo_f, mapS_idem fAc_f cAc_f]
abbrev mkRu (k : Int) (l : List Rule) : List Rule := mapS fRu cRu k l
def fSt (k : Int) (s : Stamp) : Stamp := ⟨⟨markS k, mkSs (k + 1) s.Fact.Args⟩, k + 1 + s.Fact.Args.length⟩
def cSt (s : Stamp) : Nat := 2 + s.Fact.Args.length
theorem cSt_f (k : Int) (x : Stamp) : cSt (fSt k x) = cSt x := by simp [cSt, fSt, mapS_len]
theorem fSt_f (k : Int) (x : Stamp) : fSt k (fSt k x) = fSt k x := by simp only [fSt, mapS_len, mkS_idem]
abbrev mkSt (k : Int) (l : List Stamp) : List Stamp := mapS fSt cSt k l
def fFi (k : Int) (x : Firing) : Firing := ⟨markS k, mkI (k + 1) x.Times⟩
def cFi (x : Firing) : Nat := 1 + x.Times.length
theorem cFi_f (k : Int) (x : Firing) : cFi (fFi k x) = cFi x := by simp [cFi, fFi, mapS_len]
theorem fFi_f (k : Int) (x : Firing) : fFi k (fFi k x) = fFi k x := by simp only [fFi, mkI_idem2]
abbrev mkFi (k : Int) (l : List Firing) : List Firing := mapS fFi cFi k l
def fEv (k : Int) (x : Event) : Event := ⟨k, markS (k + 1), ⟨markS (k + 1 + 1), mkSs (k + 1 + 1 + 1) x.Fact.Args⟩⟩
def cEv (x : Event) : Nat := 3 + x.Fact.Args.length
theorem cEv_f (k : Int) (x : Event) : cEv (fEv k x) = cEv x := by simp [cEv, fEv, mapS_len]
theorem fEv_f (k : Int) (x : Event) : fEv k (fEv k x) = fEv k x := by simp only [fEv, mkS_idem]
abbrev mkEv (k : Int) (l : List Event) : List Event := mapS fEv cEv k l
def cEn (e : Engine) : Nat := sumC cRu e.Rules + sumC cSt e.Memory + sumC cFi e.Fired + sumC cEv e.Log
def mkE (k : Int) (e : Engine) : Engine := ⟨mkRu k e.Rules, mkSt (k + sumC cRu e.Rules) e.Memory, e.Clock, mkFi (k + sumC cRu e.Rules + sumC cSt e.Memory) e.Fired, e.Halted, mkEv (k + sumC cRu e.Rules + sumC cSt e.Memory + sumC cFi e.Fired) e.Log⟩
theorem cEn_mk (k : Int) (e : Engine) : cEn (mkE k e) = cEn e := by simp only [cEn, mkE, sumC_mapS cRu_f, sumC_mapS cSt_f, sumC_mapS cFi_f, sumC_mapS cEv_f]
theorem mkE_idem (k : Int) (e : Engine) : mkE k e = mkE k (mkE k e) := by
  simp only [mkE, sumC_mapS cRu_f, sumC_mapS cSt_f, sumC_mapS cFi_f, mapS_idem fRu_f cRu_f, mapS_idem fSt_f cSt_f, mapS_idem fFi_f cFi_f, mapS_idem fEv_f cEv_f]
theorem sum_le {α : Type} {c d : α → Nat} {m : Nat} (h : ∀ x, c x ≤ m + 4 * d x) : ∀ l : List α, sumC c l ≤ m * l.length + 4 * sumC d l
  | [] => by simp [sumC]
  | x :: l => by
    have ih := sum_le h l
    have h1 := h x
    simp only [sumC, List.map_cons, List.sum_cons, List.length_cons, Nat.mul_add] at ih ⊢
    omega
theorem cRu_le (r : Rule) : cRu r ≤ 2 + 4 * szRule r := by
  have h1 := sum_le (c := cCo) (d := szCond) (m := 4) (fun x => by have := szCond_args x; unfold cCo; omega) r.If
  have h2 := sum_le (c := cAc) (d := szAction) (m := 2) (fun x => by have := szAct_args x; unfold cAc; omega) r.Then
  unfold cRu szRule szL
  omega
theorem cRu_sum (l : List Rule) : sumC cRu l ≤ 4 * szL szRule l := by
  have := sum_le cRu_le l
  unfold szL
  omega
end Go.Sy
