/-
  Contracts of functions of the program, walked (printed by a program of ours).
  Conditions: those that each theorem states.
-/
import Derived.Test.YtobihkjhlopggaaGreatDoorCmp1
import Derived.Test.YtobihkjhlopggaaGreatDoorSorts
set_option linter.unusedVariables false
set_option maxRecDepth 20000
namespace Go.Sy.Srt2
open Go Go.RowKit Go.Proofs Go.Sy
theorem mixed : Tryz.prog.follows .mixedOrders = true := by kernel_rfl
open Go.Sy.Bel1 Go.Sy.Bel3 Go.Sy.Ev1 Go.Sy.Ev2 Go.Sy.Ev3 Go.Sy.Fmt1 Go.Sy.Eng1 Go.Sy.Eng2 Go.Sy.Eng3 Go.Sy.Eng5 Go.Sy.Num1 Go.Sy.Num2 Go.Sy.Cho1 Go.Sy.Fal2 Go.Sy.Cho2 Go.Sy.Pdqs Go.Sy.Fal1 Go.Sy.Cmp1 Go.Sy.Sorts
theorem sls_it : (Tryz.prog.info? 42).map (·.desc) = some (.slice 36) := by kernel_rfl
theorem sls_ie : (Tryz.prog.info? 36).map (fun i => (i.size, i.bytes, i.hasPointers)) = some (7, 112, true) := by kernel_rfl
theorem sls_pk : Tryz.prog.packed 42 = false := by kernel_rfl
theorem sls_cl : hasBody Tryz.prog 58 = true := by kernel_rfl
theorem sls_s1 : Tryz.prog.funcs.findIdx? (·.name == "internal/reflectlite" ++ ".Swapper$" ++ toString 1) = some 162 := by kernel_rfl
theorem sls_s2 : Tryz.prog.funcs.findIdx? (·.name == "internal/reflectlite" ++ ".Swapper$" ++ toString 2) = some 163 := by kernel_rfl
theorem sls_s9 : Tryz.prog.funcs.findIdx? (·.name == "internal/reflectlite" ++ ".Swapper$" ++ toString 9) = some 170 := by kernel_rfl
theorem sls_x9 (args : Array Value) (W : World) : (callFunc 170 args).run Tryz.prog W = ((Extern.ReflectliteSwapper.swap false args).run Tryz.prog W).andThen fun v w' => .ok (.value v) w' :=
 run_callFunc_extern Tryz.func170 (by kernel_rfl) (by kernel_rfl) (by kernel_rfl) (by kernel_rfl) args W
theorem sls_cho {w0 : World} {Hs : List Chunk} {w : World} {d : List Choice} {gb : Nat} {v : Value} (hlen : d.length ≤ 4294967296) (htb : Tb w0) (hti : ∀ x ∈ d, x.Times.length ≤ 12) (hst : St w0 (star (bx gb [v]) (ov [v] d) :: Hs) w) :
  Calls Tryz.prog 57 [.iface 42 v, .func (.func 58) #[] [Value.pointer (some ⟨gb, 0, none⟩)].toArray].toArray w (fun e w' => e = .returned (.tuple #[]) ∧ ∃ e', (e' = sortC d) ∧ St w0 (star (bx gb [v]) (ov [v] e') :: Hs) w') := by
 obtain ⟨i, hi, hdd⟩ : ∃ i, Tryz.prog.info? 42 = some i ∧ i.desc = .slice 36 := by
  have h := sls_it;rw [Option.map_eq_some_iff] at h;exact h
 obtain ⟨ie, hie, hie2⟩ : ∃ i, Tryz.prog.info? 36 = some i ∧ (i.size, i.bytes, i.hasPointers) = (7, 112, true) := by
  have h := sls_ie;rw [Option.map_eq_some_iff] at h;exact h
 simp only [Prod.mk.injEq] at hie2;obtain ⟨he2, he3, he4⟩ := hie2;have hke : ∀ w, (Extern.Rtype.kind 36).run Tryz.prog w = .ok 25 w := fun w => by kernel_rfl
 have hagg : ∀ w, (isAgg 36).run Tryz.prog w = .ok true w := fun w => by kernel_rfl
 obtain ⟨p, c, hv⟩ : ∃ p c, v = .slice p d.length c := rd_sl (α := Choice) (rO (k := 1) hst.split rfl);subst hv
 let f : Nat → Choice := A d
 let C : List Nat → Chunk := fun e => star (bx gb [.slice p d.length c]) (ov [.slice p d.length c] (e.map f))
 let lt : Nat → Nat → Bool := fun x y => ltC (f x) (f y)
 have hord : Ordr lt := ordr_pull ordC f;have h0 : C (List.range d.length) = star (bx gb [.slice p d.length c]) (ov [.slice p d.length c] d) := by show star _ (ov _ ((List.range d.length).map (A d))) = _; rw [range_A]
 have hr : (List.range d.length).length = d.length := List.length_range;have hless : ∀ (Hs : List Chunk) (w : World) (e : List Nat) (i j : Nat), List.Perm e (List.range d.length) → i < (List.range d.length).length → j < (List.range d.length).length → St w0 (C e :: Hs) w →
   Calls Tryz.prog 58 ([Value.int .i64 (i : Int), Value.int .i64 (j : Int)] ++ [Value.pointer (some ⟨gb, 0, none⟩)]).toArray w (fun e' w' => e' = .returned (.bool (lt (A e i) (A e j))) ∧ St w0 (C e :: Hs) w') := fun Hs w e i j hp h1 h2 hs => by
  have hs2 : St w0 (bx gb [.slice p d.length c] :: ov [.slice p d.length c] (e.map f) :: Hs) w := hs.split;have hl := hp.length_eq;have hm : (e.map f).length = d.length := by rw [List.length_map, hl, hr]
  have hmem : ∀ q, q < (e.map f).length → (A (e.map f) q).Times.length ≤ 12 := fun q hq => by
   rw [List.length_map] at hq;rw [A_map hq];have hlt : A e q < d.length := by
    have : A e q ∈ List.range d.length := hp.mem_iff.1 (List.mem_of_getElem? (A_get hq));simpa using this
   exact hti _ (List.mem_of_getElem? (A_get hlt))
  have h := impl_SortChoices_1 w (i : Int) (j : Int) ⟨gb, 0, none⟩ _ (e.map f) (bx_at (k := 0) hs2 rfl) (rO (k := 1) hs2 rfl) (by omega) (by omega) (by omega) (by omega) (htb.ext hs.bel) (by simpa using hmem i (by omega)) (by simpa using hmem j (by omega));have e1 : A (e.map f) i = f (A e i) := A_map (by omega);have e2 : A (e.map f) j = f (A e j) := A_map (by omega);have e3 : ltC (A (e.map f) i) (A (e.map f) j) = ltC (f (A e i)) (f (A e j)) := by rw [e1, e2]
  exact h.mono fun e' w' ⟨he, hx⟩ => ⟨he.trans (congrArg (fun b => Ending.returned (Value.bool b)) e3), hs.ext hx⟩
 have fin : ∀ (sf : Nat) (sc : List Value), Srt Tryz.prog C lt (List.range d.length) 58 [Value.pointer (some ⟨gb, 0, none⟩)] sf sc w0 →
   (∀ w, (Extern.ReflectliteSwapper.swapper "internal/reflectlite" (Extern.ReflectliteValue.valueError "Swapper") #[.iface 42 (.slice p d.length c)]).run Tryz.prog w = .ok (.func (.func sf) #[] sc.toArray) w) →
   Calls Tryz.prog 57 [.iface 42 (.slice p d.length c), .func (.func 58) #[] [Value.pointer (some ⟨gb, 0, none⟩)].toArray].toArray w (fun e w' => e = .returned (.tuple #[]) ∧ ∃ e', (e' = sortC d) ∧ St w0 (star (bx gb [.slice p d.length c]) (ov [.slice p d.length c] e') :: Hs) w') := fun sf sc S hsw =>
  (sort_SliceStable S hord (by omega) Hs w (List.range d.length) (List.Perm.refl _) hi hdd sls_pk hr.symm hsw (by rw [h0]; exact hst)).mono fun e w' ⟨he, e', ⟨h1, h2, h4⟩, h3⟩ => by
   refine ⟨he, sortC d, Y, ?_⟩;have h5 : e'.map f = sortC d := stb_sortG (lt := ltC) hord h1 (by first | exact h2 | (rw [hr] at h2; exact h2)) (h4 id (srd_range d.length));have h6 : C e' = star (bx gb [.slice p d.length c]) (ov [.slice p d.length c] (sortC d)) := by show star _ (ov _ (e'.map f)) = _; rw [h5]
   rw [← h6]; exact h3
 have small : d.length < 2 → ∀ (Hs : List Chunk) (w : World) (e : List Nat) (i j : Nat) (sf : Nat) (sc : List Value), List.Perm e (List.range d.length) → i < (List.range d.length).length → j < (List.range d.length).length → i ≠ j → St w0 (C e :: Hs) w →
   ∃ w', (callFunc sf ([Value.int .i64 (i : Int), Value.int .i64 (j : Int)] ++ sc).toArray).run Tryz.prog w = .ok (.value (.tuple #[])) w' ∧ St w0 (C (swp e i j) :: Hs) w' := fun h Hs w e i j sf sc _ h1 h2 h3 _ => by omega
 by_cases c0 : d.length = 0
 ·have hk : Lib.swapperK d.length ie 25 = 1 := by simp [Lib.swapperK, c0]
  refine fin 162 [] ⟨sls_cl, hless, fun Hs w e i j hp h1 h2 h3 hs => small (by omega) Hs w e i j _ _ hp h1 h2 h3 hs⟩ (fun w => ?_);have h := Lib.run_swapper_slice (P := Tryz.prog) 42 36 i ie hi hdd hie 25 hke p d.length c 162 (by rw [hk]; exact sls_s1) w;rw [hk] at h;simpa using h
 ·by_cases c1 : d.length = 1
  ·have hk : Lib.swapperK d.length ie 25 = 2 := by simp [Lib.swapperK, c1]
   refine fin 163 [] ⟨sls_cl, hless, fun Hs w e i j hp h1 h2 h3 hs => small (by omega) Hs w e i j _ _ hp h1 h2 h3 hs⟩ (fun w => ?_);have h := Lib.run_swapper_slice (P := Tryz.prog) 42 36 i ie hi hdd hie 25 hke p d.length c 163 (by rw [hk]; exact sls_s2) w;rw [hk] at h;simpa using h
  ·have hk : Lib.swapperK d.length ie 25 = 9 := by simp [Lib.swapperK, c0, c1, he3, he4]
   refine fin 170 [.slice p d.length c, typeHandle Tryz.prog 36] ⟨sls_cl, hless, fun Hs w e i j hp h1 h2 h3 hs => ?_⟩ (fun w => ?_)
   ·have hl := hp.length_eq;have h := swap_owN (i := i) (j := j) hie he2 hagg sls_x9 (by rw [List.length_map]; omega) (by rw [List.length_map]; omega) hs;show ∃ w', _ ∧ St w0 (star _ (ov _ ((swp e i j).map f)) :: Hs) w';rw [map_swp (by omega) (by omega)];simpa only [hl, hr] using h
   ·have h := Lib.run_swapper_slice (P := Tryz.prog) 42 36 i ie hi hdd hie 25 hke p d.length c 170 (by rw [hk]; exact sls_s9) w;rw [hk] at h;simpa using h
end Go.Sy.Srt2
