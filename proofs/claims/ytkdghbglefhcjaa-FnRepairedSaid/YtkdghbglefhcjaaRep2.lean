/-
  Contracts of functions of the program, walked (printed by a program of ours).
  Conditions: those that each theorem states.
-/
import Derived.Test.YtkdghbglefhcjaaRep1
set_option linter.unusedVariables false
set_option maxRecDepth 20000
namespace Go.Sy.Rep2
open Go Go.RowKit Go.Proofs Go.Sy
theorem mixed : Try.prog.follows .mixedOrders = true := by kernel_rfl
open Go.Sy.Bel1 Go.Sy.Bel2 Go.Sy.Bel3 Go.Sy.Bel4 Go.Sy.Bel5 Go.Sy.Bel6 Go.Sy.Bel7 Go.Sy.Bel8 Go.Sy.Bel9 Go.Sy.Belb Go.Sy.Beld Go.Sy.Sorts Go.Sy.Rep1
theorem sls_it : (Try.prog.info? 37).map (·.desc) = some (.slice 27) := by kernel_rfl
theorem sls_ie : (Try.prog.info? 27).map (fun i => (i.desc, i.size, i.bytes, i.hasPointers)) = some (.slice 3, 1, 24, true) := by kernel_rfl
theorem sls_pk : Try.prog.packed 37 = false := by kernel_rfl
theorem sls_cl : hasBody Try.prog 34 = true := by kernel_rfl
theorem sls_s1 : Try.prog.funcs.findIdx? (·.name == "internal/reflectlite" ++ ".Swapper$" ++ toString 1) = some 69 := by kernel_rfl
theorem sls_s2 : Try.prog.funcs.findIdx? (·.name == "internal/reflectlite" ++ ".Swapper$" ++ toString 2) = some 70 := by kernel_rfl
theorem sls_s9 : Try.prog.funcs.findIdx? (·.name == "internal/reflectlite" ++ ".Swapper$" ++ toString 9) = some 77 := by kernel_rfl
theorem sls_x9 (args : Array Value) (W : World) : (callFunc 77 args).run Try.prog W = ((Extern.ReflectliteSwapper.swap false args).run Try.prog W).andThen fun v w' => .ok (.value v) w' :=
  run_callFunc_extern Try.func77 (by kernel_rfl) (by kernel_rfl) (by kernel_rfl) (by kernel_rfl) args W
theorem sls_list {w0 : World} {Hs : List Chunk} {w : World} {d : List (List Int)} {gb : Nat} {v : Value} (hlen : d.length ≤ 1048576) (hst : St w0 (star (bx gb [v]) (ov [v] d) :: Hs) w) :
    Calls Try.prog 33 [.iface 37 v, .func (.func 34) #[] [Value.pointer (some ⟨gb, 0, none⟩)].toArray].toArray w (fun e w' => e = .returned (.tuple #[]) ∧ ∃ e', (e' = sortR d) ∧ St w0 (star (bx gb [v]) (ov [v] e') :: Hs) w') := by
  obtain ⟨i, hi, hdd⟩ : ∃ i, Try.prog.info? 37 = some i ∧ i.desc = .slice 27 := by
    have h := sls_it
    rw [Option.map_eq_some_iff] at h
    exact h
  obtain ⟨ie, hie, hie2⟩ : ∃ i, Try.prog.info? 27 = some i ∧ (i.desc, i.size, i.bytes, i.hasPointers) = (.slice 3, 1, 24, true) := by
    have h := sls_ie
    rw [Option.map_eq_some_iff] at h
    exact h
  simp only [Prod.mk.injEq] at hie2
  obtain ⟨he1, he2, he3, he4⟩ := hie2
  have hke : ∀ w, (Extern.Rtype.kind 27).run Try.prog w = .ok 23 w := fun w => Lib.rl_kind 27 3 ie hie he1 w
  have hagg : ∀ w, (isAgg 27).run Try.prog w = .ok false w := fun w => by
    have hu := Lib.rl_underlying 27 3 ie hie he1
    simp [isAgg, run_underlying hu]
  obtain ⟨p, c, hv⟩ : ∃ p c, v = .slice p d.length c := rd_sl (α := List Int) (rd_own (k := 1) hst.split rfl)
  subst hv
  have hless : ∀ (Hs : List Chunk) (w : World) (e : List (List Int)) (i j : Nat), List.Perm e d → i < d.length → j < d.length → St w0 (star (bx gb [.slice p d.length c]) (ov [.slice p d.length c] e) :: Hs) w →
      Calls Try.prog 34 ([Value.int .i64 (i : Int), Value.int .i64 (j : Int)] ++ [Value.pointer (some ⟨gb, 0, none⟩)]).toArray w (fun e' w' => e' = .returned (.bool (ltL (A e i) (A e j))) ∧ St w0 (star (bx gb [.slice p d.length c]) (ov [.slice p d.length c] e) :: Hs) w') := fun Hs w e i j hp h1 h2 hs => by
    have hs2 := hs.split
    have hl := hp.length_eq
    have h := impl_LeastRepairs_1 w (i : Int) (j : Int) ⟨gb, 0, none⟩ _ e (bx_at (k := 0) hs2 rfl) (rd_own (k := 1) hs2 rfl) (by omega) (by omega) (by omega) (by omega)
    exact h.mono fun e' w' ⟨he, hx⟩ => ⟨by simpa using he, hs.ext hx⟩
  have fin : ∀ (sf : Nat) (sc : List Value), Srt Try.prog (fun e => star (bx gb [.slice p d.length c]) (ov [.slice p d.length c] e)) ltL d 34 [Value.pointer (some ⟨gb, 0, none⟩)] sf sc w0 →
      (∀ w, (Extern.ReflectliteSwapper.swapper "internal/reflectlite" (Extern.ReflectliteValue.valueError "Swapper") #[.iface 37 (.slice p d.length c)]).run Try.prog w = .ok (.func (.func sf) #[] sc.toArray) w) →
      Calls Try.prog 33 [.iface 37 (.slice p d.length c), .func (.func 34) #[] [Value.pointer (some ⟨gb, 0, none⟩)].toArray].toArray w (fun e w' => e = .returned (.tuple #[]) ∧ ∃ e', (e' = sortR d) ∧ St w0 (star (bx gb [.slice p d.length c]) (ov [.slice p d.length c] e') :: Hs) w') := fun sf sc S hsw =>
    (sort_SliceStable S ltL_ord (by omega) Hs w d (List.Perm.refl d) hi hdd sls_pk rfl hsw hst).mono fun e w' ⟨he, e', ⟨h1, h2⟩, h3⟩ => ⟨he, e', sortR_eq h1 h2, h3⟩
  have small : d.length < 2 → ∀ (Hs : List Chunk) (w : World) (e : List (List Int)) (i j : Nat) (sf : Nat) (sc : List Value), List.Perm e d → i < d.length → j < d.length → i ≠ j → St w0 (star (bx gb [.slice p d.length c]) (ov [.slice p d.length c] e) :: Hs) w →
      ∃ w', (callFunc sf ([Value.int .i64 (i : Int), Value.int .i64 (j : Int)] ++ sc).toArray).run Try.prog w = .ok (.value (.tuple #[])) w' ∧ St w0 (star (bx gb [.slice p d.length c]) (ov [.slice p d.length c] (swp e i j)) :: Hs) w' := fun h Hs w e i j sf sc _ h1 h2 h3 _ => by omega
  by_cases c0 : d.length = 0
  · have hk : Lib.swapperK d.length ie 23 = 1 := by simp [Lib.swapperK, c0]
    refine fin 69 [] ⟨sls_cl, hless, fun Hs w e i j hp h1 h2 h3 hs => small (by omega) Hs w e i j _ _ hp h1 h2 h3 hs⟩ (fun w => ?_)
    have h := Lib.run_swapper_slice (P := Try.prog) 37 27 i ie hi hdd hie 23 hke p d.length c 69 (by rw [hk]; exact sls_s1) w
    rw [hk] at h
    simpa using h
  · by_cases c1 : d.length = 1
    · have hk : Lib.swapperK d.length ie 23 = 2 := by simp [Lib.swapperK, c1]
      refine fin 70 [] ⟨sls_cl, hless, fun Hs w e i j hp h1 h2 h3 hs => small (by omega) Hs w e i j _ _ hp h1 h2 h3 hs⟩ (fun w => ?_)
      have h := Lib.run_swapper_slice (P := Try.prog) 37 27 i ie hi hdd hie 23 hke p d.length c 70 (by rw [hk]; exact sls_s2) w
      rw [hk] at h
      simpa using h
    · have hk : Lib.swapperK d.length ie 23 = 9 := by simp [Lib.swapperK, c0, c1, he3, he4]
      refine fin 77 [.slice p d.length c, typeHandle Try.prog 27] ⟨sls_cl, hless, fun Hs w e i j hp h1 h2 h3 hs => swap_ow rfl hie he2 hagg sls_x9 (by have := hp.length_eq; omega) (by have := hp.length_eq; omega) hs⟩ (fun w => ?_)
      have h := Lib.run_swapper_slice (P := Try.prog) 37 27 i ie hi hdd hie 23 hke p d.length c 77 (by rw [hk]; exact sls_s9) w
      rw [hk] at h
      simpa using h
end Go.Sy.Rep2
