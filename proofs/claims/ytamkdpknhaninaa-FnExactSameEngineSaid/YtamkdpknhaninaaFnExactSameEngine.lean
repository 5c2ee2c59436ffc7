/-
  Proved: whatever the input, the law FnExactSameEngine returns true, and the input reads as it did.
  Conditions: none.
-/
import Derived.Test.YtamkdpknhaninaaRdb
import Derived.Test.YtamkdpknhaninaaEv3
namespace Go.Proofs.Ytamkdpknhaninaa
open Go Go.Sy Go.ChangeShapes Go.WideShapes Go.ChangeAt Go.RowKit
namespace fnExactSameEngine
theorem own : ownKnob Try.prog.godebug = none := by kernel_rfl
set_option maxRecDepth 100000 in
theorem lifted (os : Os) (started : os.Started) (H : Type) (enc : TypeId × Value → H) :
    ReturnsInHanded {} Try.checked os 5 .any (Rows.fnExactSameEngineSpec.pre6 enc Try.prog Try.f5 Rows.fnExactSameEngineRow.domain false) (Rows.fnExactSameEngineSpec.post enc Try.prog Try.f5 false true false false) := by
  refine returnsInHanded_of_change (C := Try.checked) own started (by kernel_rfl) Try.func5
    (ChangeSpec.witness6 (enc := enc) (C := Try.checked) false ⟨#[], #[(.agg #[(.slice none 0 0), (.slice none 0 0), (.int .i64 0), (.slice none 0 0), (.bool false), (.slice none 0 0)]), (.agg #[(.slice none 0 0), (.slice none 0 0), (.int .i64 0), (.slice none 0 0), (.bool false), (.slice none 0 0)])], []⟩ 8 (by kernel_rfl) (by kernel_rfl) (by kernel_rfl) (by kernel_rfl)) ?_
  intro W base args ds gs before hval0 hW hcnd _
  have hval : ∀ (j : Nat) t v, Try.f5.params[j]? = some t → args[j]? = some v → Value.okWide Try.prog W .any base t v := hval0
  have hW' := hW
  obtain ⟨p, q, hA0, hV, rfl, hfz, hnd⟩ := hW
  have hA : DataW.TrodAll enc Try.prog W 0 (fun _ => true) true Try.f5.params.toList args.toList ds p := hA0
  rw [Try.params5] at hA hval
  obtain ⟨v0, vs0, d0, ds0, p0, q0, hargs, rfl, rfl, t0, r0⟩ := trodAll_cons hA
  obtain ⟨v1, vs1, d1, ds1, p1, q1, rfl, rfl, rfl, t1, r1⟩ := trodAll_cons r0
  obtain ⟨rfl, rfl, rfl⟩ := trodAll_nil r1
  obtain rfl : args = #[v0, v1] := by cases args; simp_all
  obtain ⟨cs0, a0, rfl, g0, o0⟩ := arg_struct rdb41 (fs := fieldsOf Try.prog 41) (by kernel_rfl) (hval 0 41 v0 rfl rfl) t0
  obtain ⟨cs1, a1, rfl, g1, o1⟩ := arg_struct rdb41 (fs := fieldsOf Try.prog 41) (by kernel_rfl) (hval 1 41 v1 rfl rfl) t1
  refine (Go.Sy.Ev3.laws_FnExactSameEngine W cs0 a0 cs1 a1 g0 g1 o0 o1).mono fun e W' ⟨he, hx⟩ => ?_
  subst he
  exact ⟨_, rfl, law_post laidOut (by decide +kernel) rfl rfl (tb := 4) (by kernel_rfl) (fun H ds hd => by
    obtain ⟨d0, d1, rfl⟩ := len_2 hd
    exact ⟨rfl, rfl, rfl⟩) hW' hx⟩
theorem proved : Rows.FnExactSameEngineSaid :=
  OpenClaim.holds_of_wide 5 Try.f5 rfl rfl rfl rfl rfl rfl rfl ⟨rfl, rfl, rfl, rfl, rfl⟩ rfl rfl rfl rfl rfl (by kernel_rfl) Try.func5 (by kernel_rfl)
    (of_decide_eq_true (by kernel_rfl)) (by unfold Func.isWrapper; first | (rw [if_pos (by decide +kernel)]; kernel_rfl) | (rw [if_neg (by decide +kernel)]; exact ⟨rfl, rfl⟩))
    (fun os started H enc _ => lifted os started H enc)
end fnExactSameEngine
#print axioms fnExactSameEngine.proved
end Go.Proofs.Ytamkdpknhaninaa
