/-
  Proved: whatever the input, the law FnExactRepairBeliefs returns true, and the input reads as it did.
  Conditions: none.
-/
import Derived.Test.YteahhonfcloabaaRdb
import Derived.Test.YteahhonfcloabaaRep5
namespace Go.Proofs.Yteahhonfcloabaa
open Go Go.Sy Go.ChangeShapes Go.WideShapes Go.ChangeAt Go.RowKit
namespace fnExactRepairBeliefs
theorem own : ownKnob Try.prog.godebug = none := by kernel_rfl
set_option maxRecDepth 100000 in
theorem lifted (os : Os) (started : os.Started) (H : Type) (enc : TypeId × Value → H) :
    ReturnsInHanded {} Try.checked os 8 .any (Rows.fnExactRepairBeliefsSpec.pre6 enc Try.prog Try.f8 Rows.fnExactRepairBeliefsRow.domain false) (Rows.fnExactRepairBeliefsSpec.post enc Try.prog Try.f8 false true false false) := by
  refine returnsInHanded_of_change (C := Try.checked) own started (by kernel_rfl) Try.func8
    (ChangeSpec.witness6 (enc := enc) (C := Try.checked) false ⟨#[], #[(.agg #[(.int .i64 0), (.slice none 0 0)]), (.slice none 0 0), (.slice none 0 0)], []⟩ 8 (by kernel_rfl) (by kernel_rfl) (by kernel_rfl) (by kernel_rfl)) ?_
  intro W base args ds gs before hval0 hW hcnd _
  have hval : ∀ (j : Nat) t v, Try.f8.params[j]? = some t → args[j]? = some v → Value.okWide Try.prog W .any base t v := hval0
  have hW' := hW
  obtain ⟨p, q, hA0, hV, rfl, hfz, hnd⟩ := hW
  have hA : DataW.TrodAll enc Try.prog W 0 (fun _ => true) true Try.f8.params.toList args.toList ds p := hA0
  rw [Try.params8] at hA hval
  obtain ⟨v0, vs0, d0, ds0, p0, q0, hargs, rfl, rfl, t0, r0⟩ := trodAll_cons hA
  obtain ⟨v1, vs1, d1, ds1, p1, q1, rfl, rfl, rfl, t1, r1⟩ := trodAll_cons r0
  obtain ⟨v2, vs2, d2, ds2, p2, q2, rfl, rfl, rfl, t2, r2⟩ := trodAll_cons r1
  obtain ⟨rfl, rfl, rfl⟩ := trodAll_nil r2
  obtain rfl : args = #[v0, v1, v2] := by cases args; simp_all
  obtain ⟨cs0, a0, rfl, g0, o0⟩ := arg_struct rdb24 (fs := fieldsOf Try.prog 24) (by kernel_rfl) (hval 0 24 v0 rfl rfl) t0
  obtain ⟨a1, g1, o1⟩ := arg_slice rdb25 (e := 3) (by kernel_rfl) (hval 1 25 v1 rfl rfl) t1
  obtain ⟨a2, g2, o2⟩ := arg_slice rdb25 (e := 3) (by kernel_rfl) (hval 2 25 v2 rfl rfl) t2
  refine (Go.Sy.Rep5.laws_FnExactRepairBeliefs W cs0 a0 v1 a1 v2 a2 g0 g1 g2 ).mono fun e W' ⟨he, hx⟩ => ?_
  subst he
  exact ⟨_, rfl, law_post laidOut (by decide +kernel) rfl rfl (tb := 4) (by kernel_rfl) (fun H ds hd => by
    obtain ⟨d0, d1, d2, rfl⟩ := len_3 hd
    exact ⟨rfl, rfl, rfl⟩) hW' hx⟩
theorem proved : Rows.FnExactRepairBeliefsSaid :=
  OpenClaim.holds_of_wide 8 Try.f8 rfl rfl rfl rfl rfl rfl rfl ⟨rfl, rfl, rfl, rfl, rfl⟩ rfl rfl rfl rfl rfl (by kernel_rfl) Try.func8 (by kernel_rfl)
    (of_decide_eq_true (by kernel_rfl)) (by unfold Func.isWrapper; first | (rw [if_pos (by decide +kernel)]; kernel_rfl) | (rw [if_neg (by decide +kernel)]; exact ⟨rfl, rfl⟩))
    (fun os started H enc _ => lifted os started H enc)
end fnExactRepairBeliefs
#print axioms fnExactRepairBeliefs.proved
end Go.Proofs.Yteahhonfcloabaa
