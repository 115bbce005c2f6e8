/- EqualRegistrations of the program and of the reference agree on all arguments; no condition. -/
import Derived.Test.YtmjpiihopgckpaaSxO
import Derived.Test.YtmjpiihopgckpaaRwK
namespace Go.Proofs.Ytmjpiihopgckpaa
open Go.RowKit Go.ChangeShapes Go.WideShapes Go.ChangeAt Go.Deep

set_option maxRecDepth 100000 in
theorem fnExactEqualRegistrations_lifted (os : Os) (started : os.Started) (H : Type) (enc : TypeId × Value → H) :
    ReturnsInHanded {} Try.checked os 5 .any (Rows.fnExactEqualRegistrationsSpec.pre6 enc Try.prog Try.f5 Rows.fnExactEqualRegistrationsRow.domain false) (Rows.fnExactEqualRegistrationsSpec.post enc Try.prog Try.f5 false true false false) := by
  refine returnsInHanded_of_change (C := Try.checked) own_ started (by kernel_rfl) Try.func5
    (ChangeSpec.witness6 (enc := enc) (C := Try.checked) false ⟨#[], #[.slice none 0 0, .slice none 0 0], []⟩ 8 (by kernel_rfl) (by kernel_rfl) (by kernel_rfl) (by kernel_rfl)) ?_
  intro W base args ds gs before hval0 hW hcnd _
  have hval : ∀ (j : Nat) t v, Try.f5.params[j]? = some t → args[j]? = some v → Value.okWide Try.prog W .any base t v := hval0
  have hW' := hW
  obtain ⟨p, q, hA0, hV, rfl, hfz, hnd⟩ := hW
  have hA : DataW.TrodAll enc Try.prog W 0 (fun _ => true) true Try.f5.params.toList args.toList ds p := hA0
  have hA' := hA
  rw [Try.params5] at hA hval
  obtain ⟨v0, v1, d0, d1, p0, p1, rfl, rfl, rfl, h0, h1⟩ := trodAll_two hA
  obtain ⟨rfl, rfl⟩ := trodVars_none hV
  obtain ⟨A, len0, Ac, b, bo, xs0, rfl, hxl0, hx0, hlc0, hcm0, hS0⟩ := open_rows (k := .i64) 4 Try.underlying22 (by kernel_rfl) cells_Registration (hval 0 22 v0 rfl rfl) h0
  obtain ⟨rs, hr10, hr20⟩ := recs_of encW_surj xs0 (fun y hy => (hx0 y hy).trans (by kernel_rfl))
  rw [← hr20] at hS0
  obtain rfl : len0 = rs.length := by omega
  have hm0 : rs.length ≤ 9223372036854775807 := by simp only [maxLen] at hcm0; omega
  obtain ⟨B, len1, Bc, b2, b2o, xs1, rfl, hxl1, hx1, hlc1, hcm1, hS1⟩ := open_rows (k := .i64) 4 Try.underlying22 (by kernel_rfl) cells_Registration (hval 1 22 v1 rfl rfl) h1
  obtain ⟨ys, hr11, hr21⟩ := recs_of encW_surj xs1 (fun y hy => (hx1 y hy).trans (by kernel_rfl))
  rw [← hr21] at hS1
  obtain rfl : len1 = ys.length := by omega
  have hm1 : ys.length ≤ 9223372036854775807 := by simp only [maxLen] at hcm1; omega
  simp only [List.append_nil] at hW' hA'
  refine (law_EqualRegistrations rs ys A B b bo Ac b2 b2o Bc W hS0 hm0 hS1 hm1).mono fun e W' ⟨he, hh⟩ => ?_
  subst he
  exact ⟨_, rfl, law_post (by kernel_rfl) rfl hW' hA' (by kernel_rfl) rfl Try.underlying4 rfl (hh.below rfl)⟩
theorem fnExactEqualRegistrations_holds : Rows.FnExactEqualRegistrationsSaid :=
  OpenClaim.holds_of_wide 5 Try.f5 rfl rfl rfl rfl rfl rfl rfl ⟨rfl, rfl, rfl, rfl, rfl⟩ rfl rfl rfl rfl rfl (by kernel_rfl) Try.func5 (by kernel_rfl)
    (of_decide_eq_true (by kernel_rfl)) (by unfold Func.isWrapper; first | (rw [if_pos (by decide +kernel)]; kernel_rfl) | (rw [if_neg (by decide +kernel)]; exact ⟨rfl, rfl⟩))
    (fun os started H enc _ => fnExactEqualRegistrations_lifted os started H enc)

end Go.Proofs.Ytmjpiihopgckpaa
