/- FindRegistration of the program and of the reference agree on all arguments; no condition. -/
import Derived.Test.YtmjpiihopgckpaaSxO
import Derived.Test.YtmjpiihopgckpaaRwK
namespace Go.Proofs.Ytmjpiihopgckpaa
open Go.RowKit Go.ChangeShapes Go.WideShapes Go.ChangeAt Go.Deep

set_option maxRecDepth 100000 in
theorem fnExactFindRegistration_lifted (os : Os) (started : os.Started) (H : Type) (enc : TypeId × Value → H) :
    ReturnsInHanded {} Try.checked os 3 .any (Rows.fnExactFindRegistrationSpec.pre6 enc Try.prog Try.f3 Rows.fnExactFindRegistrationRow.domain false) (Rows.fnExactFindRegistrationSpec.post enc Try.prog Try.f3 false true false false) := by
  refine returnsInHanded_of_change (C := Try.checked) own_ started (by kernel_rfl) Try.func3
    (ChangeSpec.witness6 (enc := enc) (C := Try.checked) false ⟨#[], #[.slice none 0 0, .agg #[.int .i64 0, .int .i64 0]], []⟩ 8 (by kernel_rfl) (by kernel_rfl) (by kernel_rfl) (by kernel_rfl)) ?_
  intro W base args ds gs before hval0 hW hcnd _
  have hval : ∀ (j : Nat) t v, Try.f3.params[j]? = some t → args[j]? = some v → Value.okWide Try.prog W .any base t v := hval0
  have hW' := hW
  obtain ⟨p, q, hA0, hV, rfl, hfz, hnd⟩ := hW
  have hA : DataW.TrodAll enc Try.prog W 0 (fun _ => true) true Try.f3.params.toList args.toList ds p := hA0
  have hA' := hA
  rw [Try.params3] at hA hval
  obtain ⟨v0, v1, d0, d1, p0, p1, rfl, rfl, rfl, h0, h1⟩ := trodAll_two hA
  obtain ⟨rfl, rfl⟩ := trodVars_none hV
  obtain ⟨A, len0, Ac, b, bo, xs0, rfl, hxl0, hx0, hlc0, hcm0, hS0⟩ := open_rows (k := .i64) 4 Try.underlying22 (by kernel_rfl) cells_Registration (hval 0 22 v0 rfl rfl) h0
  obtain ⟨rs, hr10, hr20⟩ := recs_of encW_surj xs0 (fun y hy => (hx0 y hy).trans (by kernel_rfl))
  rw [← hr20] at hS0
  obtain rfl : len0 = rs.length := by omega
  have hm0 : rs.length ≤ 9223372036854775807 := by simp only [maxLen] at hcm0; omega
  obtain ⟨ns1, rfl, hln1⟩ := open_flat (k := .i64) 4 Try.underlying24 (by kernel_rfl) (hval 1 24 v1 rfl rfl) h1
  obtain ⟨p, rfl⟩ := enc2_surj ns1 (hln1.trans (by kernel_rfl))
  simp only [List.append_nil] at hW' hA'
  refine (law_FindRegistration rs A b bo Ac p W hS0 hm0).mono fun e W' ⟨he, hh⟩ => ?_
  subst he
  exact ⟨_, rfl, law_post (by kernel_rfl) rfl hW' hA' (by kernel_rfl) rfl Try.underlying4 rfl (hh.below rfl)⟩
theorem fnExactFindRegistration_holds : Rows.FnExactFindRegistrationSaid :=
  OpenClaim.holds_of_wide 3 Try.f3 rfl rfl rfl rfl rfl rfl rfl ⟨rfl, rfl, rfl, rfl, rfl⟩ rfl rfl rfl rfl rfl (by kernel_rfl) Try.func3 (by kernel_rfl)
    (of_decide_eq_true (by kernel_rfl)) (by unfold Func.isWrapper; first | (rw [if_pos (by decide +kernel)]; kernel_rfl) | (rw [if_neg (by decide +kernel)]; exact ⟨rfl, rfl⟩))
    (fun os started H enc _ => fnExactFindRegistration_lifted os started H enc)

end Go.Proofs.Ytmjpiihopgckpaa
