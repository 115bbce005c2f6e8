/- ResolveTempID of the program and of the reference agree on all arguments; no condition. -/
import Derived.Test.YtmjpiihopgckpaaSxO
import Derived.Test.YtmjpiihopgckpaaRwK
namespace Go.Proofs.Ytmjpiihopgckpaa
open Go.RowKit Go.ChangeShapes Go.WideShapes Go.ChangeAt Go.Deep

set_option maxRecDepth 100000 in
theorem fnExactResolveTempID_lifted (os : Os) (started : os.Started) (H : Type) (enc : TypeId × Value → H) :
    ReturnsInHanded {} Try.checked os 4 .any (Rows.fnExactResolveTempIDSpec.pre6 enc Try.prog Try.f4 Rows.fnExactResolveTempIDRow.domain false) (Rows.fnExactResolveTempIDSpec.post enc Try.prog Try.f4 false true false false) := by
  refine returnsInHanded_of_change (C := Try.checked) own_ started (by kernel_rfl) Try.func4
    (ChangeSpec.witness6 (enc := enc) (C := Try.checked) false ⟨#[], #[.slice none 0 0, .int .i64 0, .agg #[.int .i64 0, .int .i64 0]], []⟩ 8 (by kernel_rfl) (by kernel_rfl) (by kernel_rfl) (by kernel_rfl)) ?_
  intro W base args ds gs before hval0 hW hcnd _
  have hval : ∀ (j : Nat) t v, Try.f4.params[j]? = some t → args[j]? = some v → Value.okWide Try.prog W .any base t v := hval0
  have hW' := hW
  obtain ⟨p, q, hA0, hV, rfl, hfz, hnd⟩ := hW
  have hA : DataW.TrodAll enc Try.prog W 0 (fun _ => true) true Try.f4.params.toList args.toList ds p := hA0
  have hA' := hA
  rw [Try.params4] at hA hval
  obtain ⟨v0, v1, v2, d0, d1, d2, p0, p1, p2, rfl, rfl, rfl, h0, h1, h2⟩ := trodAll_three hA
  obtain ⟨rfl, rfl⟩ := trodVars_none hV
  obtain ⟨A, len0, Ac, b, bo, xs0, rfl, hxl0, hx0, hlc0, hcm0, hS0⟩ := open_rows (k := .i64) 4 Try.underlying22 (by kernel_rfl) cells_Registration (hval 0 22 v0 rfl rfl) h0
  obtain ⟨rs, hr10, hr20⟩ := recs_of encW_surj xs0 (fun y hy => (hx0 y hy).trans (by kernel_rfl))
  rw [← hr20] at hS0
  obtain rfl : len0 = rs.length := by omega
  have hm0 : rs.length ≤ 9223372036854775807 := by simp only [maxLen] at hcm0; omega
  obtain ⟨n, rfl, rfl, rfl, wn⟩ := open_int Try.underlying3 (hval 1 3 v1 rfl rfl) h1
  obtain ⟨ns2, rfl, hln2⟩ := open_flat (k := .i64) 4 Try.underlying34 (by kernel_rfl) (hval 2 34 v2 rfl rfl) h2
  obtain ⟨p, rfl⟩ := enc2_surj ns2 (hln2.trans (by kernel_rfl))
  simp only [List.append_nil] at hW' hA'
  refine (law_ResolveTempID rs A b bo Ac n p W hS0 hm0).mono fun e W' ⟨he, hh⟩ => ?_
  subst he
  exact ⟨_, rfl, law_post (by kernel_rfl) rfl hW' hA' (by kernel_rfl) rfl Try.underlying4 rfl (hh.below rfl)⟩
theorem fnExactResolveTempID_holds : Rows.FnExactResolveTempIDSaid :=
  OpenClaim.holds_of_wide 4 Try.f4 rfl rfl rfl rfl rfl rfl rfl ⟨rfl, rfl, rfl, rfl, rfl⟩ rfl rfl rfl rfl rfl (by kernel_rfl) Try.func4 (by kernel_rfl)
    (of_decide_eq_true (by kernel_rfl)) (by unfold Func.isWrapper; first | (rw [if_pos (by decide +kernel)]; kernel_rfl) | (rw [if_neg (by decide +kernel)]; exact ⟨rfl, rfl⟩))
    (fun os started H enc _ => fnExactResolveTempID_lifted os started H enc)

end Go.Proofs.Ytmjpiihopgckpaa
