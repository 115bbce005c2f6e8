/- NetBalance of the program and of the reference agree on all arguments; no condition. -/
import Derived.Test.YtjcenklebamjpaaSxP
import Derived.Test.YtjcenklebamjpaaRwK
namespace Go.Proofs.Ytjcenklebamjpaa
open Go.RowKit Go.ChangeShapes Go.WideShapes Go.ChangeAt Go.Deep

set_option maxRecDepth 100000 in
theorem fnExactNetBalance_lifted (os : Os) (started : os.Started) (H : Type) (enc : TypeId × Value → H) :
    ReturnsInHanded {} Try.checked os 13 .any (Rows.fnExactNetBalanceSpec.pre6 enc Try.prog Try.f13 Rows.fnExactNetBalanceRow.domain false) (Rows.fnExactNetBalanceSpec.post enc Try.prog Try.f13 false true false false) := by
  refine returnsInHanded_of_change (C := Try.checked) own_ started (by kernel_rfl) Try.func13
    (ChangeSpec.witness6 (enc := enc) (C := Try.checked) false ⟨#[], #[.agg #[.int .i64 0, .int .i64 0, .int .i64 0, .int .i64 0], .agg #[.int .i64 0, .int .i64 0, .int .i64 0, .int .i64 0], .slice none 0 0, .slice none 0 0], []⟩ 8 (by kernel_rfl) (by kernel_rfl) (by kernel_rfl) (by kernel_rfl)) ?_
  intro W base args ds gs before hval0 hW hcnd _
  have hval : ∀ (j : Nat) t v, Try.f13.params[j]? = some t → args[j]? = some v → Value.okWide Try.prog W .any base t v := hval0
  have hW' := hW
  obtain ⟨p, q, hA0, hV, rfl, hfz, hnd⟩ := hW
  have hA : DataW.TrodAll enc Try.prog W 0 (fun _ => true) true Try.f13.params.toList args.toList ds p := hA0
  have hA' := hA
  rw [Try.params13] at hA hval
  obtain ⟨v0, v1, v2, v3, d0, d1, d2, d3, p0, p1, p2, p3, rfl, rfl, rfl, h0, h1, h2, h3⟩ := trodAll_four hA
  obtain ⟨rfl, rfl⟩ := trodVars_none hV
  obtain ⟨ns0, rfl, hln0⟩ := open_flat (k := .i64) 4 Try.underlying23 (by kernel_rfl) (hval 0 23 v0 rfl rfl) h0
  obtain ⟨d, rfl⟩ := encG_surj ns0 (hln0.trans (by kernel_rfl))
  obtain ⟨ns1, rfl, hln1⟩ := open_flat (k := .i64) 4 Try.underlying23 (by kernel_rfl) (hval 1 23 v1 rfl rfl) h1
  obtain ⟨d2, rfl⟩ := encG_surj ns1 (hln1.trans (by kernel_rfl))
  obtain ⟨A, len2, Ac, b, bo, xs2, rfl, hxl2, hx2, hlc2, hcm2, hS2⟩ := open_rows (k := .i64) 4 Try.underlying41 (by kernel_rfl) cells_UsageRecord (hval 2 41 v2 rfl rfl) h2
  obtain ⟨own, hr12, hr22⟩ := recs_of encU_surj xs2 (fun y hy => (hx2 y hy).trans (by kernel_rfl))
  rw [← hr22] at hS2
  obtain rfl : len2 = own.length := by omega
  have hm2 : own.length ≤ 9223372036854775807 := by simp only [maxLen] at hcm2; omega
  obtain ⟨A2, len3, A2c, b2, b2o, xs3, rfl, hxl3, hx3, hlc3, hcm3, hS3⟩ := open_rows (k := .i64) 4 Try.underlying41 (by kernel_rfl) cells_UsageRecord (hval 3 41 v3 rfl rfl) h3
  obtain ⟨told, hr13, hr23⟩ := recs_of encU_surj xs3 (fun y hy => (hx3 y hy).trans (by kernel_rfl))
  rw [← hr23] at hS3
  obtain rfl : len3 = told.length := by omega
  have hm3 : told.length ≤ 9223372036854775807 := by simp only [maxLen] at hcm3; omega
  simp only [List.append_nil] at hW' hA'
  refine (law_NetBalance d d2 own told A A2 b bo Ac b2 b2o A2c W hS2 hm2 hS3 hm3).mono fun e W' ⟨he, hh⟩ => ?_
  subst he
  exact ⟨_, rfl, law_post (by kernel_rfl) rfl hW' hA' (by kernel_rfl) rfl Try.underlying4 rfl (hh.below rfl)⟩
theorem fnExactNetBalance_holds : Rows.FnExactNetBalanceSaid :=
  OpenClaim.holds_of_wide 13 Try.f13 rfl rfl rfl rfl rfl rfl rfl ⟨rfl, rfl, rfl, rfl, rfl⟩ rfl rfl rfl rfl rfl (by kernel_rfl) Try.func13 (by kernel_rfl)
    (of_decide_eq_true (by kernel_rfl)) (by unfold Func.isWrapper; first | (rw [if_pos (by decide +kernel)]; kernel_rfl) | (rw [if_neg (by decide +kernel)]; exact ⟨rfl, rfl⟩))
    (fun os started H enc _ => fnExactNetBalance_lifted os started H enc)

end Go.Proofs.Ytjcenklebamjpaa
