/- IsValidSubscription of the program and of the reference agree on all arguments; no condition. -/
import Derived.Test.YtlpiogbbplfliaaSxO
import Derived.Test.YtlpiogbbplfliaaRwK
namespace Go.Proofs.Ytlpiogbbplfliaa
open Go.RowKit Go.ChangeShapes Go.WideShapes Go.ChangeAt Go.Deep

set_option maxRecDepth 100000 in
theorem fnExactIsValidSubscription_lifted (os : Os) (started : os.Started) (H : Type) (enc : TypeId × Value → H) :
    ReturnsInHanded {} Try.checked os 4 .any (Rows.fnExactIsValidSubscriptionSpec.pre6 enc Try.prog Try.f4 Rows.fnExactIsValidSubscriptionRow.domain false) (Rows.fnExactIsValidSubscriptionSpec.post enc Try.prog Try.f4 false true false false) := by
  refine returnsInHanded_of_change (C := Try.checked) own_ started (by kernel_rfl) Try.func4
    (ChangeSpec.witness6 (enc := enc) (C := Try.checked) false ⟨#[], #[.agg #[.int .i64 0, .int .i64 0, .int .i64 0, .slice none 0 0]], []⟩ 8 (by kernel_rfl) (by kernel_rfl) (by kernel_rfl) (by kernel_rfl)) ?_
  intro W base args ds gs before hval0 hW hcnd _
  have hval : ∀ (j : Nat) t v, Try.f4.params[j]? = some t → args[j]? = some v → Value.okWide Try.prog W .any base t v := hval0
  have hW' := hW
  obtain ⟨p, q, hA0, hV, rfl, hfz, hnd⟩ := hW
  have hA : DataW.TrodAll enc Try.prog W 0 (fun _ => true) true Try.f4.params.toList args.toList ds p := hA0
  have hA' := hA
  rw [Try.params4] at hA hval
  obtain ⟨v0, d0, rfl, rfl, h0⟩ := trodAll_one hA
  obtain ⟨rfl, rfl⟩ := trodVars_none hV
  obtain ⟨u0_0, u1_0, u2_0, u3_0, y0_0, y1_0, y2_0, y3_0, nn_0, rfl, rfl, rfl, k0_0, k1_0, k2_0, k3_0⟩ := Joins.open_agg4 Try.underlying24 (by kernel_rfl) (by kernel_rfl) (hval 0 24 v0 rfl rfl) h0
  obtain ⟨a0_0, e0_0, _, _⟩ := DataW.trod_int Try.underlying3 k0_0
  obtain ⟨a1_0, e1_0, _, _⟩ := DataW.trod_int Try.underlying3 k1_0
  obtain ⟨a2_0, e2_0, _, _⟩ := DataW.trod_int Try.underlying3 k2_0
  obtain rfl : u0_0 = .int .i64 a0_0 := by simpa using e0_0
  obtain rfl : u1_0 = .int .i64 a1_0 := by simpa using e1_0
  obtain rfl : u2_0 = .int .i64 a2_0 := by simpa using e2_0
  obtain ⟨A_0, len_0, cap_0, b_0, o_0, xs_0, rfl, hxl_0, hx2_0, hlc_0, hcm_0, hS_0⟩ := open_flat_slice (k := .i64) 4 Try.underlying22 (by kernel_rfl) cells_int k3_0
  obtain ⟨rs_0, hr1_0, hr2_0⟩ := recs_of encI_surj xs_0 (fun y hy => (hx2_0 y hy).trans (by kernel_rfl))
  rw [← hr2_0] at hS_0
  obtain rfl : len_0 = rs_0.length := by omega
  have hm_0 : rs_0.length ≤ 9223372036854775807 := by simp only [maxLen] at hcm_0; omega
  simp only [List.append_nil] at hW' hA'
  refine (law_IsValidSubscription ⟨a0_0, a1_0, a2_0, rs_0⟩ A_0 b_0 o_0 cap_0 W hS_0 hm_0).mono fun e W' ⟨he, hh⟩ => ?_
  subst he
  exact ⟨_, rfl, law_post (by kernel_rfl) rfl hW' hA' (by kernel_rfl) rfl Try.underlying4 rfl (hh.below rfl)⟩
theorem fnExactIsValidSubscription_holds : Rows.FnExactIsValidSubscriptionSaid :=
  OpenClaim.holds_of_wide 4 Try.f4 rfl rfl rfl rfl rfl rfl rfl ⟨rfl, rfl, rfl, rfl, rfl⟩ rfl rfl rfl rfl rfl (by kernel_rfl) Try.func4 (by kernel_rfl)
    (of_decide_eq_true (by kernel_rfl)) (by unfold Func.isWrapper; first | (rw [if_pos (by decide +kernel)]; kernel_rfl) | (rw [if_neg (by decide +kernel)]; exact ⟨rfl, rfl⟩))
    (fun os started H enc _ => fnExactIsValidSubscription_lifted os started H enc)

end Go.Proofs.Ytlpiogbbplfliaa
