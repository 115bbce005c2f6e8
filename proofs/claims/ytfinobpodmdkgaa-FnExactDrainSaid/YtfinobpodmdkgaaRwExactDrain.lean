/- Drain of the program and of the reference agree on all arguments; no condition. -/
import Derived.Test.YtfinobpodmdkgaaSxD7
import Derived.Test.YtfinobpodmdkgaaRwK
namespace Go.Proofs.Ytfinobpodmdkgaa
open Go.RowKit Go.ChangeShapes Go.WideShapes Go.ChangeAt Go.Deep

set_option maxRecDepth 100000 in
theorem fnExactDrain_lifted (os : Os) (started : os.Started) (H : Type) (enc : TypeId × Value → H) :
    ReturnsInHanded {} Try.checked os 5 .any (Rows.fnExactDrainSpec.pre6 enc Try.prog Try.f5 Rows.fnExactDrainRow.domain false) (Rows.fnExactDrainSpec.post enc Try.prog Try.f5 false true false false) := by
  refine returnsInHanded_of_change (C := Try.checked) own_ started (by kernel_rfl) Try.func5
    (ChangeSpec.witness6 (enc := enc) (C := Try.checked) false ⟨#[], #[.agg #[.int .i64 0, .slice none 0 0, .int .i64 0]], []⟩ 8 (by kernel_rfl) (by kernel_rfl) (by kernel_rfl) (by kernel_rfl)) ?_
  intro W base args ds gs before hval0 hW hcnd _
  have hval : ∀ (j : Nat) t v, Try.f5.params[j]? = some t → args[j]? = some v → Value.okWide Try.prog W .any base t v := hval0
  have hW' := hW
  obtain ⟨p, q, hA0, hV, rfl, hfz, hnd⟩ := hW
  have hA : DataW.TrodAll enc Try.prog W 0 (fun _ => true) true Try.f5.params.toList args.toList ds p := hA0
  have hA' := hA
  rw [Try.params5] at hA hval
  obtain ⟨v0, d0, rfl, rfl, h0⟩ := trodAll_one hA
  obtain ⟨rfl, rfl⟩ := trodVars_none hV
  obtain ⟨u0, u1, u2, y0, y1, y2, nn, rfl, rfl, rfl, k0, k1, k2⟩ := Joins.open_agg3 Try.underlying24 (by kernel_rfl) (by kernel_rfl) (hval 0 24 v0 rfl rfl) h0
  obtain ⟨q, e0, _, _⟩ := DataW.trod_int Try.underlying3 k0
  obtain ⟨dr, e2, _, _⟩ := DataW.trod_int Try.underlying3 k2
  obtain rfl : u0 = .int .i64 q := by simpa using e0
  obtain rfl : u2 = .int .i64 dr := by simpa using e2
  obtain ⟨A, cap, b, o, ps, rfl, hlc, hcm, hPy, hcaps⟩ := open_pays Try.underlying22 Try.underlying65 ⟨rfl, by kernel_rfl, by kernel_rfl⟩ Try.underlying42 (by kernel_rfl) (by kernel_rfl) k1
  simp only [List.append_nil] at hW' hA'
  refine (law_Drain q dr ps A b o cap W hPy hlc hcm hcaps).mono fun e W' ⟨he, hh⟩ => ?_
  subst he
  exact ⟨_, rfl, law_post (by kernel_rfl) rfl hW' hA' (by kernel_rfl) rfl Try.underlying4 rfl (hh.below rfl)⟩
theorem fnExactDrain_holds : Rows.FnExactDrainSaid :=
  OpenClaim.holds_of_wide 5 Try.f5 rfl rfl rfl rfl rfl rfl rfl ⟨rfl, rfl, rfl, rfl, rfl⟩ rfl rfl rfl rfl rfl (by kernel_rfl) Try.func5 (by kernel_rfl)
    (of_decide_eq_true (by kernel_rfl)) (by unfold Func.isWrapper; first | (rw [if_pos (by decide +kernel)]; kernel_rfl) | (rw [if_neg (by decide +kernel)]; exact ⟨rfl, rfl⟩))
    (fun os started H enc _ => fnExactDrain_lifted os started H enc)

end Go.Proofs.Ytfinobpodmdkgaa
