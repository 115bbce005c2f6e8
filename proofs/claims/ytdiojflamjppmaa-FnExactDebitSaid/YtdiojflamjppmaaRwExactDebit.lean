/- Debit of the program and of the reference agree on every account, session and amount; no condition. -/
import Derived.Test.YtdiojflamjppmaaSxX
import Derived.Test.YtdiojflamjppmaaRwK
namespace Go.Proofs.Ytdiojflamjppmaa
open Go.RowKit Go.ChangeShapes Go.WideShapes Go.ChangeAt Go.Deep

set_option maxRecDepth 100000 in
theorem fnExactDebit_lifted (os : Os) (started : os.Started) (H : Type) (enc : TypeId × Value → H) :
    ReturnsInHanded {} Try.checked os 4 .any (Rows.fnExactDebitSpec.pre6 enc Try.prog Try.f4 Rows.fnExactDebitRow.domain false) (Rows.fnExactDebitSpec.post enc Try.prog Try.f4 false true false false) := by
  refine returnsInHanded_of_change (C := Try.checked) own_ started (by kernel_rfl) Try.func4
    (ChangeSpec.witness6 (enc := enc) (C := Try.checked) false ⟨#[], #[.agg #[.int .i64 0, .int .i64 0, .int .i64 0, .slice none 0 0], .int .i64 0, .int .i64 0], []⟩ 8 (by kernel_rfl) (by kernel_rfl) (by kernel_rfl) (by kernel_rfl)) ?_
  intro W base args ds gs before hval0 hW hcnd _
  have hval : ∀ (j : Nat) t v, Try.f4.params[j]? = some t → args[j]? = some v → Value.okWide Try.prog W .any base t v := hval0
  have hW' := hW
  obtain ⟨p, q, hA0, hV, rfl, hfz, hnd⟩ := hW
  have hA : DataW.TrodAll enc Try.prog W 0 (fun _ => true) true Try.f4.params.toList args.toList ds p := hA0
  have hA' := hA
  rw [Try.params4] at hA hval
  obtain ⟨v0, v1, v2, d0, d1, d2, p0, p1, p2, rfl, rfl, rfl, h0, h1, h2⟩ := trodAll_three hA
  obtain ⟨rfl, rfl⟩ := trodVars_none hV
  obtain ⟨u0, u1, u2, u3, y0, y1, y2, y3, nn, rfl, rfl, rfl, k0, k1, k2, k3⟩ := Joins.open_agg4 Try.underlying24 (by kernel_rfl) (by kernel_rfl) (hval 0 24 v0 rfl rfl) h0
  obtain ⟨a0, e0, _, _⟩ := DataW.trod_int Try.underlying3 k0
  obtain ⟨a1, e1, _, _⟩ := DataW.trod_int Try.underlying3 k1
  obtain ⟨a2, e2, _, _⟩ := DataW.trod_int Try.underlying3 k2
  obtain rfl : u0 = .int .i64 a0 := by simpa using e0
  obtain rfl : u1 = .int .i64 a1 := by simpa using e1
  obtain rfl : u2 = .int .i64 a2 := by simpa using e2
  obtain ⟨A, len, cap, b, o, xs, rfl, hxl, hx2, hlc, hcm, hS⟩ := open_flat_slice (k := .i64) 4 Try.underlying22 (by kernel_rfl) cells_pos k3
  obtain ⟨rs, hr1, hr2⟩ := recs_of encR_surj xs (fun y hy => (hx2 y hy).trans (by kernel_rfl))
  rw [← hr2] at hS
  obtain rfl : len = rs.length := by omega
  have hm : rs.length ≤ 9223372036854775807 := by simp only [maxLen] at hcm; omega
  obtain ⟨n1, rfl, rfl, rfl, wn1⟩ := open_int Try.underlying3 (hval 1 3 v1 rfl rfl) h1
  obtain ⟨n2, rfl, rfl, rfl, wn2⟩ := open_int Try.underlying3 (hval 2 3 v2 rfl rfl) h2
  simp only [List.append_nil] at hW' hA'
  refine (law_Debit ⟨a0, a1, a2, rs⟩ A b o cap n1 n2 W hS hm).mono fun e W' ⟨he, hh⟩ => ?_
  subst he
  exact ⟨_, rfl, law_post (by kernel_rfl) rfl hW' hA' (by kernel_rfl) rfl Try.underlying4 rfl (hh.below rfl)⟩
theorem fnExactDebit_holds : Rows.FnExactDebitSaid :=
  OpenClaim.holds_of_wide 4 Try.f4 rfl rfl rfl rfl rfl rfl rfl ⟨rfl, rfl, rfl, rfl, rfl⟩ rfl rfl rfl rfl rfl (by kernel_rfl) Try.func4 (by kernel_rfl)
    (of_decide_eq_true (by kernel_rfl)) (by unfold Func.isWrapper; first | (rw [if_pos (by decide +kernel)]; kernel_rfl) | (rw [if_neg (by decide +kernel)]; exact ⟨rfl, rfl⟩))
    (fun os started H enc _ => fnExactDebit_lifted os started H enc)

end Go.Proofs.Ytdiojflamjppmaa
