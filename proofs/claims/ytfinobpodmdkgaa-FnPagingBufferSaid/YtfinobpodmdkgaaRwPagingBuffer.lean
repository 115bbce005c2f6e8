/- Packets are stored in order up to the capacity, the others are counted, and all stored ones are taken out in order: for every draw; no condition. -/
import Derived.Test.YtfinobpodmdkgaaSxP7
import Derived.Test.YtfinobpodmdkgaaRwD
namespace Go.Proofs.Ytfinobpodmdkgaa
open Go.RowKit Go.ChangeShapes Go.WideShapes Go.ChangeAt Go.Deep

set_option maxRecDepth 100000 in
theorem fnPagingBuffer_lifted (os : Os) (started : os.Started) (H : Type) (enc : TypeId × Value → H) :
    ReturnsInHanded {} Try.checked os 7 .any (Rows.fnPagingBufferSpec.pre6 enc Try.prog Try.f7 Rows.fnPagingBufferRow.domain false) (Rows.fnPagingBufferSpec.post enc Try.prog Try.f7 false true false false) := by
  refine returnsInHanded_of_change (C := Try.checked) own_ started (by kernel_rfl) Try.func7
    (ChangeSpec.witness6 (enc := enc) (C := Try.checked) false ⟨#[], #[.slice none 0 0], []⟩ 8 (by kernel_rfl) (by kernel_rfl) (by kernel_rfl) (by kernel_rfl)) ?_
  intro W base args ds gs before hval0 hW hcnd _
  have hval : ∀ (j : Nat) t v, Try.f7.params[j]? = some t → args[j]? = some v → Value.okWide Try.prog W .any base t v := hval0
  have hW' := hW
  obtain ⟨p, q, hA0, hV, rfl, hfz, hnd⟩ := hW
  have hA : DataW.TrodAll enc Try.prog W 0 (fun _ => true) true Try.f7.params.toList args.toList ds p := hA0
  have hA' := hA
  rw [Try.params7] at hA hval
  obtain ⟨v0, d0, rfl, rfl, h0⟩ := trodAll_one hA
  obtain ⟨rfl, rfl⟩ := trodVars_none hV
  obtain ⟨A, len, cap, b, o, rfl, hk⟩ := open_code Try.underlying42 Try.underlying5 (by kernel_rfl) (hval 0 42 v0 rfl rfl) h0
  simp only [List.append_nil] at hW' hA'
  refine (law_PagingBuffer A len b o cap W hk).mono fun e W' ⟨he, hh⟩ => ?_
  subst he
  exact ⟨_, rfl, law_post (by kernel_rfl) rfl hW' hA' (by kernel_rfl) rfl Try.underlying4 rfl (hh.below rfl)⟩
theorem fnPagingBuffer_holds : Rows.FnPagingBufferSaid :=
  OpenClaim.holds_of_wide 7 Try.f7 rfl rfl rfl rfl rfl rfl rfl ⟨rfl, rfl, rfl, rfl, rfl⟩ rfl rfl rfl rfl rfl (by kernel_rfl) Try.func7 (by kernel_rfl)
    (of_decide_eq_true (by kernel_rfl)) (by unfold Func.isWrapper; first | (rw [if_pos (by decide +kernel)]; kernel_rfl) | (rw [if_neg (by decide +kernel)]; exact ⟨rfl, rfl⟩))
    (fun os started H enc _ => fnPagingBuffer_lifted os started H enc)

end Go.Proofs.Ytfinobpodmdkgaa
