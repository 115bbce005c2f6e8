/- The row: whatever the argument, the law returns true, where the listed tables read as the program lays them. -/
import Derived.Test.YtlejciainnlfeaaDoorRwK
namespace Go.Proofs.YtlejciainnlfeaaDoor
open Go.RowKit Go.ChangeShapes Go.WideShapes Go.ChangeAt Go.Deep

theorem door_met (os : Os) (args : Array Value) : laidMetH Tryd.prog laidL ((World.doorLaid Tryd.prog 4000 os).forCall (fun _ _ => 0) ⟨#[], args, []⟩).memory :=
  laidMetH_of_parts3 (fuel := 8) (laidMet_of_run' 8 (by kernel_rfl) (by kernel_rfl)) (by kernel_rfl) (by kernel_rfl)
set_option maxRecDepth 100000 in
theorem fmt_lifted (os : Os) (started : os.Started) (H : Type) (enc : TypeId × Value → H) :
    ReturnsInHanded {} Tryd.checked os 3 .any (fun w args => (Rows.fnExactFormatSubscriptionSpec.pre enc Tryd.prog Tryd.f3 [] false w args ∧ laidMetH Tryd.prog laidL w) ∧ sizedMet enc Tryd.prog Tryd.f3 (OpenSpec.ofChange Rows.fnExactFormatSubscriptionSpec) false w args)
      (Rows.fnExactFormatSubscriptionSpec.post enc Tryd.prog Tryd.f3 false true false false) := by
  refine returnsInHanded_of_change_and (C := Tryd.checked) (X := fun w _ => laidMetH Tryd.prog laidL w) (fun _ _ _ hh h => h.of_heap hh) own_ started (by kernel_rfl) Tryd.func3
    (ChangeSpec.witness_shaped (enc := enc) (C := Tryd.checked) (os := os) (X := fun w _ => laidMetH Tryd.prog laidL w) false (World.doorLaid Tryd.prog 4000 os) #[.agg #[.int .i64 0, .int .i64 0, .int .i64 0, .slice none 0 0]] 8 rfl (World.shaped_of_RefB (by kernel_rfl) (by kernel_rfl)) (by kernel_rfl) (by kernel_rfl) (by kernel_rfl) (door_met os _)) ?_
  intro W base args ds gs before hval0 hW _ _ hL _
  have hval : ∀ (j : Nat) t v, Tryd.f3.params[j]? = some t → args[j]? = some v → Value.okWide Tryd.prog W .any base t v := hval0
  have hW' := hW
  obtain ⟨p, q, hA0, hV, rfl, hfz, hnd⟩ := hW'
  have hA : DataW.TrodAll enc Tryd.prog W 0 (fun _ => true) true Tryd.f3.params.toList args.toList ds p := hA0
  have hA' := hA
  rw [Tryd.params3] at hA hval
  obtain ⟨v0, d0, rfl, rfl, h0⟩ := trodAll_one hA
  obtain ⟨rfl, rfl⟩ := trodVars_none hV
  obtain ⟨u0, u1, u2, u3, y0, y1, y2, y3, nn, rfl, rfl, rfl, k0, k1, k2, k3⟩ := Joins.open_agg4 Tryd.underlying24 (by kernel_rfl) (by kernel_rfl) (hval 0 24 v0 rfl rfl) h0
  obtain ⟨a0, e0, _, w0⟩ := DataW.trod_int Tryd.underlying3 k0
  obtain ⟨a1, e1, _, w1⟩ := DataW.trod_int Tryd.underlying3 k1
  obtain ⟨a2, e2, _, w2⟩ := DataW.trod_int Tryd.underlying3 k2
  obtain rfl : u0 = .int .i64 a0 := by simpa using e0
  obtain rfl : u1 = .int .i64 a1 := by simpa using e1
  obtain rfl : u2 = .int .i64 a2 := by simpa using e2
  obtain ⟨A, cap, b, o, xs, rfl, hlc, hcm, hS, hr⟩ := open_ints Tryd.underlying22 Tryd.underlying3 (by kernel_rfl) k3
  have ht := tab_of_laid hL
  simp only [List.append_nil] at hW hA'
  refine (law_FormatSubscription ⟨a0, a1, a2, xs⟩ A b o cap W hS (Nat.le_trans hlc hcm) ⟨rng_of w0, rng_of w1, rng_of w2, hr⟩ ht).mono fun e W' ⟨he, hh⟩ => ?_
  subst he
  exact ⟨_, rfl, law_post (by kernel_rfl) rfl hW hA' (by kernel_rfl) rfl Tryd.underlying4 rfl (hh.below rfl)⟩
theorem row_holds : Rows.FnExactFormatSubscriptionSaid :=
  OpenClaim.holds_of_wide 3 Tryd.f3 rfl rfl rfl rfl rfl rfl rfl ⟨rfl, rfl, rfl, rfl, rfl⟩ rfl rfl rfl rfl rfl (by kernel_rfl) Tryd.func3 (by kernel_rfl)
    (of_decide_eq_true (by kernel_rfl)) (by unfold Func.isWrapper; first | (rw [if_pos (by decide +kernel)]; kernel_rfl) | (rw [if_neg (by decide +kernel)]; exact ⟨rfl, rfl⟩))
    (fun os started H enc _ => fmt_lifted os started H enc)

end Go.Proofs.YtlejciainnlfeaaDoor
