/- FormatSubscription of the program and of the reference agree on all arguments, over the tables of the library as the program text lays them. -/
import Derived.Test.YtlejciainnlfeaaDoorRwL
import Derived.Test.YtlejciainnlfeaaDoorCards
import Derived.Test.YtlejciainnlfeaaDoorTie
import Derived.SevenTiedAt
namespace Go.Proofs.YtlejciainnlfeaaDoor
open Go.RowKit

open Go
theorem fnExactFormatSubscription_holds : Rows.FnExactFormatSubscriptionCardSaid :=
  Claim7.holds_tied_plain_at .later [] [.data, .data, .data] true (true, "28c303a98693138130a914ce52991b3ba8d2cd57630cf60f3f2e892d8dd9cfa2") false
    row_holds (fun _ h => by cases h) (by kernel_rfl) (fun _ h => by cases h) fnExactFormatSubscription_row_tie rfl ⟨rfl, rfl⟩ (by kernel_rfl) rfl
    (fun f fn hf hfn => by
      obtain rfl : f = 3 := Option.some.inj ((show Tryd.prog.funcNamed "loop.example/g00509/laws.FnExactFormatSubscription" = some 3 by kernel_rfl).symm.trans hf) |>.symm
      obtain rfl : fn = Tryd.f3 := (Option.some.inj (Tryd.func3.symm.trans hfn)).symm
      exact ⟨by kernel_rfl, fun j t ht => by
        rw [Tryd.params3] at ht
        have hm : t ∈ [24] := by simpa using Array.mem_of_getElem? ht
        have hall : ([24].all fun u => !Tryd.prog.wantsStandIn u) = true := by kernel_rfl
        exact (show Tryd.prog.wantsStandIn t = false by simpa using List.all_eq_true.1 hall t hm)⟩)
    (by kernel_rfl)

end Go.Proofs.YtlejciainnlfeaaDoor
