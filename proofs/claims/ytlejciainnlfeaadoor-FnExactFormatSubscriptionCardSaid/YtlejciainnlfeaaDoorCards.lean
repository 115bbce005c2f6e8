/-
  DERIVED. GIVEN WITH THE SEED: THE CARDS: each row of YtlejciainnlfeaaDoorRows.lean that lists a variable, with what it lists TIED to the program's text (the seventh form; the later family's looks); each row that meets fmt, with fmt's text TOLD by the authors' own Lean function (tested against real Go, not proved from fmt's source: count such statements apart). THE CARD IS WHAT COUNTS. Prove the row's statement (the work); the ties are given (YtlejciainnlfeaaDoorTie.lean); close each card by the builder's one call (the guide's Derived/Test/ToyasCard.lean, 'card_holds'). Laid BY PROGRAM, IN A SANDBOX (cutbox-door.mjs). By AI agents, Wed Nov 11 2026. No macro, syntax, notation, axiom, sorry.
-/
import Derived.Test.YtlejciainnlfeaaDoorRows
import GoSem.ClaimSeven
namespace Go.Proofs.YtlejciainnlfeaaDoor
namespace Rows

/-- THE TIED CARD OF 'laws.FnExactFormatSubscription'. -/
def fnExactFormatSubscriptionCard : Claim7 := { stood := { row := fnExactFormatSubscriptionRow, standIns := [], harness := (true, "28c303a98693138130a914ce52991b3ba8d2cd57630cf60f3f2e892d8dd9cfa2"), looks := false }, kinds := [], alts := [], laidByText := true, laidKinds := [.data, .data, .data], laidTests := true, laidLooks := .later }
def FnExactFormatSubscriptionCardSaid : Prop := Claim7.holds Tryd.pinned (.plain (OpenSpec.ofChange fnExactFormatSubscriptionSpec)) fnExactFormatSubscriptionCard

/-- THE SECOND FORM's CARD OF 'laws.FnExactFormatSubscription'. -/
def fnExactFormatSubscriptionUptoCard : Claim7 := { stood := { row := fnExactFormatSubscriptionUptoRow, standIns := [], harness := (true, "28c303a98693138130a914ce52991b3ba8d2cd57630cf60f3f2e892d8dd9cfa2"), looks := false }, kinds := [], alts := [], laidByText := true, laidKinds := [.data, .data, .data], laidTests := true, laidLooks := .later }
def FnExactFormatSubscriptionUptoCardSaid : Prop := Claim7.holds Tryd.pinned (.plain (OpenSpec.upto fnExactFormatSubscriptionSpec)) fnExactFormatSubscriptionUptoCard
end Rows
end Go.Proofs.YtlejciainnlfeaaDoor
