/-
  No cell of these rows narrows 'for every input' (looked for: loops, veiled, ifaces, maps, wideKeys, modest, calm, conditions, laid).
  DERIVED. THE GIVEN ROWS OF THIS SEAT. 7 by the template 'for every input the law returns true; each argument reads behind the call as it read before'; 0 by the template 'total and deterministic' (their statements: YtlpiogbbplfliaaTotals.lean).
  GIVEN WITH THE SEED: the statements are not yours to turn. If you find one false, say at which input.
  Laid BY PROGRAM, IN A SANDBOX (cutbox-rows.mjs): the forced cells as the released guide's own fill.sh prints them over the translation 00c2ceaf6c9ecbe5… (all of the seat's roots in one cut). By AI agents, Wed Nov 11 2026. No macro, syntax, notation, axiom, sorry.
-/
import Derived.Test.YtlpiogbbplfliaaChecked
import GoSem.Claim
import GoSem.ClaimJoined
import GoSem.ClaimMapViews
import Derived.JoinedTies
import Derived.KernelRfl
namespace Go.Proofs.Ytlpiogbbplfliaa
/- THE CELL 'sum', in the pinned program and in every row, IS THE sha256 OF THE DUMP (.gsa) THAT YtlpiogbbplfliaaProg.lean LOADS. Nothing in Lean hashes anything: it is a label: what it is worth is what the hold of that sum in a sandbox is worth. -/
noncomputable def Try.pinned : Pinned := { name := "ytlpiogbbplfliaa", sum := "00c2ceaf6c9ecbe5ae1bb951232c5f7dc36c0705ebd774a089bf2370fbcb8641", checked := Try.checked }
namespace Rows
def none {H : Type} : Left H := { results := [], args := [] }

/-- 'laws.FnExactRoamingAllowed': WHATEVER THE INPUT: true; the input reads as it did. -/
def fnExactRoamingAllowedSpec : ChangeSpec := { name := "fnExactRoamingAllowed", fn := fun _ => fun
  | [d1, d2, d3] => { results := [.lit (.bool true)], args := [d1, d2, d3] }
  | _ => none }
def fnExactRoamingAllowedRow : OpenClaim := { program := "ytlpiogbbplfliaa", sum := "00c2ceaf6c9ecbe5ae1bb951232c5f7dc36c0705ebd774a089bf2370fbcb8641", func := "loop.example/g00509/laws.FnExactRoamingAllowed", spec := "fnExactRoamingAllowed", apart := false }
def FnExactRoamingAllowedSaid : Prop := fnExactRoamingAllowedRow.holds Try.pinned (OpenSpec.ofChange fnExactRoamingAllowedSpec)

/-- ITS FALSE NEIGHBOUR: 'it returns false'. Refute it at one input. -/
def fnExactRoamingAllowedWrong : ChangeSpec := { name := "fnExactRoamingAllowed", fn := fun _ => fun
  | [d1, d2, d3] => { results := [.lit (.bool false)], args := [d1, d2, d3] }
  | _ => none }
def FnExactRoamingAllowedWrongFalsely : Prop := fnExactRoamingAllowedRow.holds Try.pinned (OpenSpec.ofChange fnExactRoamingAllowedWrong)

/-- 'laws.FnExactIsValidSubscription': WHATEVER THE INPUT: true; the input reads as it did. -/
def fnExactIsValidSubscriptionSpec : ChangeSpec := { name := "fnExactIsValidSubscription", fn := fun _ => fun
  | [d] => { results := [.lit (.bool true)], args := [d] }
  | _ => none }
def fnExactIsValidSubscriptionRow : OpenClaim := { program := "ytlpiogbbplfliaa", sum := "00c2ceaf6c9ecbe5ae1bb951232c5f7dc36c0705ebd774a089bf2370fbcb8641", func := "loop.example/g00509/laws.FnExactIsValidSubscription", spec := "fnExactIsValidSubscription", apart := false }
def FnExactIsValidSubscriptionSaid : Prop := fnExactIsValidSubscriptionRow.holds Try.pinned (OpenSpec.ofChange fnExactIsValidSubscriptionSpec)

/-- ITS FALSE NEIGHBOUR: 'it returns false'. Refute it at one input. -/
def fnExactIsValidSubscriptionWrong : ChangeSpec := { name := "fnExactIsValidSubscription", fn := fun _ => fun
  | [d] => { results := [.lit (.bool false)], args := [d] }
  | _ => none }
def FnExactIsValidSubscriptionWrongFalsely : Prop := fnExactIsValidSubscriptionRow.holds Try.pinned (OpenSpec.ofChange fnExactIsValidSubscriptionWrong)

/-- 'laws.FnExactEqualSubscriptions': WHATEVER THE INPUT: true; the input reads as it did. -/
def fnExactEqualSubscriptionsSpec : ChangeSpec := { name := "fnExactEqualSubscriptions", fn := fun _ => fun
  | [d1, d2] => { results := [.lit (.bool true)], args := [d1, d2] }
  | _ => none }
def fnExactEqualSubscriptionsRow : OpenClaim := { program := "ytlpiogbbplfliaa", sum := "00c2ceaf6c9ecbe5ae1bb951232c5f7dc36c0705ebd774a089bf2370fbcb8641", func := "loop.example/g00509/laws.FnExactEqualSubscriptions", spec := "fnExactEqualSubscriptions", apart := false }
def FnExactEqualSubscriptionsSaid : Prop := fnExactEqualSubscriptionsRow.holds Try.pinned (OpenSpec.ofChange fnExactEqualSubscriptionsSpec)

/-- ITS FALSE NEIGHBOUR: 'it returns false'. Refute it at one input. -/
def fnExactEqualSubscriptionsWrong : ChangeSpec := { name := "fnExactEqualSubscriptions", fn := fun _ => fun
  | [d1, d2] => { results := [.lit (.bool false)], args := [d1, d2] }
  | _ => none }
def FnExactEqualSubscriptionsWrongFalsely : Prop := fnExactEqualSubscriptionsRow.holds Try.pinned (OpenSpec.ofChange fnExactEqualSubscriptionsWrong)

/-- 'laws.FnExactLimitBearer': WHATEVER THE INPUT: true; the input reads as it did. -/
def fnExactLimitBearerSpec : ChangeSpec := { name := "fnExactLimitBearer", fn := fun _ => fun
  | [d1, d2] => { results := [.lit (.bool true)], args := [d1, d2] }
  | _ => none }
def fnExactLimitBearerRow : OpenClaim := { program := "ytlpiogbbplfliaa", sum := "00c2ceaf6c9ecbe5ae1bb951232c5f7dc36c0705ebd774a089bf2370fbcb8641", func := "loop.example/g00509/laws.FnExactLimitBearer", spec := "fnExactLimitBearer", apart := false }
def FnExactLimitBearerSaid : Prop := fnExactLimitBearerRow.holds Try.pinned (OpenSpec.ofChange fnExactLimitBearerSpec)

/-- ITS FALSE NEIGHBOUR: 'it returns false'. Refute it at one input. -/
def fnExactLimitBearerWrong : ChangeSpec := { name := "fnExactLimitBearer", fn := fun _ => fun
  | [d1, d2] => { results := [.lit (.bool false)], args := [d1, d2] }
  | _ => none }
def FnExactLimitBearerWrongFalsely : Prop := fnExactLimitBearerRow.holds Try.pinned (OpenSpec.ofChange fnExactLimitBearerWrong)

/-- 'laws.FnExactWithinSubscription': WHATEVER THE INPUT: true; the input reads as it did. -/
def fnExactWithinSubscriptionSpec : ChangeSpec := { name := "fnExactWithinSubscription", fn := fun _ => fun
  | [d1, d2] => { results := [.lit (.bool true)], args := [d1, d2] }
  | _ => none }
def fnExactWithinSubscriptionRow : OpenClaim := { program := "ytlpiogbbplfliaa", sum := "00c2ceaf6c9ecbe5ae1bb951232c5f7dc36c0705ebd774a089bf2370fbcb8641", func := "loop.example/g00509/laws.FnExactWithinSubscription", spec := "fnExactWithinSubscription", apart := false }
def FnExactWithinSubscriptionSaid : Prop := fnExactWithinSubscriptionRow.holds Try.pinned (OpenSpec.ofChange fnExactWithinSubscriptionSpec)

/-- ITS FALSE NEIGHBOUR: 'it returns false'. Refute it at one input. -/
def fnExactWithinSubscriptionWrong : ChangeSpec := { name := "fnExactWithinSubscription", fn := fun _ => fun
  | [d1, d2] => { results := [.lit (.bool false)], args := [d1, d2] }
  | _ => none }
def FnExactWithinSubscriptionWrongFalsely : Prop := fnExactWithinSubscriptionRow.holds Try.pinned (OpenSpec.ofChange fnExactWithinSubscriptionWrong)

/-- 'laws.FnExactLimitBearers': WHATEVER THE INPUT: true; the input reads as it did. -/
def fnExactLimitBearersSpec : ChangeSpec := { name := "fnExactLimitBearers", fn := fun _ => fun
  | [d1, d2] => { results := [.lit (.bool true)], args := [d1, d2] }
  | _ => none }
def fnExactLimitBearersRow : OpenClaim := { program := "ytlpiogbbplfliaa", sum := "00c2ceaf6c9ecbe5ae1bb951232c5f7dc36c0705ebd774a089bf2370fbcb8641", func := "loop.example/g00509/laws.FnExactLimitBearers", spec := "fnExactLimitBearers", apart := false }
def FnExactLimitBearersSaid : Prop := fnExactLimitBearersRow.holds Try.pinned (OpenSpec.ofChange fnExactLimitBearersSpec)

/-- ITS FALSE NEIGHBOUR: 'it returns false'. Refute it at one input. -/
def fnExactLimitBearersWrong : ChangeSpec := { name := "fnExactLimitBearers", fn := fun _ => fun
  | [d1, d2] => { results := [.lit (.bool false)], args := [d1, d2] }
  | _ => none }
def FnExactLimitBearersWrongFalsely : Prop := fnExactLimitBearersRow.holds Try.pinned (OpenSpec.ofChange fnExactLimitBearersWrong)

/-- 'laws.FnSubscriptionLimits': WHATEVER THE INPUT: true; the input reads as it did. -/
def fnSubscriptionLimitsSpec : ChangeSpec := { name := "fnSubscriptionLimits", fn := fun _ => fun
  | [d] => { results := [.lit (.bool true)], args := [d] }
  | _ => none }
def fnSubscriptionLimitsRow : OpenClaim := { program := "ytlpiogbbplfliaa", sum := "00c2ceaf6c9ecbe5ae1bb951232c5f7dc36c0705ebd774a089bf2370fbcb8641", func := "loop.example/g00509/laws.FnSubscriptionLimits", spec := "fnSubscriptionLimits", apart := false }
def FnSubscriptionLimitsSaid : Prop := fnSubscriptionLimitsRow.holds Try.pinned (OpenSpec.ofChange fnSubscriptionLimitsSpec)

/-- ITS FALSE NEIGHBOUR: 'it returns false'. Refute it at one input. -/
def fnSubscriptionLimitsWrong : ChangeSpec := { name := "fnSubscriptionLimits", fn := fun _ => fun
  | [d] => { results := [.lit (.bool false)], args := [d] }
  | _ => none }
def FnSubscriptionLimitsWrongFalsely : Prop := fnSubscriptionLimitsRow.holds Try.pinned (OpenSpec.ofChange fnSubscriptionLimitsWrong)

/- THE SECOND FORM. 'bulk': how many values and letters a reading holds, each counted each time it is reached (what is shared counts as often as it is met; a slice's spare places count too). A statement '..UptoSaid' is the law's where the arguments, and the package variables that the reading takes, are together of bulk at most 1048576: NARROWER than '..Said'. Prove '..Said' where nothing that the law and all that it calls make is longer than what came in: it says more and counts as full. Else prove '..UptoSaid'. A law counts once. -/
mutual
def uptoBulk {H : Type} : DataW H → Nat
  | .lit (.string bytes) => bytes.length + 1
  | .lit _ => 1
  | .nil => 1
  | .ptr d => uptoBulk d + 1
  | .slice elems spare => uptoBulkAll elems + uptoBulkAll spare + 1
  | .agg parts => uptoBulkAll parts + 1
  | .iface _ d => uptoBulk d + 1
  | .map entries => uptoBulkEntries entries + 1
  | .held _ => 1
def uptoBulkAll {H : Type} : List (DataW H) → Nat
  | [] => 0
  | d :: r => uptoBulk d + uptoBulkAll r
def uptoBulkEntries {H : Type} : List (Lit × DataW H) → Nat
  | [] => 0
  | x :: r => uptoBulkEntry x + uptoBulkEntries r
def uptoBulkEntry {H : Type} : Lit × DataW H → Nat
  | (.string bytes, d) => bytes.length + uptoBulk d + 1
  | (_, d) => uptoBulk d + 1
 end
def uptoSmall : (H : Type) → List (DataW H) → Bool := fun _ ds => decide (uptoBulkAll ds ≤ 1048576)
def OpenSpec.upto (s : _root_.Go.ChangeSpec) : _root_.Go.OpenSpec := { _root_.Go.OpenSpec.ofChange s with cond := some uptoSmall }

/-- 'laws.FnExactRoamingAllowed', WHERE WHAT IT READS IS OF BULK AT MOST 1048576: true; the input reads as it did. -/
def fnExactRoamingAllowedUptoRow : OpenClaim := { program := "ytlpiogbbplfliaa", sum := "00c2ceaf6c9ecbe5ae1bb951232c5f7dc36c0705ebd774a089bf2370fbcb8641", func := "loop.example/g00509/laws.FnExactRoamingAllowed", spec := "fnExactRoamingAllowed", apart := false, narrowed := true }
def FnExactRoamingAllowedUptoSaid : Prop := fnExactRoamingAllowedUptoRow.holds Try.pinned (OpenSpec.upto fnExactRoamingAllowedSpec)

/-- 'laws.FnExactIsValidSubscription', WHERE WHAT IT READS IS OF BULK AT MOST 1048576: true; the input reads as it did. -/
def fnExactIsValidSubscriptionUptoRow : OpenClaim := { program := "ytlpiogbbplfliaa", sum := "00c2ceaf6c9ecbe5ae1bb951232c5f7dc36c0705ebd774a089bf2370fbcb8641", func := "loop.example/g00509/laws.FnExactIsValidSubscription", spec := "fnExactIsValidSubscription", apart := false, narrowed := true }
def FnExactIsValidSubscriptionUptoSaid : Prop := fnExactIsValidSubscriptionUptoRow.holds Try.pinned (OpenSpec.upto fnExactIsValidSubscriptionSpec)

/-- 'laws.FnExactEqualSubscriptions', WHERE WHAT IT READS IS OF BULK AT MOST 1048576: true; the input reads as it did. -/
def fnExactEqualSubscriptionsUptoRow : OpenClaim := { program := "ytlpiogbbplfliaa", sum := "00c2ceaf6c9ecbe5ae1bb951232c5f7dc36c0705ebd774a089bf2370fbcb8641", func := "loop.example/g00509/laws.FnExactEqualSubscriptions", spec := "fnExactEqualSubscriptions", apart := false, narrowed := true }
def FnExactEqualSubscriptionsUptoSaid : Prop := fnExactEqualSubscriptionsUptoRow.holds Try.pinned (OpenSpec.upto fnExactEqualSubscriptionsSpec)

/-- 'laws.FnExactLimitBearer', WHERE WHAT IT READS IS OF BULK AT MOST 1048576: true; the input reads as it did. -/
def fnExactLimitBearerUptoRow : OpenClaim := { program := "ytlpiogbbplfliaa", sum := "00c2ceaf6c9ecbe5ae1bb951232c5f7dc36c0705ebd774a089bf2370fbcb8641", func := "loop.example/g00509/laws.FnExactLimitBearer", spec := "fnExactLimitBearer", apart := false, narrowed := true }
def FnExactLimitBearerUptoSaid : Prop := fnExactLimitBearerUptoRow.holds Try.pinned (OpenSpec.upto fnExactLimitBearerSpec)

/-- 'laws.FnExactWithinSubscription', WHERE WHAT IT READS IS OF BULK AT MOST 1048576: true; the input reads as it did. -/
def fnExactWithinSubscriptionUptoRow : OpenClaim := { program := "ytlpiogbbplfliaa", sum := "00c2ceaf6c9ecbe5ae1bb951232c5f7dc36c0705ebd774a089bf2370fbcb8641", func := "loop.example/g00509/laws.FnExactWithinSubscription", spec := "fnExactWithinSubscription", apart := false, narrowed := true }
def FnExactWithinSubscriptionUptoSaid : Prop := fnExactWithinSubscriptionUptoRow.holds Try.pinned (OpenSpec.upto fnExactWithinSubscriptionSpec)

/-- 'laws.FnExactLimitBearers', WHERE WHAT IT READS IS OF BULK AT MOST 1048576: true; the input reads as it did. -/
def fnExactLimitBearersUptoRow : OpenClaim := { program := "ytlpiogbbplfliaa", sum := "00c2ceaf6c9ecbe5ae1bb951232c5f7dc36c0705ebd774a089bf2370fbcb8641", func := "loop.example/g00509/laws.FnExactLimitBearers", spec := "fnExactLimitBearers", apart := false, narrowed := true }
def FnExactLimitBearersUptoSaid : Prop := fnExactLimitBearersUptoRow.holds Try.pinned (OpenSpec.upto fnExactLimitBearersSpec)

/-- 'laws.FnSubscriptionLimits', WHERE WHAT IT READS IS OF BULK AT MOST 1048576: true; the input reads as it did. -/
def fnSubscriptionLimitsUptoRow : OpenClaim := { program := "ytlpiogbbplfliaa", sum := "00c2ceaf6c9ecbe5ae1bb951232c5f7dc36c0705ebd774a089bf2370fbcb8641", func := "loop.example/g00509/laws.FnSubscriptionLimits", spec := "fnSubscriptionLimits", apart := false, narrowed := true }
def FnSubscriptionLimitsUptoSaid : Prop := fnSubscriptionLimitsUptoRow.holds Try.pinned (OpenSpec.upto fnSubscriptionLimitsSpec)

end Rows
end Go.Proofs.Ytlpiogbbplfliaa
